import PyProof.Rows.All
import Wide.All
import OpenK.AllK
import Wide.FinOn
import HandS.ForMost
import HandS.ForExc
import HandS.Defaults
import KE.KDictCopyH
import KE.KDictDisplayH
import HandS.TupAny
import HandS.TupMul
import HandS.Deep
import HandS.IsInst
import HandS.WordsExc
import HandS.Walk
import KE.GoesEnum
import HandS.Zip
import HandS.DictTup
import KE.KDictZip
import HandS.Style
import KE.DataMinMax
import HandS.HeadHook2
import HandS.Head0
import HandS.Head1
import HandS.Head2
import HandS.HeadEnd
import HandS.HeadHook1
import PySem.Challenge.RW_butfewrows_k05_whole_rings
set_option Elab.async false
set_option linter.all false
set_option autoImplicit false
set_option maxRecDepth 100000
set_option maxHeartbeats 2000000
namespace BF
open PySem PySem.Spec PyProof.Rows L2

/-- data -/
inductive D where
  | non | bl (b : Bool) | int (i : Int) | str (x : Str) | lst (xs : List D) | tup (xs : List D) | dct (kvs : List (D × D)) | obj (c : Str) (fs : List (Str × D)) | ref (a : Addr) | ty (n : String)
  deriving Inhabited

/-- what a value stands for, over the frozen heap F; co: the classes' addresses -/
structure Env1 where
  K : PySem.W.Frag
  co : Str → Addr
  cs : List Str
  w : World

/-- a dict by its object's entries -/
def rawD (a : Addr) (es : Array DictEntry) (ep : Nat) : HO := .ext fun h => h.DictRaw a es ep ∧ (a == sysModules) = false ∧ es.size ≤ sizeLine
/-! ### keys -/
mutual
def nk : D → NestedKey
  | .bl b => .num (if b = true then 1 else 0)
  | .int i => .num i
  | .str x => .text x
  | .tup xs => .tup (nks xs)
  | _ => .none
def nks : List D → List NestedKey
  | [] => []
  | d :: ds => nk d :: nks ds
end
/-- a key carried by value -/
def leafK : D → Bool
  | .non => true
  | .bl _ => true
  | .int _ => true
  | .str _ => true
  | _ => false
/-- data of a key, to a depth -/
def keyN : Nat → D → Bool
  | _, .non => true
  | _, .bl _ => true
  | _, .int _ => true
  | _, .str _ => true
  | n + 1, .tup xs => xs.all (keyN n)
  | _, _ => false
/-- a key that is a tuple -/
def tupK : D → Bool
  | .tup xs => xs.all (keyN 7)
  | _ => false
def nodupN : List NestedKey → Bool
  | [] => true
  | k :: ks => !ks.any (fun j => NestedKey.beq j k) && nodupN ks
/-- keys of one sort, all unlike -/
def dOk (ks : List D) : Bool := (ks.all leafK || ks.all tupK) && nodupN (ks.map nk)
def hashD (w : World) (d : D) : Int := (nk d).hash w

/-- a tuple: tracked, or of the written part -/
def TupAt (K : PySem.W.Frag) (F : Hp) (a : Addr) (xs : List V) : Prop :=
  F a = some (.tup xs) ∨ ∃ (o : Obj) (its : Array Value) (n : Nat), K.lookup a = some o ∧ o.cls = .type "tuple" ∧ o.data = .seq its n ∧ its.size ≤ sizeLine ∧ Vals xs its.toList
theorem TupAt.sq {K : PySem.W.Frag} {F : Hp} {a : Addr} {xs : List V} (h : TupAt K F a xs) : SqT K F a xs := h.elim (fun h => .inl (.inl h)) .inr
mutual
inductive Rep (K : Env1) (F : Hp) : V → D → Prop
  | non : Rep K F .non .non
  | bl (b : Bool) : Rep K F (.bl b) (.bl b)
  | int (i : Int) : Rep K F (.int i) (.int i)
  | str (x : Str) : Rep K F (.str x) (.str x)
  | ref (a : Addr) : Rep K F (.ref a) (.ref a)
  | ty (n : String) : Rep K F (.ty n) (.ty n)
  | lst {a : Addr} {vs : List V} {ds : List D} : F a = some (.lst vs) → Reps K F vs ds → Rep K F (.ref a) (.lst ds)
  | tup {a : Addr} {vs : List V} {ds : List D} : TupAt K.K F a vs → Reps K F vs ds → Rep K F (.ref a) (.tup ds)
  | obj {a dx : Addr} {c : Str} {fvs : List (Str × V)} {fs : List (Str × D)} : F a = some (.ins (K.co c) dx fvs) → fvs.map (·.1) = fs.map (·.1) → Reps K F (fvs.map (·.2)) (fs.map (·.2)) → Rep K F (.ref a) (.obj c fs)
  | dct {a : Addr} {es : Array DictEntry} {ep : Nat} {kvs : List (D × D)} : F a = some (rawD a es ep) → RepK K F es.toList kvs → dOk (kvs.map (·.1)) = true → Rep K F (.ref a) (.dct kvs)
inductive Reps (K : Env1) (F : Hp) : List V → List D → Prop
  | nil : Reps K F [] []
  | cons {v : V} {vs : List V} {d : D} {ds : List D} : Rep K F v d → Reps K F vs ds → Reps K F (v :: vs) (d :: ds)
inductive RepK (K : Env1) (F : Hp) : List DictEntry → List (D × D) → Prop
  | nil : RepK K F [] []
  | cons {e : DictEntry} {es : List DictEntry} {x y : V} {k v : D} {kvs : List (D × D)} : e.hash = hashD K.w k → RelV x e.key → Rep K F x k → RelV y e.val → Rep K F y v → RepK K F es kvs → RepK K F (e :: es) ((k, v) :: kvs)
end

/-- one heap within another -/
def Le (F G : Hp) : Prop := ∀ a o, F a = some o → G a = some o
theorem Le.refl (F : Hp) : Le F F := fun _ _ h => h
theorem Le.trans {F G H : Hp} (a : Le F G) (b : Le G H) : Le F H := fun x o h => b x o (a x o h)
theorem Le.sqL {K : PySem.W.Frag} {F G : Hp} {a : Addr} {xs : List V} (e : Le F G) (h : SqL K F a xs) : SqL K G a xs := by
  rcases h with (h | ⟨o, h⟩) | h
  · exact .inl (.inl (e _ _ h))
  · exact .inl (.inr ⟨o, e _ _ h⟩)
  · exact .inr h
theorem Le.sqT {K : PySem.W.Frag} {F G : Hp} {a : Addr} {xs : List V} (e : Le F G) (h : TupAt K F a xs) : TupAt K G a xs := by
  rcases h with h | h
  · exact .inl (e _ _ h)
  · exact .inr h
mutual
theorem Rep.mono {K : Env1} {F G : Hp} (e : Le F G) : ∀ {v : V} {d : D}, Rep K F v d → Rep K G v d
  | _, _, .non => .non
  | _, _, .bl b => .bl b
  | _, _, .int i => .int i
  | _, _, .str x => .str x
  | _, _, .ref a => .ref a
  | _, _, .ty n => .ty n
  | _, _, .lst h r => .lst (e _ _ h) (Reps.mono e r)
  | _, _, .tup h r => .tup (e.sqT h) (Reps.mono e r)
  | _, _, .obj h n r => .obj (e _ _ h) n (Reps.mono e r)
  | _, _, .dct h r n => .dct (e _ _ h) (RepK.mono e r) n
theorem Reps.mono {K : Env1} {F G : Hp} (e : Le F G) : ∀ {vs : List V} {ds : List D}, Reps K F vs ds → Reps K G vs ds
  | _, _, .nil => .nil
  | _, _, .cons h r => .cons (Rep.mono e h) (Reps.mono e r)
theorem RepK.mono {K : Env1} {F G : Hp} (e : Le F G) : ∀ {es : List DictEntry} {kvs : List (D × D)}, RepK K F es kvs → RepK K G es kvs
  | _, _, .nil => .nil
  | _, _, .cons h1 h2 h3 h4 h5 r => .cons h1 h2 (Rep.mono e h3) h4 (Rep.mono e h5) (RepK.mono e r)
end
end BF
set_option Elab.async false
set_option linter.all false
set_option autoImplicit false
set_option maxRecDepth 100000
set_option maxHeartbeats 2000000
namespace BF
open PySem PySem.Spec PyProof.Rows L2
abbrev Sl := L2.St

/-- an error: its class, its fields -/
structure Er where
  cls : Str
  fs : List (Str × D)
/-- a def's local state: slots (whether the object is the slot's own, its data), the shared state -/
structure Sg (G : Type) where
  sl : List (Option (Bool × D))
  g : G
inductive Rs (G α : Type) where
  | ok (a : α) (s : Sg G)
  | er (x : Er) (g : G)
  | no
def Rs.bind {G α β : Type} (r : Rs G α) (f : α → Sg G → Rs G β) : Rs G β := match r with
  | .ok a s => f a s
  | .er x g => .er x g
  | .no => .no
/-- an operand: data, new data (a list or dict that nobody holds), a slot -/
inductive Ov where
  | vl (d : D) | fr (d : D) | pl (i : Nat)
def look {G : Type} (s : Sg G) (i : Nat) : Option D := match s.sl[i]? with
  | some (some (_, d)) => some d
  | _ => none
/-- read an operand -/
def pk {G : Type} (s : Sg G) : Ov → Option D
  | .vl d => some d
  | .fr d => some d
  | .pl i => look s i
/-- the shared state: the addresses that are its own, what it says of the heap -/
structure Gt (G : Type) where
  fp : Addr → Prop
  gr : G → Hp → Prop
  live : ∀ g H a, gr g H → fp a → H a ≠ none
  dep : ∀ g H H', gr g H → (∀ a, fp a → H' a = H a) → gr g H'
/-- what stands at an own object, shallow -/
def Shl (K : Env1) (F H : Hp) (p : Addr) : D → Prop
  | .lst ds => ∃ vs, H p = some (.lst vs) ∧ Reps K F vs ds
  | .dct kvs => ∃ es ep, H p = some (rawD p es ep) ∧ RepK K F es.toList kvs ∧ dOk (kvs.map (·.1)) = true
  | _ => False
section
variable {G : Type}
/-- a slot's own object -/
def Ownd (s : Sg G) (σ : Sl) (a : Addr) : Prop := ∃ (i : Nat) (d : D), s.sl[i]? = some (some (true, d)) ∧ σ[i]? = some (some (.ref a))
structure Rl (K : Env1) (T : Gt G) (F H : Hp) (s : Sg G) (σ : Sl) : Prop where
  sub : Le F H
  len : s.sl.length = σ.length
  val : ∀ (i : Nat) (d : D), s.sl[i]? = some (some (false, d)) → ∃ v, σ[i]? = some (some v) ∧ Rep K F v d
  own : ∀ (i : Nat) (d : D), s.sl[i]? = some (some (true, d)) → ∃ p, σ[i]? = some (some (.ref p)) ∧ F p = none ∧ ¬ T.fp p ∧ Shl K F H p d
  inj : ∀ (i j : Nat) (d e : D) (p : Addr), s.sl[i]? = some (some (true, d)) → s.sl[j]? = some (some (true, e)) → σ[i]? = some (some (.ref p)) → σ[j]? = some (some (.ref p)) → i = j
  gs : T.gr s.g H
  gf : ∀ a, T.fp a → F a = none
/-- a step: what stood stands but for what is own; what is newly frozen was new or own; what is newly own was new -/
structure Stp (T : Gt G) (F H : Hp) (s : Sg G) (σ : Sl) (F' H' : Hp) (s' : Sg G) (σ' : Sl) : Prop where
  le : Le F F'
  keep : ∀ a o, H a = some o → ¬ Ownd s σ a → ¬ T.fp a → H' a = some o
  new : ∀ a, F' a ≠ none → F a ≠ none ∨ H a = none ∨ Ownd s σ a
  own : ∀ a, Ownd s' σ' a → Ownd s σ a ∨ H a = none
  kp : ∀ (i : Nat) (y : Bool × D), s.sl[i]? = some (some y) → ∃ z, s'.sl[i]? = some (some z)
  grow : ∀ a, H a ≠ none → H' a ≠ none
theorem Stp.refl (T : Gt G) (F H : Hp) (s : Sg G) (σ : Sl) : Stp T F H s σ F H s σ := ⟨Le.refl _, fun _ _ h _ _ => h, fun _ h => .inl h, fun _ h => .inl h, fun _ y h => ⟨y, h⟩, fun _ h => h⟩
theorem Stp.trans {K : Env1} {T : Gt G} {F H F1 H1 F2 H2 : Hp} {s s1 s2 : Sg G} {σ σ1 σ2 : Sl} (a : Stp T F H s σ F1 H1 s1 σ1) (b : Stp T F1 H1 s1 σ1 F2 H2 s2 σ2) (R : Rl K T F H s σ) (R2 : Rl K T F2 H2 s2 σ2) : Stp T F H s σ F2 H2 s2 σ2 where
  le := a.le.trans b.le
  keep := fun x o h n f => b.keep x o (a.keep x o h n f) (fun z => by
    rcases a.own x z with z | z
    · exact n z
    · rw [h] at z; cases z) f
  new := fun x h => by
    rcases b.new x h with z | z | z
    · exact a.new x z
    · cases e : H x with
      | none => exact .inr (.inl rfl)
      | some o =>
        refine .inr (.inr ?_)
        apply Classical.byContradiction
        intro n
        have nf : ¬ T.fp x := fun q => h (R2.gf x q)
        rw [a.keep x o e n nf] at z; cases z
    · rcases a.own x z with z | z
      · exact .inr (.inr z)
      · exact .inr (.inl z)
  own := fun x h => by
    rcases b.own x h with z | z
    · exact a.own x z
    · cases e : H x with
      | none => exact .inr rfl
      | some o =>
        refine .inl ?_
        apply Classical.byContradiction
        intro n
        by_cases nf : T.fp x
        · obtain ⟨i, d, h1, h2⟩ := h
          obtain ⟨p, q1, _, q3, _⟩ := R2.own i d h1
          rw [h2] at q1; cases q1
          exact q3 nf
        · rw [a.keep x o e n nf] at z; cases z
  kp := fun i y h => by
    obtain ⟨z, h1⟩ := a.kp i y h
    exact b.kp i z h1
  grow := fun x h => b.grow x (a.grow x h)
/-- an operand's value -/
def RO (K : Env1) (T : Gt G) (H0 F H : Hp) (s : Sg G) (σ : Sl) (v : V) : Ov → Prop
  | .vl d => Rep K F v d
  | .fr d => ∃ p, v = .ref p ∧ H0 p = none ∧ F p = none ∧ ¬ T.fp p ∧ ¬ Ownd s σ p ∧ Shl K F H p d
  | .pl i => σ[i]? = some (some v) ∧ ∃ x, s.sl[i]? = some (some x)
/-- a value read at once: frozen data, or an object that may be read just now -/
def RH (K : Env1) (F H : Hp) (v : V) (d : D) : Prop := Rep K F v d ∨ ∃ p, v = .ref p ∧ Shl K F H p d
theorem RO.rh {K : Env1} {T : Gt G} {H0 F H : Hp} {s : Sg G} {σ : Sl} {v : V} {x : Ov} {d : D} (R : Rl K T F H s σ) (r : RO K T H0 F H s σ v x) (h : pk s x = some d) : RH K F H v d := by
  cases x with
  | vl e => cases h; exact .inl r
  | fr e => cases h; obtain ⟨p, h1, _, _, _, _, h2⟩ := r; exact .inr ⟨p, h1, h2⟩
  | pl i =>
    obtain ⟨h1, ⟨b, e⟩, h2⟩ := r
    have h3 : look s i = some d := h
    unfold look at h3
    rw [h2] at h3
    cases h3
    cases b with
    | false =>
      obtain ⟨v', q1, q2⟩ := R.val i _ h2
      rw [h1] at q1; cases q1
      exact .inl q2
    | true =>
      obtain ⟨p, q1, _, _, q2⟩ := R.own i _ h2
      rw [h1] at q1; cases q1
      exact .inr ⟨p, rfl, q2⟩
/-- a slot is frozen -/
def frzS (s : Sg G) (i : Nat) : Sg G := match s.sl[i]? with
  | some (some (true, d)) => { s with sl := s.sl.set i (some (false, d)) }
  | _ => s
/-- use an operand: what is own or new is frozen -/
def use (s : Sg G) : Ov → Rs G D
  | .vl d => .ok d s
  | .fr d => .ok d s
  | .pl i => match look s i with
    | some d => .ok d (frzS s i)
    | none => .no
end

/-! ### freezing -/
section
variable {G : Type} {K : Env1} {T : Gt G} {F H : Hp} {s : Sg G} {σ : Sl}
/-- the frozen heap with what stands at p -/
def put (F H : Hp) (p : Addr) : Hp := fun b => if b = p then H p else F b
theorem put_le {p : Addr} (h : F p = none) : Le F (put F H p) := fun a o e => by
  unfold put
  by_cases q : a = p
  · subst q; rw [h] at e; cases e
  · rw [if_neg q]; exact e
theorem put_sub {p : Addr} (h : Le F H) : Le (put F H p) H := fun a o e => by
  unfold put at e
  by_cases q : a = p
  · subst q; rw [if_pos rfl] at e; exact e
  · rw [if_neg q] at e; exact h a o e
theorem put_at {p : Addr} : put F H p p = H p := if_pos rfl
theorem put_ne {p a : Addr} (h : a ≠ p) : put F H p a = F a := if_neg h
theorem Shl.mono {F' H' : Hp} {p : Addr} {d : D} (h : Shl K F H p d) (e : Le F F') (e2 : H' p = H p) : Shl K F' H' p d := by
  cases d with
  | lst ds => obtain ⟨vs, h1, h2⟩ := h; exact ⟨vs, e2.trans h1, h2.mono e⟩
  | dct kvs => obtain ⟨es, ep, h1, h2, h3⟩ := h; exact ⟨es, ep, e2.trans h1, h2.mono e, h3⟩
  | _ => exact h.elim
theorem Shl.some {p : Addr} {d : D} (h : Shl K F H p d) : H p ≠ none := by
  cases d with
  | lst ds => obtain ⟨vs, h1, _⟩ := h; rw [h1]; exact fun z => nomatch z
  | dct kvs => obtain ⟨es, ep, h1, _⟩ := h; rw [h1]; exact fun z => nomatch z
  | _ => exact h.elim
theorem Shl.rep {p : Addr} {d : D} (h : Shl K F H p d) (n : F p = none) : Rep K (put F H p) (.ref p) d := by
  cases d with
  | lst ds => obtain ⟨vs, h1, h2⟩ := h; exact .lst (put_at.trans h1) (h2.mono (put_le n))
  | dct kvs => obtain ⟨es, ep, h1, h2, h3⟩ := h; exact .dct (put_at.trans h1) (h2.mono (put_le n)) h3
  | _ => exact h.elim
theorem set_none {α : Type} {l : List α} {i : Nat} {x : α} (h : l[i]? = none) : l.set i x = l := List.set_eq_of_length_le (List.getElem?_eq_none_iff.mp h)
/-- a new object is frozen -/
theorem Rl.freeze {p : Addr} {d : D} (R : Rl K T F H s σ) (n : F p = none) (nf : ¬ T.fp p) (no : ¬ Ownd s σ p) (h : Shl K F H p d) : Rl K T (put F H p) H s σ where
  sub := put_sub R.sub
  len := R.len
  val := fun i d h => by
    obtain ⟨v, h1, h2⟩ := R.val i d h
    exact ⟨v, h1, h2.mono (put_le n)⟩
  own := fun i d h => by
    obtain ⟨q, h1, h2, h3, h4⟩ := R.own i d h
    have ne : q ≠ p := fun z => no ⟨i, d, h, by rw [← z]; exact h1⟩
    exact ⟨q, h1, (put_ne ne).trans h2, h3, h4.mono (put_le n) rfl⟩
  inj := R.inj
  gs := R.gs
  gf := fun a h => (put_ne (fun (z : a = p) => nf (by rw [← z]; exact h))).trans (R.gf a h)
theorem frzS_get (s : Sg G) (i j : Nat) : (frzS s i).sl[j]? = if j = i then (s.sl[j]?).map (fun x => x.map fun y => (false, y.2)) else s.sl[j]? := by
  unfold frzS
  split
  · rename_i d e
    by_cases q : j = i
    · subst q
      rw [if_pos rfl, e]
      have hl : j < s.sl.length := by
        rcases Nat.lt_or_ge j s.sl.length with h | h
        · exact h
        · rw [List.getElem?_eq_none h] at e; cases e
      show (s.sl.set j _)[j]? = _
      rw [List.getElem?_set_self hl]; rfl
    · rw [if_neg q]
      show (s.sl.set i _)[j]? = _
      rw [List.getElem?_set_ne (Ne.symm q)]
  · rename_i e
    by_cases q : j = i
    · subst q
      rw [if_pos rfl]
      match h : s.sl[j]? with
      | none => rfl
      | some none => rfl
      | some (some (false, d)) => rfl
      | some (some (true, d)) => exact (e d h).elim
    · rw [if_neg q]
theorem frzS_kp {s : Sg G} {i j : Nat} {y : Bool × D} (h : s.sl[j]? = some (some y)) : ∃ z, (frzS s i).sl[j]? = some (some z) := by
  rw [frzS_get, h]
  by_cases q : j = i
  · exact ⟨_, if_pos q⟩
  · exact ⟨_, if_neg q⟩
theorem frzS_g (s : Sg G) (i : Nat) : (frzS s i).g = s.g := by unfold frzS; split <;> rfl
theorem frzS_len (s : Sg G) (i : Nat) : (frzS s i).sl.length = s.sl.length := by
  unfold frzS; split
  · exact List.length_set ..
  · rfl
theorem frzS_own {i : Nat} {a : Addr} (h : Ownd (frzS s i) σ a) : Ownd s σ a := by
  obtain ⟨j, d, h1, h2⟩ := h
  rw [frzS_get] at h1
  by_cases q : j = i
  · rw [if_pos q] at h1
    cases e : s.sl[j]? with
    | none => rw [e] at h1; simp at h1
    | some x => rw [e] at h1; cases x <;> simp at h1
  · rw [if_neg q] at h1
    exact ⟨j, d, h1, h2⟩
/-- a slot's own object is frozen -/
theorem Rl.frz {i : Nat} {p : Addr} {d : D} (R : Rl K T F H s σ) (e : s.sl[i]? = some (some (true, d))) (hp : σ[i]? = some (some (.ref p))) : Rl K T (put F H p) H (frzS s i) σ ∧ Stp T F H s σ (put F H p) H (frzS s i) σ ∧ Rep K (put F H p) (.ref p) d := by
  obtain ⟨p', h1, n, nf, sh⟩ := R.own i d e
  rw [hp] at h1; cases h1
  have ow : Ownd s σ p := ⟨i, d, e, hp⟩
  refine ⟨⟨put_sub R.sub, (frzS_len s i).trans R.len, fun j x h => ?_, fun j x h => ?_, fun j k x y q h1 h2 => ?_, ?_, fun a h => (put_ne (fun (z : a = p) => nf (by rw [← z]; exact h))).trans (R.gf a h)⟩, ⟨put_le n, fun _ _ h _ _ => h, fun a h => ?_, fun a h => .inl (frzS_own h), fun j y h => frzS_kp h, fun _ h => h⟩, sh.rep n⟩
  · rw [frzS_get] at h
    by_cases q : j = i
    · subst q
      rw [if_pos rfl, e] at h
      cases h
      exact ⟨_, hp, sh.rep n⟩
    · rw [if_neg q] at h
      obtain ⟨v, h1, h2⟩ := R.val j x h
      exact ⟨v, h1, h2.mono (put_le n)⟩
  · rw [frzS_get] at h
    by_cases q : j = i
    · subst q
      rw [if_pos rfl, e] at h
      cases h
    · rw [if_neg q] at h
      obtain ⟨r, h1, h2, h3, h4⟩ := R.own j x h
      have ne : r ≠ p := fun z => q (R.inj j i x d p h e (z ▸ h1) hp)
      exact ⟨r, h1, (put_ne ne).trans h2, h3, h4.mono (put_le n) rfl⟩
  · have back : ∀ {m z}, (frzS s i).sl[m]? = some (some (true, z)) → s.sl[m]? = some (some (true, z)) := fun {m z} h => by
      rw [frzS_get] at h
      by_cases q : m = i
      · subst q; rw [if_pos rfl, e] at h; cases h
      · rw [if_neg q] at h; exact h
    exact R.inj j k x y q (back h1) (back h2)
  · rw [frzS_g]; exact R.gs
  · by_cases q : a = p
    · subst q; exact .inr (.inr ow)
    · rw [put_ne q] at h; exact .inl h
/-- new data settles: it is frozen -/
def stl : Ov → Ov
  | .fr d => .vl d
  | x => x
theorem pk_stl (s : Sg G) (x : Ov) : pk s (stl x) = pk s x := by cases x <;> rfl
theorem use_stl (s : Sg G) (x : Ov) : use s (stl x) = use s x := by cases x <;> rfl
theorem RO.settle {H0 F0 : Hp} {s0 : Sg G} {v : V} {x : Ov} (S : Stp T F0 H0 s0 σ F H s σ) (R : Rl K T F H s σ) (r : RO K T H0 F H s σ v x) : ∃ F', Rl K T F' H s σ ∧ Stp T F0 H0 s0 σ F' H s σ ∧ RO K T H0 F' H s σ v (stl x) := by
  cases x with
  | vl d => exact ⟨F, R, S, r⟩
  | pl i => exact ⟨F, R, S, r⟩
  | fr d =>
    obtain ⟨p, rfl, n0, n, nf, no, sh⟩ := r
    refine ⟨put F H p, R.freeze n nf no sh, ⟨S.le.trans (put_le n), S.keep, fun a h => ?_, S.own, S.kp, S.grow⟩, sh.rep n⟩
    by_cases q : a = p
    · subst q; exact .inr (.inl n0)
    · rw [put_ne q] at h; exact S.new a h
/-- an operand is used: its value is data now -/
theorem RO.used {H0 F0 : Hp} {s0 : Sg G} {v : V} {x : Ov} {d : D} {s' : Sg G} (S : Stp T F0 H0 s0 σ F H s σ) (R0 : Rl K T F0 H0 s0 σ) (R : Rl K T F H s σ) (r : RO K T H0 F H s σ v x) (h : use s x = .ok d s') :
    ∃ F', Rl K T F' H s' σ ∧ Stp T F0 H0 s0 σ F' H s' σ ∧ Rep K F' v d := by
  obtain ⟨F1, R1, S1, r1⟩ := r.settle S R
  rw [← use_stl] at h
  cases x with
  | vl e => cases h; exact ⟨F1, R1, S1, r1⟩
  | fr e => cases h; exact ⟨F1, R1, S1, r1⟩
  | pl i =>
    obtain ⟨h1, ⟨b, e⟩, h2⟩ := r1
    have hl : look s i = some e := by unfold look; rw [h2]
    have h3 : (match look s i with
      | some d => Rs.ok d (frzS s i)
      | none => Rs.no) = Rs.ok d s' := h
    rw [hl] at h3
    cases h3
    cases b with
    | false =>
      obtain ⟨v', q1, q2⟩ := R1.val i _ h2
      rw [h1] at q1; cases q1
      have es : frzS s i = s := by unfold frzS; rw [h2]
      rw [es]
      exact ⟨F1, R1, S1, q2⟩
    | true =>
      obtain ⟨p, q1, _⟩ := R1.own i _ h2
      rw [h1] at q1; cases q1
      obtain ⟨a1, a2, a3⟩ := R1.frz h2 h1
      exact ⟨_, a1, S1.trans a2 R0 a1, a3⟩
end
end BF
set_option Elab.async false
set_option linter.all false
set_option autoImplicit false
set_option maxRecDepth 100000
set_option maxHeartbeats 2000000
namespace BF
open PySem PySem.Spec PyProof.Rows L2

/-! ### readings: what must hold ahead -/
def wpE (X : Cx) (e : Expr) : TE := fun σ H Q => ∀ (pins : List (Addr × Obj)) (s : Shared), Inv X pins σ H s → wpAny (model X.prog X.w) X.A (eval e X.env) (EP X pins σ Q) X.xe s
theorem pe_self (X : Cx) (e : Expr) : PE X e (wpE X e) := ⟨fun pins s σ H Q I h => h pins s I⟩
theorem wpE_of {X : Cx} {e : Expr} {t : TE} {σ : Sl} {H : Hp} {Q : VK} (h : PE X e t) (q : t σ H Q) : wpE X e σ H Q := fun pins s I => h.run pins s σ H Q I q
def wpT (X : Cx) (e : Expr) : TT := fun σ H Q => ∀ (pins : List (Addr × Obj)) (s : Shared), Inv X pins σ H s → wpAny (model X.prog X.w) X.A (isTrue e X.env (eval e X.env)) (TP X pins σ Q) X.xe s
theorem pt_self (X : Cx) (e : Expr) : PT X e (wpT X e) := ⟨fun pins s σ H Q I h => h pins s I⟩
theorem wpT_of {X : Cx} {e : Expr} {t : TT} {σ : Sl} {H : Hp} {Q : Bool → Hp → Prop} (h : PT X e t) (q : t σ H Q) : wpT X e σ H Q := fun pins s I => h.run pins s σ H Q I q
def wpS (X : Cx) (st : Stmt) : TS := fun D σ H => ∀ (pins : List (Addr × Obj)) (s : Shared), Inv X pins σ H s → wpAny (model X.prog X.w) X.A (exec st X.env) (SP X pins D) X.xe s
theorem ps_self (X : Cx) (st : Stmt) : PS X st (wpS X st) := ⟨fun pins s σ H D I h => h pins s I⟩
theorem wpS_of {X : Cx} {st : Stmt} {t : TS} {σ : Sl} {H : Hp} {D : Ends} (h : PS X st t) (q : t D σ H) : wpS X st D σ H := fun pins s I => h.run pins s σ H D I q
def wpB (X : Cx) (st : List Stmt) : TS := fun D σ H => ∀ (pins : List (Addr × Obj)) (s : Shared), Inv X pins σ H s → wpAny (model X.prog X.w) X.A (execs st X.env) (SP X pins D) X.xe s
theorem pss_self (X : Cx) (st : List Stmt) : PSs X st (wpB X st) := ⟨fun pins s σ H D I h => h pins s I⟩
theorem wpB_of {X : Cx} {st : List Stmt} {t : TS} {σ : Sl} {H : Hp} {D : Ends} (h : PSs X st t) (q : t D σ H) : wpB X st D σ H := fun pins s I => h.run pins s σ H D I q
/-- expressions from the left -/
def wpL (X : Cx) : List Expr → TA
  | [] => fun _ H Q => Q [] H
  | e :: es => fun σ H Q => wpE X e σ H fun v H1 => wpL X es σ H1 fun vs H2 => Q (v :: vs) H2
def noStar : Expr → Bool
  | .Starred _ _ => false
  | _ => true
theorem starEach_of {e : Expr} {es : List Expr} {env : Env} (h : noStar e = true) : starEach (e :: es) env = (false, eval e env) :: starEach es env := by
  cases e <;> first | rfl | cases h
theorem pa_self (X : Cx) : ∀ {es : List Expr}, es.all noStar = true → PA X es (wpL X es)
  | [], _ => pa_nil
  | e :: es, h => by
    have h' := Bool.and_eq_true_iff.mp (show (noStar e && es.all noStar) = true from h)
    exact pa_cons (pe_self X e) (pa_self X h'.2) (starEach_of h'.1)
theorem back_of (X : Cx) (pos : Pos) : ∀ {es : List Expr}, es.all noStar = true → (backTo pos (starEach es X.env)).any (·.1) = false
  | [], _ => rfl
  | e :: es, h => by
    have h' := Bool.and_eq_true_iff.mp (show (noStar e && es.all noStar) = true from h)
    rw [starEach_of h'.1]
    have := back_of X pos h'.2
    simpa [backTo] using this

section
variable {G : Type}
/-- an error leaves: what holds then -/
structure Xst (T : Gt G) (F H : Hp) (s : Sg G) (σ : Sl) (F' H' : Hp) (g' : G) : Prop where
  le : Le F F'
  sub : Le F' H'
  keep : ∀ a o, H a = some o → ¬ Ownd s σ a → ¬ T.fp a → H' a = some o
  new : ∀ a, F' a ≠ none → F a ≠ none ∨ H a = none ∨ Ownd s σ a
  gs : T.gr g' H'
  gf : ∀ a, T.fp a → F' a = none
/-- the raised error: its class, its own dict -/
def ErR (K : Env1) (x : Er) (cls : Value) (dd : Option Addr) (F' H' : Hp) : Prop :=
  cls = .ref (K.co x.cls) ∧ ((x.fs = [] ∧ dd = none) ∨ ∃ d fs, dd = some d ∧ H' d = some (.xd fs) ∧ fs.map (·.1) = x.fs.map (·.1) ∧ Reps K F' (fs.map (·.2)) (x.fs.map (·.2)))
/-- what is wanted of errors: class, dict, slots, heap -/
abbrev WX1 := Value → Option Addr → Sl → Hp → Prop
def PstX (K : Env1) (T : Gt G) (W : WX1) (F H : Hp) (s : Sg G) (σ : Sl) (x : Er) (g : G) : Prop := ∀ cls dd F' H' σ', Xst T F H s σ F' H' g → ErR K x cls dd F' H' → W cls dd σ' H'
def PstE (K : Env1) (T : Gt G) (W : WX1) (F H : Hp) (s : Sg G) (σ : Sl) (r : Rs G Ov) (Q : VK) : Prop := match r with
  | .ok x s' => ∀ v F' H', Stp T F H s σ F' H' s' σ → Rl K T F' H' s' σ → RO K T H F' H' s' σ v x → Q v H'
  | .er x g => PstX K T W F H s σ x g
  | .no => False
/-- values of operands, all at one state; new ones are apart -/
inductive ROs (K : Env1) (T : Gt G) (H0 F H : Hp) (s : Sg G) (σ : Sl) : List V → List Ov → Prop
  | nil : ROs K T H0 F H s σ [] []
  | cons {v : V} {vs : List V} {x : Ov} {xs : List Ov} : RO K T H0 F H s σ v x → (∀ d, x = .fr d → ∀ q ∈ vs.zip xs, ∀ e, q.2 = .fr e → q.1 ≠ v) → ROs K T H0 F H s σ vs xs → ROs K T H0 F H s σ (v :: vs) (x :: xs)
def PstL (K : Env1) (T : Gt G) (W : WX1) (F H : Hp) (s : Sg G) (σ : Sl) (r : Rs G (List Ov)) (Q : List V → Hp → Prop) : Prop := match r with
  | .ok xs s' => ∀ vs F' H', Stp T F H s σ F' H' s' σ → Rl K T F' H' s' σ → ROs K T H F' H' s' σ vs xs → Q vs H'
  | .er x g => PstX K T W F H s σ x g
  | .no => False
/-- the judgement of an expression: f is what it does -/
def SE (X : Cx) (K : Env1) (T : Gt G) (W : WX1) (e : Expr) (f : Sg G → Rs G Ov) : Prop := ∀ F H σ s Q, Rl K T F H s σ → PstE K T W F H s σ (f s) Q → wpE X e σ H Q
def SL (X : Cx) (K : Env1) (T : Gt G) (W : WX1) (es : List Expr) (f : Sg G → Rs G (List Ov)) : Prop := ∀ F H σ s Q, Rl K T F H s σ → PstL K T W F H s σ (f s) Q → wpL X es σ H Q
end

section
variable {G : Type} {X : Cx} {K : Env1} {T : Gt G} {W : WX1} {F H F1 H1 : Hp} {s s1 : Sg G} {σ : Sl}
/-- an error behind a step -/
theorem PstX.step {x : Er} {g : G} (S : Stp T F H s σ F1 H1 s1 σ) (R : Rl K T F H s σ) (R1 : Rl K T F1 H1 s1 σ) (h : PstX K T W F H s σ x g) : PstX K T W F1 H1 s1 σ x g := fun cls dd F' H' σ' q e => by
  refine h cls dd F' H' σ' ⟨S.le.trans q.le, q.sub, fun a o e n nf => ?_, fun a n => ?_, q.gs, q.gf⟩ e
  · refine q.keep a o (S.keep a o e n nf) (fun z => ?_) nf
    rcases S.own a z with z | z
    · exact n z
    · rw [e] at z; cases z
  · rcases q.new a n with z | z | z
    · exact S.new a z
    · cases e : H a with
      | none => exact .inr (.inl rfl)
      | some o =>
        refine .inr (.inr ?_)
        apply Classical.byContradiction
        intro no
        by_cases nf : T.fp a
        · exact n (q.gf a nf)
        · rw [S.keep a o e no nf] at z; cases z
    · rcases S.own a z with z | z
      · exact .inr (.inr z)
      · exact .inr (.inl z)
/-- an operand behind a further step -/
theorem RO.step {H0 F2 H2 : Hp} {s2 : Sg G} {v : V} {x : Ov} (S : Stp T F1 H1 s1 σ F2 H2 s2 σ) (r : RO K T H0 F1 H1 s1 σ v x) : RO K T H0 F2 H2 s2 σ v x := by
  cases x with
  | vl d => exact Rep.mono S.le r
  | pl i =>
    obtain ⟨h1, y, h2⟩ := r
    exact ⟨h1, S.kp i y h2⟩
  | fr d =>
    obtain ⟨p, e, n0, n, nf, no, sh⟩ := r
    have hp : H1 p ≠ none := sh.some
    refine ⟨p, e, n0, ?_, nf, fun z => ?_, sh.mono S.le ?_⟩
    · apply Classical.byContradiction
      intro q
      rcases S.new p q with z | z | z
      · exact z n
      · exact hp z
      · exact no z
    · rcases S.own p z with z | z
      · exact no z
      · exact hp z
    · cases e : H1 p with
      | none => exact (hp e).elim
      | some o => rw [S.keep p o e no nf]
end
end BF
set_option Elab.async false
set_option linter.all false
set_option autoImplicit false
set_option maxRecDepth 100000
set_option maxHeartbeats 2000000
namespace BF
open PySem PySem.Spec PyProof.Rows L2
section
variable {G : Type}
def evNil (s : Sg G) : Rs G (List Ov) := .ok [] s
def evCons (f : Sg G → Rs G Ov) (r : Sg G → Rs G (List Ov)) (s : Sg G) : Rs G (List Ov) := (f s).bind fun x s1 => (r s1).bind fun xs s2 => .ok (x :: xs) s2
/-- all operands, used -/
def uses (s : Sg G) : List Ov → Rs G (List D)
  | [] => .ok [] s
  | x :: xs => (use s x).bind fun d s1 => (uses s1 xs).bind fun ds s2 => .ok (d :: ds) s2
def pks (s : Sg G) : List Ov → Option (List D)
  | [] => some []
  | x :: xs => (pk s x).bind fun d => (pks s xs).map fun ds => d :: ds
end
section
variable {G : Type} {X : Cx} {K : Env1} {T : Gt G} {W : WX1} {F H F1 H1 : Hp} {s s1 : Sg G} {σ : Sl}
theorem ROs.new {H0 : Hp} {vs : List V} {xs : List Ov} (r : ROs K T H0 F H s σ vs xs) : ∀ q ∈ vs.zip xs, ∀ e, q.2 = .fr e → ∃ p, q.1 = .ref p ∧ H0 p = none := by
  induction r with
  | nil => intro q h; cases h
  | @cons v vs x xs h1 h2 h3 ih =>
    intro q hq e he
    rcases List.mem_cons.mp hq with rfl | hq
    · cases he
      obtain ⟨p, e1, e2, _⟩ := h1
      exact ⟨p, e1, e2⟩
    · exact ih q hq e he
theorem RO.from {H0 H00 : Hp} {v : V} {x : Ov} (g : ∀ a, H0 a = none → H00 a = none) (r : RO K T H0 F H s σ v x) : RO K T H00 F H s σ v x := by
  cases x with
  | vl d => exact r
  | pl i => exact r
  | fr d => obtain ⟨p, e, n, z⟩ := r; exact ⟨p, e, g p n, z⟩
theorem ROs.from {H0 H00 : Hp} {vs : List V} {xs : List Ov} (g : ∀ a, H0 a = none → H00 a = none) (r : ROs K T H0 F H s σ vs xs) : ROs K T H00 F H s σ vs xs := by
  induction r with
  | nil => exact .nil
  | cons h1 h2 h3 ih => exact .cons (h1.from g) h2 ih
theorem Stp.none (S : Stp T F H s σ F1 H1 s1 σ) (a : Addr) (h : H1 a = none) : H a = none := by
  cases e : H a with
  | none => rfl
  | some o => exact (S.grow a (by rw [e]; exact fun z => nomatch z) h).elim
theorem sl_nil : SL X K T W [] (evNil (G := G)) := fun F H σ s Q R h => h [] F H (Stp.refl ..) R .nil
theorem sl_cons {e : Expr} {es : List Expr} {f : Sg G → Rs G Ov} {r : Sg G → Rs G (List Ov)} (hf : SE X K T W e f) (hr : SL X K T W es r) : SL X K T W (e :: es) (evCons f r) := by
  intro F H σ s Q R h
  show wpE X e σ H fun v H1 => wpL X es σ H1 fun vs H2 => Q (v :: vs) H2
  refine hf F H σ s _ R ?_
  unfold evCons at h
  cases q : f s with
  | no => rw [q] at h; exact h.elim
  | er x g => rw [q] at h; exact h
  | ok x s1 =>
    rw [q] at h
    intro v F1 H1 S1 R1 r1
    refine hr F1 H1 σ s1 _ R1 ?_
    have h : PstL K T W F H s σ ((r s1).bind fun xs s2 => .ok (x :: xs) s2) Q := h
    cases q2 : r s1 with
    | no => rw [q2] at h; exact h.elim
    | er x g => rw [q2] at h; exact PstX.step S1 R R1 h
    | ok xs s2 =>
      rw [q2] at h
      intro vs F2 H2 S2 R2 r2
      refine h (v :: vs) F2 H2 (S1.trans S2 R R2) R2 (.cons (r1.step S2) (fun d hx q hq e he => ?_) (r2.from S1.none))
      obtain ⟨p, e1, e2⟩ := r2.new q hq e he
      subst hx
      obtain ⟨p', e3, _, _, _, _, sh⟩ := r1
      intro z
      rw [e1, e3] at z
      cases z
      exact sh.some e2
/-- another new object is frozen meanwhile -/
theorem RO.put {H0 : Hp} {v : V} {x : Ov} {p : Addr} (n : F p = none) (ne : ∀ d, x = .fr d → v ≠ .ref p) (r : RO K T H0 F H s σ v x) : RO K T H0 (put F H p) H s σ v x := by
  cases x with
  | vl d => exact Rep.mono (put_le n) r
  | pl i => exact r
  | fr d =>
    obtain ⟨a, e, n0, n1, nf, no, sh⟩ := r
    have q : a ≠ p := fun z => ne d rfl (by rw [e, z])
    exact ⟨a, e, n0, (put_ne q).trans n1, nf, no, sh.mono (put_le n) rfl⟩
theorem ROs.put {H0 : Hp} {p : Addr} (n : F p = none) {vs : List V} {xs : List Ov} (r : ROs K T H0 F H s σ vs xs) : (∀ q ∈ vs.zip xs, ∀ e, q.2 = .fr e → q.1 ≠ .ref p) → ROs K T H0 (put F H p) H s σ vs xs := by
  induction r with
  | nil => intro _; exact .nil
  | @cons v vs x xs h1 h2 h3 ih =>
    intro h
    refine .cons (h1.put n fun d e => h (v, x) (List.mem_cons_self ..) d e) h2 (ih fun q hq => h q (List.mem_cons_of_mem _ hq))
theorem mem_stl {vs : List V} {xs : List Ov} {q : V × Ov} (h : q ∈ vs.zip (xs.map stl)) : ∀ e, q.2 ≠ .fr e := by
  intro e he
  obtain ⟨_, h2⟩ := List.of_mem_zip (show (q.1, q.2) ∈ vs.zip (xs.map stl) from h)
  obtain ⟨y, _, hy⟩ := List.mem_map.mp h2
  rw [he] at hy
  cases y <;> cases hy
/-- all settle -/
theorem ROs.settle {H0 F0 : Hp} {s0 : Sg G} {vs : List V} {xs : List Ov} : ∀ {F : Hp}, Stp T F0 H0 s0 σ F H s σ → Rl K T F H s σ → ROs K T H0 F H s σ vs xs → ∃ F', Le F F' ∧ Rl K T F' H s σ ∧ Stp T F0 H0 s0 σ F' H s σ ∧ ROs K T H0 F' H s σ vs (xs.map stl) := by
  induction vs generalizing xs with
  | nil => intro F S R r; cases r; exact ⟨F, Le.refl _, R, S, .nil⟩
  | cons v vs ih =>
    intro F S R r
    cases r with
    | @cons _ _ x xs h1 h2 h3 =>
      cases x with
      | vl d =>
        obtain ⟨F', l, R', S', r'⟩ := ih S R h3
        exact ⟨F', l, R', S', .cons (Rep.mono l h1) (fun d e => nomatch e) r'⟩
      | pl i =>
        obtain ⟨F', l, R', S', r'⟩ := ih S R h3
        exact ⟨F', l, R', S', .cons h1 (fun d e => nomatch e) r'⟩
      | fr d =>
        have h10 := h1
        obtain ⟨p, ev, n0, n, nf, no, sh⟩ := h1
        obtain ⟨F1, R1, S1, r1⟩ := RO.settle S R h10
        have R2 : Rl K T (BF.put F H p) H s σ := R.freeze n nf no sh
        have S2 : Stp T F0 H0 s0 σ (BF.put F H p) H s σ := by
          refine ⟨S.le.trans (put_le n), S.keep, fun a h => ?_, S.own, S.kp, S.grow⟩
          by_cases q : a = p
          · rw [q]; exact .inr (.inl n0)
          · rw [put_ne q] at h; exact S.new a h
        have h3' : ROs K T H0 (BF.put F H p) H s σ vs xs := h3.put n fun q hq e he => by rw [← ev]; exact h2 d rfl q hq e he
        obtain ⟨F', l, R', S', r'⟩ := ih S2 R2 h3'
        refine ⟨F', (put_le n).trans l, R', S', .cons ?_ (fun d e => nomatch e) r'⟩
        rw [ev]
        exact (sh.rep n).mono l
theorem pks_stl (s : Sg G) (xs : List Ov) : pks s (xs.map stl) = pks s xs := by
  induction xs with
  | nil => rfl
  | cons x xs ih => show (pk s (stl x)).bind _ = _; rw [pk_stl, ih]; rfl
theorem uses_stl (xs : List Ov) : ∀ (s : Sg G), uses s (xs.map stl) = uses s xs := by
  induction xs with
  | nil => intro s; rfl
  | cons x xs ih =>
    intro s
    show (use s (stl x)).bind _ = (use s x).bind _
    rw [use_stl]
    congr 1
    funext d s1
    rw [ih]
/-- all are used -/
theorem ROs.used0 {xs : List Ov} : ∀ {vs : List V} {F : Hp} {s s' : Sg G} {ds : List D}, Rl K T F H s σ → ROs K T H F H s σ vs (xs.map stl) → uses s (xs.map stl) = .ok ds s' → ∃ F', Rl K T F' H s' σ ∧ Stp T F H s σ F' H s' σ ∧ Reps K F' vs ds := by
  induction xs with
  | nil => intro vs F s s' ds R r h; cases r; cases h; exact ⟨F, R, Stp.refl .., .nil⟩
  | cons x xs ih =>
    intro vs F s s' ds R r h
    cases r with
    | @cons v vs _ _ h1 h2 h3 =>
      have h : ((use s (stl x)).bind fun d s1 => (uses s1 (xs.map stl)).bind fun ds s2 => .ok (d :: ds) s2) = .ok ds s' := h
      cases q : use s (stl x) with
      | no => rw [q] at h; cases h
      | er y g => rw [q] at h; cases h
      | ok d s1 =>
        rw [q] at h
        have h : ((uses s1 (xs.map stl)).bind fun ds s2 => .ok (d :: ds) s2) = .ok ds s' := h
        cases q2 : uses s1 (xs.map stl) with
        | no => rw [q2] at h; cases h
        | er y g => rw [q2] at h; cases h
        | ok es s2 =>
          rw [q2] at h
          cases h
          obtain ⟨F1, R1, S1, p1⟩ := RO.used (Stp.refl T F H s σ) R R h1 q
          have st : ∀ {vs : List V} {ys : List Ov}, ROs K T H F H s σ vs ys → ROs K T H F1 H s1 σ vs ys := by
            intro vs ys r
            induction r with
            | nil => exact .nil
            | cons a1 a2 a3 ih => exact .cons (a1.step S1) a2 ih
          obtain ⟨F2, R2, S2, p2⟩ := ih R1 (st h3) q2
          exact ⟨F2, R2, S1.trans S2 R R2, .cons (p1.mono S2.le) p2⟩
theorem ROs.used {F0 H0 : Hp} {s0 s' : Sg G} {vs : List V} {xs : List Ov} {ds : List D} (S : Stp T F0 H0 s0 σ F H s σ) (R0 : Rl K T F0 H0 s0 σ) (R : Rl K T F H s σ) (r : ROs K T H0 F H s σ vs xs) (h : uses s xs = .ok ds s') :
    ∃ F', Rl K T F' H s' σ ∧ Stp T F0 H0 s0 σ F' H s' σ ∧ Reps K F' vs ds := by
  obtain ⟨F1, l, R1, S1, r1⟩ := r.settle S R
  rw [← uses_stl] at h
  have fix : ∀ {vs : List V} {ys : List Ov}, (∀ y ∈ ys, ∀ e, y ≠ .fr e) → ROs K T H0 F1 H s σ vs ys → ROs K T H F1 H s σ vs ys := by
    intro vs ys hy r
    induction r with
    | nil => exact .nil
    | @cons v vs x xs a1 a2 a3 ih =>
      refine .cons ?_ a2 (ih fun y hy' => hy y (List.mem_cons_of_mem _ hy'))
      cases x with
      | vl d => exact a1
      | pl i => exact a1
      | fr d => exact (hy _ (List.mem_cons_self ..) d rfl).elim
  obtain ⟨F2, R2, S2, p2⟩ := ROs.used0 R1 (fix (fun y hy e he => by
    obtain ⟨z, _, hz⟩ := List.mem_map.mp hy
    rw [he] at hz
    cases z <;> cases hz) r1) h
  exact ⟨F2, R2, S1.trans S2 R0 R2, p2⟩
inductive RHs (K : Env1) (F H : Hp) : List V → List D → Prop
  | nil : RHs K F H [] []
  | cons {v : V} {vs : List V} {d : D} {ds : List D} : RH K F H v d → RHs K F H vs ds → RHs K F H (v :: vs) (d :: ds)
theorem ROs.rhs {H0 : Hp} {vs : List V} {xs : List Ov} (R : Rl K T F H s σ) (r : ROs K T H0 F H s σ vs xs) : ∀ {ds : List D}, pks s xs = some ds → RHs K F H vs ds := by
  induction r with
  | nil => intro ds h; cases h; exact .nil
  | @cons v vs x xs a1 a2 a3 ih =>
    intro ds h
    have h : ((pk s x).bind fun d => (pks s xs).map fun ds => d :: ds) = some ds := h
    cases q : pk s x with
    | none => rw [q] at h; cases h
    | some d =>
      rw [q] at h
      have h : ((pks s xs).map fun ds => d :: ds) = some ds := h
      cases q2 : pks s xs with
      | none => rw [q2] at h; cases h
      | some es =>
        rw [q2] at h
        cases h
        exact .cons (a1.rh R q) (ih q2)
end
end BF
set_option Elab.async false
set_option linter.all false
set_option autoImplicit false
set_option maxRecDepth 100000
set_option maxHeartbeats 2000000
namespace BF
open PySem PySem.Spec PyProof.Rows L2
section
variable {G : Type} {X : Cx} {K : Env1} {T : Gt G} {W : WX1} {F H F1 H1 : Hp} {s s1 : Sg G} {σ : Sl}
theorem upd_le {p : Addr} {o : HO} (h : H p = none) : Le H (upd H p o) := fun a u e => by rw [upd_ne (ne_of_none e h)]; exact e
theorem Le.none (l : Le F H) {p : Addr} (h : H p = none) : F p = none := by
  cases e : F p with
  | none => rfl
  | some o => rw [l p o e] at h; cases h
theorem Rl.free (R : Rl K T F H s σ) {p : Addr} (h : H p = none) : F p = none ∧ ¬ T.fp p ∧ ¬ Ownd s σ p := by
  refine ⟨R.sub.none h, fun z => T.live _ _ _ R.gs z h, fun z => ?_⟩
  obtain ⟨i, d, h1, h2⟩ := z
  obtain ⟨q, e1, _, _, e2⟩ := R.own i d h1
  rw [h2] at e1; cases e1
  exact e2.some h
/-- any new object, not frozen -/
theorem Rl.new {p : Addr} {o : HO} (R : Rl K T F H s σ) (h : H p = none) : Rl K T F (upd H p o) s σ ∧ Stp T F H s σ F (upd H p o) s σ := by
  obtain ⟨n, nf, no⟩ := R.free h
  refine ⟨⟨R.sub.trans (upd_le h), R.len, R.val, fun i d e => ?_, R.inj, T.dep _ _ _ R.gs fun a ha => upd_ne (fun (z : a = p) => nf (by rw [← z]; exact ha)), R.gf⟩, ⟨Le.refl _, fun a u e _ _ => upd_le h a u e, fun a e => .inl e, fun a e => .inl e, fun i y e => ⟨y, e⟩, fun a e => ?_⟩⟩
  · obtain ⟨q, h1, h2, h3, h4⟩ := R.own i d e
    have ne : q ≠ p := fun z => h4.some (z ▸ h)
    exact ⟨q, h1, h2, h3, h4.mono (Le.refl _) (upd_ne ne)⟩
  · by_cases q : a = p
    · subst q; rw [upd_same]; exact fun z => nomatch z
    · rw [upd_ne q]; exact e
/-- a new object, frozen at once -/
theorem Rl.newF {p : Addr} {o : HO} (R : Rl K T F H s σ) (h : H p = none) : Rl K T (upd F p o) (upd H p o) s σ ∧ Stp T F H s σ (upd F p o) (upd H p o) s σ := by
  obtain ⟨n, nf, no⟩ := R.free h
  obtain ⟨R1, S1⟩ := R.new (o := o) h
  refine ⟨⟨fun a u e => ?_, R.len, fun i d e => ?_, fun i d e => ?_, R.inj, R1.gs, fun a ha => (upd_ne (fun (z : a = p) => nf (by rw [← z]; exact ha))).trans (R.gf a ha)⟩, ⟨upd_le n, S1.keep, fun a e => ?_, S1.own, S1.kp, S1.grow⟩⟩
  · by_cases q : a = p
    · subst q; rw [upd_same] at e ⊢; exact e
    · rw [upd_ne q] at e ⊢; exact R.sub a u e
  · obtain ⟨v, h1, h2⟩ := R.val i d e
    exact ⟨v, h1, h2.mono (upd_le n)⟩
  · obtain ⟨q, h1, h2, h3, h4⟩ := R1.own i d e
    have ne : q ≠ p := fun z => no ⟨i, d, e, by rw [← z]; exact h1⟩
    exact ⟨q, h1, (upd_ne ne).trans h2, h3, h4.mono (upd_le n) rfl⟩
  · by_cases q : a = p
    · rw [q]; exact .inr (.inl h)
    · rw [upd_ne q] at e; exact .inl e
theorem PstE.step {r : Rs G Ov} {Q : VK} (S : Stp T F H s σ F1 H1 s1 σ) (R : Rl K T F H s σ) (R1 : Rl K T F1 H1 s1 σ) (h : PstE K T W F H s σ r Q) : PstE K T W F1 H1 s1 σ r Q := by
  cases r with
  | no => exact h.elim
  | er x g => exact PstX.step S R R1 h
  | ok x s' => exact fun v F' H' S' R' r' => h v F' H' (S.trans S' R R') R' (r'.from S.none)
/-- how a value comes out of an operation -/
def Cont (K : Env1) (F H : Hp) (Q : VK) : Ov → Prop
  | .vl d => (∀ v, Rep K F v d → Q v H) ∧ ∀ ds, d = .tup ds → ∀ p vs, H p = none → Reps K F vs ds → Q (.ref p) (upd H p (.tup vs))
  | .fr d => ∀ ds, d = .lst ds → ∀ p vs, H p = none → Reps K F vs ds → Q (.ref p) (upd H p (.lst vs))
  | .pl _ => False
theorem cont_of {x : Ov} {Q : VK} (R : Rl K T F H s σ) (hx : ∀ i, x ≠ .pl i) (h : PstE K T W F H s σ (.ok x s) Q) : Cont K F H Q x := by
  cases x with
  | pl i => exact (hx i rfl).elim
  | vl d =>
    refine ⟨fun v r => h v F H (Stp.refl ..) R r, fun ds e p vs n r => ?_⟩
    subst e
    obtain ⟨R1, S1⟩ := R.newF (o := .tup vs) n
    exact h (.ref p) _ _ S1 R1 (.tup (.inl upd_same) (r.mono S1.le))
  | fr d =>
    intro ds e p vs n r
    subst e
    obtain ⟨R1, S1⟩ := R.new (o := .lst vs) n
    obtain ⟨n1, nf, no⟩ := R.free n
    exact h (.ref p) _ _ S1 R1 ⟨p, rfl, n, n1, nf, no, vs, upd_same, r⟩
/-- operands peeked at, an operation upon data -/
def evOp (f : Sg G → Rs G (List Ov)) (op : List D → Option Ov) (s : Sg G) : Rs G Ov := (f s).bind fun xs s1 => match pks s1 xs with
  | some ds => (match op ds with
    | some (.pl _) => .no
    | some r => .ok r s1
    | none => .no)
  | none => .no
/-- what an operation upon values must do -/
def Opn (K : Env1) (op : List D → Option Ov) (rr : List V → Hp → VK → Prop) : Prop := ∀ F H vs ds res Q, Le F H → RHs K F H vs ds → op ds = some res → Cont K F H Q res → rr vs H Q
theorem se_op {e : Expr} {es : List Expr} {f : Sg G → Rs G (List Ov)} {op : List D → Option Ov} {rr : List V → Hp → VK → Prop} (hf : SL X K T W es f) (ho : Opn K op rr)
    (hw : ∀ σ H Q, wpL X es σ H (fun vs H1 => rr vs H1 Q) → wpE X e σ H Q) : SE X K T W e (evOp f op) := by
  intro F H σ s Q R h
  refine hw σ H Q (hf F H σ s _ R ?_)
  unfold evOp at h
  cases q : f s with
  | no => rw [q] at h; exact h.elim
  | er x g => rw [q] at h; exact h
  | ok xs s1 =>
    rw [q] at h
    intro vs F1 H1 S1 R1 r1
    simp only [Rs.bind] at h
    cases q2 : pks s1 xs with
    | none => rw [q2] at h; exact h.elim
    | some ds =>
      rw [q2] at h
      simp only at h
      cases q3 : op ds with
      | none => rw [q3] at h; exact h.elim
      | some res =>
        rw [q3] at h
        cases res with
        | pl i => exact h.elim
        | vl d => exact ho F1 H1 vs ds _ Q R1.sub (r1.rhs R1 q2) q3 (cont_of R1 (fun _ z => nomatch z) (PstE.step S1 R R1 h))
        | fr d => exact ho F1 H1 vs ds _ Q R1.sub (r1.rhs R1 q2) q3 (cont_of R1 (fun _ z => nomatch z) (PstE.step S1 R R1 h))
/-! ### reading values -/
theorem RHs.one {vs : List V} {d : D} (h : RHs K F H vs [d]) : ∃ v, vs = [v] ∧ RH K F H v d := by
  cases h with
  | cons h1 h2 => cases h2; exact ⟨_, rfl, h1⟩
theorem RHs.two {vs : List V} {d e : D} (h : RHs K F H vs [d, e]) : ∃ v w, vs = [v, w] ∧ RH K F H v d ∧ RH K F H w e := by
  cases h with
  | cons h1 h2 =>
    obtain ⟨w, rfl, h3⟩ := h2.one
    exact ⟨_, w, rfl, h1, h3⟩
theorem RH.int {v : V} {i : Int} (h : RH K F H v (.int i)) : v = .int i := by
  rcases h with h | ⟨p, _, h⟩
  · cases h; rfl
  · exact h.elim
theorem RH.bl {v : V} {b : Bool} (h : RH K F H v (.bl b)) : v = .bl b := by
  rcases h with h | ⟨p, _, h⟩
  · cases h; rfl
  · exact h.elim
theorem RH.str {v : V} {x : Str} (h : RH K F H v (.str x)) : v = .str x := by
  rcases h with h | ⟨p, _, h⟩
  · cases h; rfl
  · exact h.elim
theorem RH.non {v : V} (h : RH K F H v .non) : v = .non := by
  rcases h with h | ⟨p, _, h⟩
  · cases h; rfl
  · exact h.elim
theorem RH.lst {v : V} {ds : List D} (l : Le F H) (h : RH K F H v (.lst ds)) : ∃ a vs, v = .ref a ∧ H a = some (.lst vs) ∧ Reps K F vs ds := by
  rcases h with h | ⟨p, rfl, vs, h1, h2⟩
  · cases h with
    | lst h1 h2 => exact ⟨_, _, rfl, l _ _ h1, h2⟩
  · exact ⟨p, vs, rfl, h1, h2⟩
theorem RH.tup {v : V} {ds : List D} (l : Le F H) (h : RH K F H v (.tup ds)) : ∃ a vs, v = .ref a ∧ TupAt K.K H a vs ∧ Reps K F vs ds := by
  rcases h with h | ⟨p, rfl, h1⟩
  · cases h with
    | tup h1 h2 => exact ⟨_, _, rfl, l.sqT h1, h2⟩
  · exact h1.elim
theorem Reps.length {vs : List V} {ds : List D} (h : Reps K F vs ds) : vs.length = ds.length := by
  induction ds generalizing vs with
  | nil => cases h; rfl
  | cons d ds ih => cases h with
    | cons h1 h2 => simp [ih h2]
theorem Reps.get {vs : List V} {ds : List D} (h : Reps K F vs ds) : ∀ {i : Nat} {d : D}, ds[i]? = some d → ∃ v, vs[i]? = some v ∧ Rep K F v d := by
  induction ds generalizing vs with
  | nil => intro i d e; simp at e
  | cons d ds ih =>
    intro i x e
    cases h with
    | cons h1 h2 =>
      cases i with
      | zero => simp at e; subst e; exact ⟨_, by simp, h1⟩
      | succ i =>
        obtain ⟨v, e1, e2⟩ := ih h2 (i := i) (by simpa using e)
        exact ⟨v, by simpa using e1, e2⟩
theorem Reps.append {vs ws : List V} {ds es : List D} (h : Reps K F vs ds) (h' : Reps K F ws es) : Reps K F (vs ++ ws) (ds ++ es) := by
  induction ds generalizing vs with
  | nil => cases h; exact h'
  | cons d ds ih => cases h with
    | cons h1 h2 => exact .cons h1 (ih h2)
theorem Reps.take {vs : List V} {ds : List D} (n : Nat) (h : Reps K F vs ds) : Reps K F (vs.take n) (ds.take n) := by
  induction ds generalizing vs n with
  | nil => cases h; simp; exact .nil
  | cons d ds ih => cases h with
    | cons h1 h2 =>
      cases n with
      | zero => exact .nil
      | succ n => exact .cons h1 (ih n h2)
theorem Reps.drop {vs : List V} {ds : List D} (n : Nat) (h : Reps K F vs ds) : Reps K F (vs.drop n) (ds.drop n) := by
  induction ds generalizing vs n with
  | nil => cases h; simp; exact .nil
  | cons d ds ih => cases h with
    | cons h1 h2 =>
      cases n with
      | zero => exact .cons h1 h2
      | succ n => exact ih n h2
theorem Reps.set {vs : List V} {ds : List D} {v : V} {d : D} (n : Nat) (h : Reps K F vs ds) (r : Rep K F v d) : Reps K F (vs.set n v) (ds.set n d) := by
  induction ds generalizing vs n with
  | nil => cases h; exact .nil
  | cons d ds ih => cases h with
    | cons h1 h2 =>
      cases n with
      | zero => exact .cons r h2
      | succ n => exact .cons h1 (ih n h2)
theorem Reps.rep (n : Nat) {vs : List V} {ds : List D} (h : Reps K F vs ds) : Reps K F (List.replicate n vs).flatten (List.replicate n ds).flatten := by
  induction n with
  | zero => exact .nil
  | succ n ih => rw [List.replicate_succ, List.replicate_succ, List.flatten_cons, List.flatten_cons]; exact h.append ih
theorem Reps.ints {vs : List V} : ∀ {ns : List Int}, Reps K F vs (ns.map D.int) → vs = ns.map V.int := by
  intro ns
  induction ns generalizing vs with
  | nil => intro h; cases h; rfl
  | cons n ns ih =>
    intro h
    cases h with
    | cons h1 h2 => cases h1; rw [ih h2]; rfl
theorem Reps.of_ints {ns : List Int} : Reps K F (ns.map V.int) (ns.map D.int) := by
  induction ns with
  | nil => exact .nil
  | cons n ns ih => exact .cons (.int n) ih
theorem Reps.bls {vs : List V} : ∀ {ns : List Bool}, Reps K F vs (ns.map D.bl) → vs = ns.map V.bl := by
  intro ns
  induction ns generalizing vs with
  | nil => intro h; cases h; rfl
  | cons n ns ih =>
    intro h
    cases h with
    | cons h1 h2 => cases h1; rw [ih h2]; rfl
end
end BF
set_option Elab.async false
set_option linter.all false
set_option autoImplicit false
set_option maxRecDepth 100000
set_option maxHeartbeats 2000000
namespace BF
open PySem PySem.Spec PyProof.Rows L2
/-! ### sizes of ints, told so that no big figure meets a variable -/
def rgB : Int → Bool
  | .ofNat n => Nat.ble n 4611686018427387903
  | .negSucc n => Nat.ble n 4611686018427387903
theorem rgB_ok {j : Int} (h : rgB j = true) : -(2 ^ 62) ≤ j ∧ j < 2 ^ 62 := by
  have e : (2 : Int) ^ 62 = 4611686018427387904 := by decide
  rw [e]
  cases j with
  | ofNat n =>
    have := Nat.le_of_ble_eq_true (show Nat.ble n 4611686018427387903 = true from h)
    show -4611686018427387904 ≤ (n : Int) ∧ (n : Int) < 4611686018427387904
    omega
  | negSucc n =>
    have := Nat.le_of_ble_eq_true (show Nat.ble n 4611686018427387903 = true from h)
    omega
theorem rgB_small {j : Int} (h1 : -1000000 ≤ j) (h2 : j ≤ 1000000) : rgB j = true := by
  cases j with
  | ofNat n =>
    have : (n : Int) ≤ 1000000 := h2
    exact Nat.ble_eq_true_of_le (by omega)
  | negSucc n => exact Nat.ble_eq_true_of_le (by omega)
def smB : Int → Bool
  | .ofNat n => Nat.ble n 18446744073709551615
  | .negSucc n => Nat.ble n 18446744073709551614
theorem smB_ok {j : Int} (h : smB j = true) : -(2 ^ 64) < j ∧ j < 2 ^ 64 := by
  have e : (2 : Int) ^ 64 = 18446744073709551616 := by decide
  rw [e]
  cases j with
  | ofNat n =>
    have := Nat.le_of_ble_eq_true (show Nat.ble n 18446744073709551615 = true from h)
    show -18446744073709551616 < (n : Int) ∧ (n : Int) < 18446744073709551616
    omega
  | negSucc n =>
    have := Nat.le_of_ble_eq_true (show Nat.ble n 18446744073709551614 = true from h)
    omega
theorem smB_small {j : Int} (h1 : -1000000 ≤ j) (h2 : j ≤ 1000000) : smB j = true := by
  cases j with
  | ofNat n =>
    have : (n : Int) ≤ 1000000 := h2
    exact Nat.ble_eq_true_of_le (by omega)
  | negSucc n => exact Nat.ble_eq_true_of_le (by omega)
/-! ### operations upon data -/
def intsOf : List D → Option (List Int)
  | [] => some []
  | .int i :: r => (intsOf r).map fun is => i :: is
  | _ => none
def blsOf : List D → Option (List Bool)
  | [] => some []
  | .bl b :: r => (blsOf r).map fun is => b :: is
  | _ => none
theorem intsOf_eq : ∀ {ds : List D} {is : List Int}, intsOf ds = some is → ds = is.map D.int
  | [], is, h => by cases h; rfl
  | d :: r, is, h => by
    cases d with
    | int i =>
      have h : (intsOf r).map (fun is => i :: is) = some is := h
      cases q : intsOf r with
      | none => rw [q] at h; cases h
      | some js => rw [q] at h; cases h; rw [intsOf_eq q]; rfl
    | _ => cases h
theorem blsOf_eq : ∀ {ds : List D} {is : List Bool}, blsOf ds = some is → ds = is.map D.bl
  | [], is, h => by cases h; rfl
  | d :: r, is, h => by
    cases d with
    | bl i =>
      have h : (blsOf r).map (fun is => i :: is) = some is := h
      cases q : blsOf r with
      | none => rw [q] at h; cases h
      | some js => rw [q] at h; cases h; rw [blsOf_eq q]; rfl
    | _ => cases h
theorem intsOf_map (is : List Int) : intsOf (is.map D.int) = some is := by
  induction is with
  | nil => rfl
  | cons i is ih => show (intsOf (is.map D.int)).map _ = _; rw [ih]; rfl
theorem blsOf_map (is : List Bool) : blsOf (is.map D.bl) = some is := by
  induction is with
  | nil => rfl
  | cons i is ih => show (blsOf (is.map D.bl)).map _ = _; rw [ih]; rfl
/-- plain data: no dict, no object; depth at most n -/
def plain : Nat → D → Bool
  | _, .non => true
  | _, .bl _ => true
  | _, .int _ => true
  | _, .str x => PySem.PyData.strOk x
  | n + 1, .lst xs => xs.all (plain n)
  | n + 1, .tup xs => xs.all (plain n)
  | _, _ => false
mutual
def toPy : D → PyData
  | .bl b => .bool b
  | .int i => .int i
  | .str x => .str x
  | .lst xs => .list (toPys xs)
  | .tup xs => .tuple (toPys xs)
  | _ => .none
def toPys : List D → List PyData
  | [] => []
  | d :: ds => toPy d :: toPys ds
end
/-- == of data -/
def eqD (a b : D) : Bool := PyData.eqv (toPy a) (toPy b)
theorem toPys_eq : ∀ ds : List D, toPys ds = ds.map toPy
  | [] => by rw [toPys]; rfl
  | d :: ds => by rw [toPys, toPys_eq ds]; rfl
theorem plain_can : ∀ {n : Nat} {d : D}, plain n d = true → (toPy d).canLay0 = true ∧ (toPy d).depth ≤ n + 1 := by
  intro n
  induction n with
  | zero =>
    intro d h
    cases d with
    | non => simp [toPy, PyData.canLay0, PyData.depth]
    | bl b => simp [toPy, PyData.canLay0, PyData.depth]
    | int i => simp [toPy, PyData.canLay0, PyData.depth]
    | str x => exact ⟨by simpa [toPy, PyData.canLay0, plain] using h, by simp [toPy, PyData.depth]⟩
    | _ => cases h
  | succ n ih =>
    have all : ∀ {xs : List D}, xs.all (plain n) = true → PyData.canLayAll0 (toPys xs) = true ∧ PyData.depthAll (toPys xs) ≤ n + 1 := by
      intro xs h
      induction xs with
      | nil => simp [toPys, PyData.canLayAll0, PyData.depthAll]
      | cons x xs ih2 =>
        rw [List.all_cons, Bool.and_eq_true] at h
        obtain ⟨h1, h2⟩ := ih h.1
        obtain ⟨h3, h4⟩ := ih2 h.2
        refine ⟨by simp [toPys, PyData.canLayAll0, h1, h3], ?_⟩
        simp only [toPys, PyData.depthAll]
        omega
    intro d h
    cases d with
    | non => simp [toPy, PyData.canLay0, PyData.depth]
    | bl b => simp [toPy, PyData.canLay0, PyData.depth]
    | int i => simp [toPy, PyData.canLay0, PyData.depth]
    | str x => exact ⟨by simpa [toPy, PyData.canLay0, plain] using h, by simp [toPy, PyData.depth]⟩
    | lst xs =>
      obtain ⟨h1, h2⟩ := all (show xs.all (plain n) = true from h)
      exact ⟨by simp [toPy, PyData.canLay0, h1], by simp only [toPy, PyData.depth]; omega⟩
    | tup xs =>
      obtain ⟨h1, h2⟩ := all (show xs.all (plain n) = true from h)
      exact ⟨by simp [toPy, PyData.canLay0, h1], by simp only [toPy, PyData.depth]; omega⟩
    | _ => cases h
theorem plain_shaped {d : D} (h : plain 60 d = true) : SeqAt.shaped (toPy d) = true := by
  obtain ⟨h1, h2⟩ := plain_can h
  unfold SeqAt.shaped
  rw [h1, Bool.true_and, decide_eq_true_eq]
  omega
section
variable {K : Env1} {F H : Hp}
theorem Rep.dp : ∀ {n : Nat} {d : D} {v : V}, plain n d = true → Le F H → Rep K F v d → Dp K.K H v (toPy d) := by
  intro n
  induction n with
  | zero =>
    intro d v h l r
    cases d with
    | non => cases r; simp only [toPy]; exact .non
    | bl b => cases r; simp only [toPy]; exact .bl b
    | int i => cases r; simp only [toPy]; exact .int i
    | str x => cases r; simp only [toPy]; exact .str x
    | _ => cases h
  | succ n ih =>
    intro d v h l r
    have all : ∀ {xs : List D} {vs : List V}, xs.all (plain n) = true → Reps K F vs xs → DpAll K.K H vs (toPys xs) := by
      intro xs
      induction xs with
      | nil => intro vs h r; cases r; simp only [toPys]; exact .nil
      | cons x xs ih2 =>
        intro vs h r
        rw [List.all_cons, Bool.and_eq_true] at h
        cases r with
        | cons r1 r2 => simp only [toPys]; exact .cons (ih h.1 l r1) (ih2 h.2 r2)
    cases d with
    | non => cases r; simp only [toPy]; exact .non
    | bl b => cases r; simp only [toPy]; exact .bl b
    | int i => cases r; simp only [toPy]; exact .int i
    | str x => cases r; simp only [toPy]; exact .str x
    | lst xs => cases r with
      | lst h1 h2 => simp only [toPy]; exact .lst (.inl (.inl (l _ _ h1))) (all h h2)
    | tup xs => cases r with
      | tup h1 h2 => simp only [toPy]; exact .tup (l.sqT h1).sq (all h h2)
    | _ => cases h
theorem Reps.dp {n : Nat} (l : Le F H) : ∀ {xs : List D} {vs : List V}, xs.all (plain n) = true → Reps K F vs xs → DpAll K.K H vs (toPys xs) := by
  intro xs
  induction xs with
  | nil => intro vs h r; cases r; simp only [toPys]; exact .nil
  | cons x xs ih2 =>
    intro vs h r
    rw [List.all_cons, Bool.and_eq_true] at h
    cases r with
    | cons r1 r2 => simp only [toPys]; exact .cons (r1.dp h.1 l) (ih2 h.2 r2)
theorem RH.dp {d : D} {v : V} (h : plain 60 d = true) (l : Le F H) (r : RH K F H v d) : Dp K.K H v (toPy d) := by
  rcases r with r | ⟨p, rfl, r⟩
  · exact r.dp h l
  · cases d with
    | lst ds =>
      obtain ⟨vs, h1, h2⟩ := r
      simp only [toPy]
      exact .lst (.inl (.inl h1)) (h2.dp (n := 59) l h)
    | dct kvs => cases h
    | _ => exact r.elim
end
end BF
set_option Elab.async false
set_option linter.all false
set_option autoImplicit false
set_option maxRecDepth 100000
set_option maxHeartbeats 2000000
namespace BF
open PySem PySem.Spec PyProof.Rows L2
def one (o : D → Option Ov) : List D → Option Ov
  | [d] => o d
  | _ => none
def two (o : D → D → Option Ov) : List D → Option Ov
  | [d, e] => o d e
  | _ => none
def sc (d : D) : Option Ov := some (.vl d)
/-! #### operators -/
def addO : D → D → Option Ov
  | .int a, .int b => sc (.int (a + b))
  | .str a, .str b => if a.length + b.length ≤ sizeLine then sc (.str (a ++ b)) else none
  | .lst a, .lst b => if a.length + b.length ≤ sizeLine then some (.fr (.lst (a ++ b))) else none
  | .tup a, .tup b => if a.length + b.length ≤ sizeLine then sc (.tup (a ++ b)) else none
  | _, _ => none
def subO : D → D → Option Ov
  | .int a, .int b => sc (.int (a - b))
  | _, _ => none
def cmul (i j : Int) : Bool := smB i || smB j
def mulO : D → D → Option Ov
  | .int a, .int b => if cmul a b then sc (.int (a * b)) else none
  | .lst a, .int k => if rgB k = true ∧ a.length * k.toNat ≤ sizeLine then some (.fr (.lst (List.replicate k.toNat a).flatten)) else none
  | .tup a, .int k => if a ≠ [] ∧ 2 ≤ k ∧ k ≤ 1000 ∧ a.length ≤ 1000 then sc (.tup (List.replicate k.toNat a).flatten) else none
  | _, _ => none
def fdivO : D → D → Option Ov
  | .int a, .int b => if 0 < b ∧ b < 1073741824 then sc (.int (a / b)) else none
  | _, _ => none
def modO : D → D → Option Ov
  | .int a, .int b => if 0 < b then sc (.int (a % b)) else none
  | _, _ => none
def powO : D → D → Option Ov
  | .int a, .int b => if 0 ≤ b ∧ b ≤ 1000000 ∧ a.natAbs < 2 ^ 64 then sc (.int (a ^ b.toNat)) else none
  | _, _ => none
def isNon : D → Bool
  | .non => true
  | _ => false
def ltO : D → D → Option Ov
  | .int a, .int b => sc (.bl (decide (a < b)))
  | _, _ => none
def leO : D → D → Option Ov
  | .int a, .int b => sc (.bl (decide (a ≤ b)))
  | _, _ => none
def gtO : D → D → Option Ov
  | .int a, .int b => sc (.bl (decide (b < a)))
  | _, _ => none
def geO : D → D → Option Ov
  | .int a, .int b => sc (.bl (decide (b ≤ a)))
  | _, _ => none
def eqB : D → D → Option Bool
  | .int a, .int b => some (decide (a = b))
  | .str a, .str b => some (decide (a = b))
  | d, e => if plain 60 d && plain 60 e then some (eqD d e) else none
def eqO (d e : D) : Option Ov := (eqB d e).map fun b => .vl (.bl b)
def neO (d e : D) : Option Ov := (eqB d e).map fun b => .vl (.bl (!b))
def inB : D → D → Option Bool
  | x, .lst ds => if plain 60 x && plain 60 (.lst ds) then some (ds.any fun z => eqD z x) else none
  | x, .tup ds => if plain 60 x && plain 60 (.tup ds) then some (ds.any fun z => eqD z x) else none
  | _, _ => none
def inO (d e : D) : Option Ov := (inB d e).map fun b => .vl (.bl b)
def ninO (d e : D) : Option Ov := (inB d e).map fun b => .vl (.bl (!b))
def isO : D → D → Option Ov
  | d, .non => sc (.bl (isNon d))
  | _, _ => none
def isnO : D → D → Option Ov
  | d, .non => sc (.bl (!isNon d))
  | _, _ => none
def negO : D → Option Ov
  | .int a => sc (.int (-a))
  | _ => none
def notO : D → Option Ov
  | .bl a => sc (.bl (!a))
  | _ => none
def ixO : D → D → Option Ov
  | .lst ds, .int i => (atI ds i).map .vl
  | .tup ds, .int i => (atI ds i).map .vl
  | _, _ => none
/-! #### built-ins -/
def maxI : List Int → Int
  | [] => 0
  | [x] => x
  | x :: r => if x ≤ maxI r then maxI r else x
def minI : List Int → Int
  | [] => 0
  | [x] => x
  | x :: r => if minI r ≤ x then minI r else x
def lenO : D → Option Ov
  | .lst ds => sc (.int ds.length)
  | .tup ds => sc (.int ds.length)
  | .str x => if x.length ≤ sizeLine then sc (.int x.length) else none
  | _ => none
def intO : D → Option Ov
  | .int i => sc (.int i)
  | .bl b => sc (.int (if b then 1 else 0))
  | _ => none
def sumO : D → Option Ov
  | .lst ds => (intsOf ds).map fun is => .vl (.int is.sum)
  | _ => none
def maxO : D → Option Ov
  | .lst ds => (intsOf ds).bind fun is => if 0 < is.length then sc (.int (maxI is)) else none
  | _ => none
def minO : D → Option Ov
  | .lst ds => (intsOf ds).bind fun is => if 0 < is.length then sc (.int (minI is)) else none
  | _ => none
def max2O : D → D → Option Ov
  | .int i, .int j => sc (.int (if j > i then j else i))
  | _, _ => none
def min2O : D → D → Option Ov
  | .int i, .int j => sc (.int (if j < i then j else i))
  | _, _ => none
def allO : D → Option Ov
  | .lst ds => (blsOf ds).map fun bs => .vl (.bl (bs.all id))
  | _ => none
def anyO : D → Option Ov
  | .lst ds => (blsOf ds).map fun bs => .vl (.bl (bs.any id))
  | _ => none
def tupleO : D → Option Ov
  | .lst ds => sc (.tup ds)
  | .tup ds => sc (.tup ds)
  | _ => none
def listO : D → Option Ov
  | .lst ds => some (.fr (.lst ds))
  | .tup ds => some (.fr (.lst ds))
  | _ => none
def strO : D → Option Ov
  | .int i => if i.natAbs.log2 < 1920 then sc (.str (toString i)) else none
  | _ => none
section
variable {K : Env1}
/-- an operation of two values by an operator's rule -/
def Op2 (K : Env1) (o : D → D → Option Ov) (r : R2) : Prop := ∀ F H v w d e res Q, Le F H → RH K F H v d → RH K F H w e → o d e = some res → Cont K F H Q res → r v w H Q
def Op1 (K : Env1) (o : D → Option Ov) (r : V → Hp → VK → Prop) : Prop := ∀ F H v d res Q, Le F H → RH K F H v d → o d = some res → Cont K F H Q res → r v H Q
theorem Cont.sc {F H : Hp} {Q : VK} {d : D} {res : Ov} {v : V} (h : Cont K F H Q res) (e : BF.sc d = some res) (r : Rep K F v d) : Q v H := by
  cases e; exact h.1 v r
theorem op2_add : Op2 K addO (fun x y H Q => rI0 (fun i j => .int (i + j)) x y H Q ∨ (rCat x y H Q ∨ (rCatA K.K x y H Q ∨ ∃ i j, x = .str i ∧ y = .str j ∧ i.length + j.length ≤ sizeLine ∧ Q (.str (i ++ j)) H))) := by
  intro F H v w d e res Q l hd he ho hc
  cases d <;> cases e <;> first | (cases ho; done) | skip
  · cases hd.int; cases he.int
    exact .inl ⟨_, _, rfl, rfl, hc.sc ho (.int _)⟩
  · cases hd.str; cases he.str
    simp only [addO] at ho
    split at ho
    · rename_i hl
      exact .inr (.inr (.inr ⟨_, _, rfl, rfl, hl, hc.sc ho (.str _)⟩))
    · cases ho
  · simp only [addO] at ho
    split at ho
    · rename_i hl
      cases ho
      obtain ⟨a, vs, rfl, h1, r1⟩ := hd.lst l
      obtain ⟨b, ws, rfl, h2, r2⟩ := he.lst l
      exact .inr (.inl ⟨a, b, vs, ws, rfl, rfl, h1, h2, by rw [r1.length, r2.length]; exact hl, fun p n => hc _ rfl p _ n (r1.append r2)⟩)
    · cases ho
  · simp only [addO] at ho
    split at ho
    · rename_i hl
      cases ho
      obtain ⟨a, vs, rfl, h1, r1⟩ := hd.tup l
      obtain ⟨b, ws, rfl, h2, r2⟩ := he.tup l
      have hr : RH K F H (.ref a) (.tup _) := hd
      have hr2 : RH K F H (.ref b) (.tup _) := he
      refine .inr (.inr (.inl ⟨a, b, vs, ws, rfl, rfl, h1.sq, h2.sq, by rw [r1.length, r2.length]; exact hl, fun e => ?_, fun _ e => ?_, fun _ _ p n => hc.2 _ rfl p _ n (r1.append r2)⟩))
      · subst e
        cases r1
        rcases hr2 with z | ⟨_, _, z⟩
        · exact hc.1 _ z
        · exact z.elim
      · subst e
        cases r2
        rw [List.append_nil] at hc
        rcases hr with z | ⟨_, _, z⟩
        · exact hc.1 _ z
        · exact z.elim
    · cases ho
theorem op2_sub : Op2 K subO (rI0 fun i j => .int (i - j)) := by
  intro F H v w d e res Q l hd he ho hc
  cases d <;> cases e <;> first | (cases ho; done) | skip
  cases hd.int; cases he.int
  exact ⟨_, _, rfl, rfl, hc.sc ho (.int _)⟩
theorem op2_mul : Op2 K mulO (fun x y H Q => rI CMul (fun i j => .int (i * j)) x y H Q ∨ (rRep x y H Q ∨ rRepT K.K x y H Q)) := by
  intro F H v w d e res Q l hd he ho hc
  cases d <;> cases e <;> first | (cases ho; done) | skip
  · cases hd.int; cases he.int
    simp only [mulO] at ho
    split at ho
    · rename_i hl
      refine .inl ⟨_, _, rfl, rfl, ?_, hc.sc ho (.int _)⟩
      rcases Bool.or_eq_true_iff.mp hl with z | z
      · exact .inl (smB_ok z)
      · exact .inr (smB_ok z)
    · cases ho
  · simp only [mulO] at ho
    split at ho
    · rename_i hl
      cases ho
      obtain ⟨a, vs, rfl, h1, r1⟩ := hd.lst l
      cases he.int
      exact .inr (.inl ⟨a, _, vs, rfl, rfl, h1, by have := rgB_ok hl.1; omega, by have := rgB_ok hl.1; omega, by rw [r1.length]; exact hl.2, fun p n => hc _ rfl p _ n (r1.rep _)⟩)
    · cases ho
  · simp only [mulO] at ho
    split at ho
    · rename_i hl
      cases ho
      obtain ⟨a, vs, rfl, h1, r1⟩ := hd.tup l
      cases he.int
      refine .inr (.inr ⟨a, _, vs, rfl, rfl, h1.sq, fun z => ?_, hl.2.1, hl.2.2.1, by rw [r1.length]; exact hl.2.2.2, fun p n => hc.2 _ rfl p _ n (r1.rep _)⟩)
      subst z; cases r1; exact hl.1 rfl
    · cases ho
theorem op2_fdiv : Op2 K fdivO (rI CDiv fun i j => .int (i / j)) := by
  intro F H v w d e res Q l hd he ho hc
  cases d <;> cases e <;> first | (cases ho; done) | skip
  cases hd.int; cases he.int
  simp only [fdivO] at ho
  split at ho
  · rename_i hl; exact ⟨_, _, rfl, rfl, hl, hc.sc ho (.int _)⟩
  · cases ho
theorem op2_mod : Op2 K modO (rI (fun _ j => 0 < j) fun i j => .int (i % j)) := by
  intro F H v w d e res Q l hd he ho hc
  cases d <;> cases e <;> first | (cases ho; done) | skip
  cases hd.int; cases he.int
  simp only [modO] at ho
  split at ho
  · rename_i hl; exact ⟨_, _, rfl, rfl, hl, hc.sc ho (.int _)⟩
  · cases ho
theorem op2_pow : Op2 K powO (rI CPow fun i j => .int (i ^ j.toNat)) := by
  intro F H v w d e res Q l hd he ho hc
  cases d <;> cases e <;> first | (cases ho; done) | skip
  cases hd.int; cases he.int
  simp only [powO] at ho
  split at ho
  · rename_i hl; exact ⟨_, _, rfl, rfl, hl, hc.sc ho (.int _)⟩
  · cases ho
theorem op2_lt : Op2 K ltO (rI0 fun i j => .bl (decide (i < j))) := by
  intro F H v w d e res Q l hd he ho hc
  cases d <;> cases e <;> first | (cases ho; done) | skip
  cases hd.int; cases he.int
  exact ⟨_, _, rfl, rfl, hc.sc ho (.bl _)⟩
theorem op2_le : Op2 K leO (rI0 fun i j => .bl (decide (i ≤ j))) := by
  intro F H v w d e res Q l hd he ho hc
  cases d <;> cases e <;> first | (cases ho; done) | skip
  cases hd.int; cases he.int
  exact ⟨_, _, rfl, rfl, hc.sc ho (.bl _)⟩
theorem op2_gt : Op2 K gtO (rI0 fun i j => .bl (decide (j < i))) := by
  intro F H v w d e res Q l hd he ho hc
  cases d <;> cases e <;> first | (cases ho; done) | skip
  cases hd.int; cases he.int
  exact ⟨_, _, rfl, rfl, hc.sc ho (.bl _)⟩
theorem op2_ge : Op2 K geO (rI0 fun i j => .bl (decide (j ≤ i))) := by
  intro F H v w d e res Q l hd he ho hc
  cases d <;> cases e <;> first | (cases ho; done) | skip
  cases hd.int; cases he.int
  exact ⟨_, _, rfl, rfl, hc.sc ho (.bl _)⟩
theorem eq_core {F H : Hp} {v w : V} {d e : D} {b : Bool} {P : Bool → Prop} (l : Le F H) (hd : RH K F H v d) (he : RH K F H w e) (ho : eqB d e = some b) (hp : P b) :
    (scal v w = true ∧ P (decide (v = w))) ∨ (∃ d e, Dp K.K H v d ∧ Dp K.K H w e ∧ SeqAt.shaped d = true ∧ SeqAt.shaped e = true ∧ P (PyData.eqv d e)) := by
  unfold eqB at ho
  split at ho
  · cases hd.int; cases he.int
    cases ho
    refine .inl ⟨rfl, ?_⟩
    simpa using hp
  · cases hd.str; cases he.str
    cases ho
    refine .inl ⟨rfl, ?_⟩
    simpa using hp
  · split at ho
    · rename_i hq
      rw [Bool.and_eq_true] at hq
      cases ho
      exact .inr ⟨_, _, hd.dp hq.1 l, he.dp hq.2 l, plain_shaped hq.1, plain_shaped hq.2, hp⟩
    · cases ho
theorem op2_eq : Op2 K eqO (fun x y H Q => rEq x y H Q ∨ rEqD K.K x y H Q) := by
  intro F H v w d e res Q l hd he ho hc
  unfold eqO at ho
  cases q : eqB d e with
  | none => rw [q] at ho; cases ho
  | some b =>
    rw [q] at ho
    cases ho
    exact eq_core (P := fun b => Q (.bl b) H) l hd he q (hc.1 _ (.bl b))
theorem op2_ne : Op2 K neO (fun x y H Q => rNe x y H Q ∨ rNeD K.K x y H Q) := by
  intro F H v w d e res Q l hd he ho hc
  unfold neO at ho
  cases q : eqB d e with
  | none => rw [q] at ho; cases ho
  | some b =>
    rw [q] at ho
    cases ho
    exact eq_core (P := fun b => Q (.bl (!b)) H) l hd he q (hc.1 _ (.bl _))
theorem RH.isNon {F H : Hp} {v : V} {d : D} (h : RH K F H v d) : decide (v = V.non) = isNon d := by
  rcases h with h | ⟨p, rfl, h⟩
  · cases h <;> rfl
  · cases d with
    | lst ds => rfl
    | dct kvs => rfl
    | _ => exact h.elim
theorem op2_is : Op2 K isO (fun x y H Q => y = .non ∧ Q (.bl (decide (x = .non))) H) := by
  intro F H v w d e res Q l hd he ho hc
  cases e <;> first | (cases ho; done) | skip
  cases he.non
  refine ⟨rfl, ?_⟩
  rw [hd.isNon]
  exact hc.sc ho (.bl _)
theorem op2_isn : Op2 K isnO (fun x y H Q => y = .non ∧ Q (.bl (!decide (x = .non))) H) := by
  intro F H v w d e res Q l hd he ho hc
  cases e <;> first | (cases ho; done) | skip
  cases he.non
  refine ⟨rfl, ?_⟩
  rw [hd.isNon]
  exact hc.sc ho (.bl _)
theorem op1_neg : Op1 K negO (rU fun i => .int (-i)) := by
  intro F H v d res Q l hd ho hc
  cases d <;> first | (cases ho; done) | skip
  cases hd.int
  exact ⟨_, rfl, hc.sc ho (.int _)⟩
theorem Reps.atI {F : Hp} {vs : List V} {ds : List D} {i : Int} {d : D} (r : Reps K F vs ds) (h : L2.atI ds i = some d) : ∃ v, L2.atI vs i = some v ∧ Rep K F v d := by
  unfold L2.atI at h ⊢
  rw [r.length]
  cases q : ixN ds.length i with
  | none => rw [q] at h; cases h
  | some j =>
    rw [q] at h
    exact r.get h
theorem op2_ix : Op2 K ixO (rIx K.K) := by
  intro F H v w d e res Q l hd he ho hc
  cases d <;> cases e <;> first | (cases ho; done) | skip
  · simp only [ixO] at ho
    rename_i ds i
    cases q : L2.atI ds i with
    | none => rw [q] at ho; cases ho
    | some x =>
      rw [q] at ho
      cases ho
      obtain ⟨a, vs, rfl, h1, r1⟩ := hd.lst l
      cases he.int
      obtain ⟨v, e1, e2⟩ := r1.atI q
      exact .inl ⟨a, vs, _, v, rfl, rfl, .inl (.inl h1), e1, hc.1 _ e2⟩
  · simp only [ixO] at ho
    rename_i ds i
    cases q : L2.atI ds i with
    | none => rw [q] at ho; cases ho
    | some x =>
      rw [q] at ho
      cases ho
      obtain ⟨a, vs, rfl, h1, r1⟩ := hd.tup l
      cases he.int
      obtain ⟨v, e1, e2⟩ := r1.atI q
      exact .inr (.inl ⟨a, vs, _, v, rfl, rfl, h1.sq, e1, hc.1 _ e2⟩)
end
end BF
set_option Elab.async false
set_option linter.all false
set_option autoImplicit false
set_option maxRecDepth 100000
set_option maxHeartbeats 2000000
namespace BF
open PySem PySem.Spec PyProof.Rows L2
/-! ### in, over tuples too -/
section
variable {X : Cx}
def rInT (K : PySem.W.Frag) : R2 := fun x y H Q => ∃ d ds, Dp K H x d ∧ Dp K H y (.tuple ds) ∧ SeqAt.shaped d = true ∧ SeqAt.shaped (.tuple ds) = true ∧ Q (.bl (ds.any fun z => PyData.eqv z d)) H
def rNotInT (K : PySem.W.Frag) : R2 := fun x y H Q => ∃ d ds, Dp K H x d ∧ Dp K H y (.tuple ds) ∧ SeqAt.shaped d = true ∧ SeqAt.shaped (.tuple ds) = true ∧ Q (.bl (!ds.any fun z => PyData.eqv z d)) H
theorem op_inT (hu : X.A.units + 65 < cLine) : OpR X (compareOp .In) (rInT X.K) := by
  intro pins s σ H x y v u Q I rx ry h
  obtain ⟨d, ds, hd, he, sd, se, q⟩ := h
  obtain ⟨as, r1⟩ := Dp.reads I d x v hd rx
  obtain ⟨bs, r2⟩ := Dp.reads I (.tuple ds) y u he ry
  exact SeqAt.in_tuple_reads r2 r1 (SeqAt.canLay_of_shaped se) (SeqAt.canLay_of_shaped sd) (room_in_shaped sd hu) ⟨.bl _, H, I, rfl, q⟩
theorem op_notInT (hu : X.A.units + 65 < cLine) : OpR X (compareOp .NotIn) (rNotInT X.K) := by
  intro pins s σ H x y v u Q I rx ry h
  obtain ⟨d, ds, hd, he, sd, se, q⟩ := h
  obtain ⟨as, r1⟩ := Dp.reads I d x v hd rx
  obtain ⟨bs, r2⟩ := Dp.reads I (.tuple ds) y u he ry
  exact SeqAt.notIn_tuple_reads r2 r1 (SeqAt.canLay_of_shaped se) (SeqAt.canLay_of_shaped sd) (room_in_shaped sd hu) ⟨.bl _, H, I, rfl, q⟩
end
section
variable {K : Env1}
theorem in_core {F H : Hp} {v w : V} {d e : D} {b : Bool} {P : Bool → Prop} (l : Le F H) (hd : RH K F H v d) (he : RH K F H w e) (ho : inB d e = some b) (hp : P b) :
    (∃ d ds, Dp K.K H v d ∧ Dp K.K H w (.list ds) ∧ SeqAt.shaped d = true ∧ SeqAt.shaped (.list ds) = true ∧ P (ds.any fun z => PyData.eqv z d)) ∨ (∃ d ds, Dp K.K H v d ∧ Dp K.K H w (.tuple ds) ∧ SeqAt.shaped d = true ∧ SeqAt.shaped (.tuple ds) = true ∧ P (ds.any fun z => PyData.eqv z d)) := by
  unfold inB at ho
  split at ho
  · split at ho
    · rename_i hq
      rw [Bool.and_eq_true] at hq
      cases ho
      have h1 := he.dp hq.2 l
      have h2 := plain_shaped hq.2
      simp only [toPy] at h1 h2
      refine .inl ⟨_, _, hd.dp hq.1 l, h1, plain_shaped hq.1, h2, ?_⟩
      rw [toPys_eq, List.any_map]
      exact hp
    · cases ho
  · split at ho
    · rename_i hq
      rw [Bool.and_eq_true] at hq
      cases ho
      have h1 := he.dp hq.2 l
      have h2 := plain_shaped hq.2
      simp only [toPy] at h1 h2
      refine .inr ⟨_, _, hd.dp hq.1 l, h1, plain_shaped hq.1, h2, ?_⟩
      rw [toPys_eq, List.any_map]
      exact hp
    · cases ho
  · cases ho
theorem op2_in : Op2 K inO (fun x y H Q => rInD K.K x y H Q ∨ rInT K.K x y H Q) := by
  intro F H v w d e res Q l hd he ho hc
  unfold inO at ho
  cases q : inB d e with
  | none => rw [q] at ho; cases ho
  | some b =>
    rw [q] at ho
    cases ho
    exact in_core (P := fun b => Q (.bl b) H) l hd he q (hc.1 _ (.bl b))
theorem op2_nin : Op2 K ninO (fun x y H Q => rNotInD K.K x y H Q ∨ rNotInT K.K x y H Q) := by
  intro F H v w d e res Q l hd he ho hc
  unfold ninO at ho
  cases q : inB d e with
  | none => rw [q] at ho; cases ho
  | some b =>
    rw [q] at ho
    cases ho
    exact in_core (P := fun b => Q (.bl (!b)) H) l hd he q (hc.1 _ (.bl _))
/-! ### built-ins -/
theorem maxI_mem : ∀ {l : List Int}, 0 < l.length → maxI l ∈ l ∧ ∀ y ∈ l, y ≤ maxI l
  | [], h => by simp at h
  | [x], _ => by simp [maxI]
  | x :: y :: r, _ => by
    obtain ⟨h1, h2⟩ := maxI_mem (l := y :: r) (by simp)
    show (if x ≤ maxI (y :: r) then maxI (y :: r) else x) ∈ _ ∧ ∀ z ∈ _, z ≤ (if x ≤ maxI (y :: r) then maxI (y :: r) else x)
    split
    · rename_i q
      exact ⟨List.mem_cons_of_mem _ h1, fun z hz => by
        rcases List.mem_cons.mp hz with rfl | hz
        · exact q
        · exact h2 z hz⟩
    · rename_i q
      exact ⟨List.mem_cons_self .., fun z hz => by
        rcases List.mem_cons.mp hz with rfl | hz
        · exact Int.le_refl _
        · have := h2 z hz; omega⟩
theorem minI_mem : ∀ {l : List Int}, 0 < l.length → minI l ∈ l ∧ ∀ y ∈ l, minI l ≤ y
  | [], h => by simp at h
  | [x], _ => by simp [minI]
  | x :: y :: r, _ => by
    obtain ⟨h1, h2⟩ := minI_mem (l := y :: r) (by simp)
    show (if minI (y :: r) ≤ x then minI (y :: r) else x) ∈ _ ∧ ∀ z ∈ _, (if minI (y :: r) ≤ x then minI (y :: r) else x) ≤ z
    split
    · rename_i q
      exact ⟨List.mem_cons_of_mem _ h1, fun z hz => by
        rcases List.mem_cons.mp hz with rfl | hz
        · exact q
        · exact h2 z hz⟩
    · rename_i q
      exact ⟨List.mem_cons_self .., fun z hz => by
        rcases List.mem_cons.mp hz with rfl | hz
        · exact Int.le_refl _
        · have := h2 z hz; omega⟩
theorem opn_one {o : D → Option Ov} {rr : List V → Hp → VK → Prop} (h : ∀ F H v d res Q, Le F H → RH K F H v d → o d = some res → Cont K F H Q res → rr [v] H Q) : Opn K (one o) rr := by
  intro F H vs ds res Q l hr ho hc
  match ds, ho, hr with
  | [d], ho, hr =>
    obtain ⟨v, rfl, hv⟩ := hr.one
    exact h F H v d res Q l hv ho hc
theorem opn_two {o : D → D → Option Ov} {rr : List V → Hp → VK → Prop} (h : ∀ F H v w d e res Q, Le F H → RH K F H v d → RH K F H w e → o d e = some res → Cont K F H Q res → rr [v, w] H Q) : Opn K (two o) rr := by
  intro F H vs ds res Q l hr ho hc
  match ds, ho, hr with
  | [d, e], ho, hr =>
    obtain ⟨v, w, rfl, hv, hw⟩ := hr.two
    exact h F H v w d e res Q l hv hw ho hc
theorem opn_len : Opn K (one lenO) (fun xs H Q => (∃ p ys, xs = [.ref p] ∧ (SqL K.K H p ys ∨ SqT K.K H p ys) ∧ Q (.int ys.length) H) ∨ ∃ z, xs = [.str z] ∧ z.length ≤ sizeLine ∧ Q (.int z.length) H) := opn_one fun F H v d res Q l hd ho hc => by
  cases d <;> first | (cases ho; done) | skip
  · cases hd.str
    simp only [lenO] at ho
    split at ho
    · rename_i q; exact .inr ⟨_, rfl, q, hc.sc ho (.int _)⟩
    · cases ho
  · obtain ⟨a, vs, rfl, h1, r1⟩ := hd.lst l
    refine .inl ⟨a, vs, rfl, .inl (.inl (.inl h1)), ?_⟩
    rw [r1.length]
    exact hc.sc ho (.int _)
  · obtain ⟨a, vs, rfl, h1, r1⟩ := hd.tup l
    refine .inl ⟨a, vs, rfl, .inr h1.sq, ?_⟩
    rw [r1.length]
    exact hc.sc ho (.int _)
theorem opn_int : Opn K (one intO) (fun xs H Q => (∃ i, xs = [.int i] ∧ Q (.int i) H) ∨ ∃ k, xs = [.bl k] ∧ Q (.int (if k then 1 else 0)) H) := opn_one fun F H v d res Q l hd ho hc => by
  cases d <;> first | (cases ho; done) | skip
  · cases hd.bl
    exact .inr ⟨_, rfl, hc.sc ho (.int _)⟩
  · cases hd.int
    exact .inl ⟨_, rfl, hc.sc ho (.int _)⟩
theorem opn_str : Opn K (one strO) (fun xs H Q => ∃ i, xs = [.int i] ∧ i.natAbs.log2 < 1920 ∧ Q (.str (toString i)) H) := opn_one fun F H v d res Q l hd ho hc => by
  cases d <;> first | (cases ho; done) | skip
  cases hd.int
  simp only [strO] at ho
  split at ho
  · rename_i q; exact ⟨_, rfl, q, hc.sc ho (.str _)⟩
  · cases ho
theorem opn_sum : Opn K (one sumO) (rSum K.K) := opn_one fun F H v d res Q l hd ho hc => by
  cases d <;> first | (cases ho; done) | skip
  obtain ⟨a, vs, rfl, h1, r1⟩ := hd.lst l
  simp only [sumO] at ho
  rename_i ds
  cases q : intsOf ds with
  | none => rw [q] at ho; cases ho
  | some is =>
    rw [q] at ho
    cases ho
    rw [intsOf_eq q] at r1
    have e := r1.ints
    subst e
    exact ⟨a, is, rfl, .inl (.inl h1), hc.1 _ (.int _)⟩
theorem opn_max : Opn K (one maxO) (rMax K.K) := opn_one fun F H v d res Q l hd ho hc => by
  cases d <;> first | (cases ho; done) | skip
  obtain ⟨a, vs, rfl, h1, r1⟩ := hd.lst l
  simp only [maxO] at ho
  rename_i ds
  cases q : intsOf ds with
  | none => rw [q] at ho; cases ho
  | some is =>
    rw [q] at ho
    simp only [Option.bind_some] at ho
    split at ho
    · rename_i hl
      cases ho
      rw [intsOf_eq q] at r1
      have e := r1.ints
      subst e
      refine ⟨a, is, rfl, .inl (.inl h1), hl, fun m hm hle => ?_⟩
      obtain ⟨e1, e2⟩ := maxI_mem hl
      have e3 : m = maxI is := Int.le_antisymm (e2 m hm) (hle _ e1)
      rw [e3]
      exact hc.1 _ (.int _)
    · cases ho
theorem opn_min : Opn K (one minO) (rMin K.K) := opn_one fun F H v d res Q l hd ho hc => by
  cases d <;> first | (cases ho; done) | skip
  obtain ⟨a, vs, rfl, h1, r1⟩ := hd.lst l
  simp only [minO] at ho
  rename_i ds
  cases q : intsOf ds with
  | none => rw [q] at ho; cases ho
  | some is =>
    rw [q] at ho
    simp only [Option.bind_some] at ho
    split at ho
    · rename_i hl
      cases ho
      rw [intsOf_eq q] at r1
      have e := r1.ints
      subst e
      refine ⟨a, is, rfl, .inl (.inl h1), hl, fun m hm hle => ?_⟩
      obtain ⟨e1, e2⟩ := minI_mem hl
      have e3 : m = minI is := Int.le_antisymm (hle _ e1) (e2 m hm)
      rw [e3]
      exact hc.1 _ (.int _)
    · cases ho
theorem opn_max2 : Opn K (two max2O) (fun xs H Q => ∃ i j, xs = [.int i, .int j] ∧ Q (.int (if j > i then j else i)) H) := opn_two fun F H v w d e res Q l hd he ho hc => by
  cases d <;> cases e <;> first | (cases ho; done) | skip
  cases hd.int; cases he.int
  exact ⟨_, _, rfl, hc.sc ho (.int _)⟩
theorem opn_min2 : Opn K (two min2O) (fun xs H Q => ∃ i j, xs = [.int i, .int j] ∧ Q (.int (if j < i then j else i)) H) := opn_two fun F H v w d e res Q l hd he ho hc => by
  cases d <;> cases e <;> first | (cases ho; done) | skip
  cases hd.int; cases he.int
  exact ⟨_, _, rfl, hc.sc ho (.int _)⟩
theorem opn_all : Opn K (one allO) (rAll K.K) := opn_one fun F H v d res Q l hd ho hc => by
  cases d <;> first | (cases ho; done) | skip
  obtain ⟨a, vs, rfl, h1, r1⟩ := hd.lst l
  simp only [allO] at ho
  rename_i ds
  cases q : blsOf ds with
  | none => rw [q] at ho; cases ho
  | some is =>
    rw [q] at ho
    cases ho
    rw [blsOf_eq q] at r1
    have e := r1.bls
    subst e
    exact ⟨a, is, rfl, .inl (.inl h1), hc.1 _ (.bl _)⟩
theorem opn_any : Opn K (one anyO) (rAny K.K) := opn_one fun F H v d res Q l hd ho hc => by
  cases d <;> first | (cases ho; done) | skip
  obtain ⟨a, vs, rfl, h1, r1⟩ := hd.lst l
  simp only [anyO] at ho
  rename_i ds
  cases q : blsOf ds with
  | none => rw [q] at ho; cases ho
  | some is =>
    rw [q] at ho
    cases ho
    rw [blsOf_eq q] at r1
    have e := r1.bls
    subst e
    exact ⟨a, is, rfl, .inl (.inl h1), hc.1 _ (.bl _)⟩
theorem opn_tuple : Opn K (one tupleO) (fun xs H Q => ∃ p ys, xs = [.ref p] ∧ ((SqL K.K H p ys ∧ ∀ l, H l = none → Q (.ref l) (upd H l (.tup ys))) ∨ (SqT K.K H p ys ∧ Q (.ref p) H))) := opn_one fun F H v d res Q l hd ho hc => by
  cases d <;> first | (cases ho; done) | skip
  · obtain ⟨a, vs, rfl, h1, r1⟩ := hd.lst l
    cases ho
    exact ⟨a, vs, rfl, .inl ⟨.inl (.inl h1), fun p n => hc.2 _ rfl p vs n r1⟩⟩
  · have hd0 := hd
    obtain ⟨a, vs, rfl, h1, r1⟩ := hd.tup l
    cases ho
    refine ⟨a, vs, rfl, .inr ⟨h1.sq, ?_⟩⟩
    rcases hd0 with z | ⟨_, _, z⟩
    · exact hc.1 _ z
    · exact z.elim
theorem opn_list : Opn K (one listO) (fun xs H Q => ∃ p ys, xs = [.ref p] ∧ (SqL K.K H p ys ∨ SqT K.K H p ys) ∧ ∀ l, H l = none → Q (.ref l) (upd H l (.lst ys))) := opn_one fun F H v d res Q l hd ho hc => by
  cases d <;> first | (cases ho; done) | skip
  · obtain ⟨a, vs, rfl, h1, r1⟩ := hd.lst l
    cases ho
    exact ⟨a, vs, rfl, .inl (.inl (.inl h1)), fun p n => hc _ rfl p vs n r1⟩
  · obtain ⟨a, vs, rfl, h1, r1⟩ := hd.tup l
    cases ho
    exact ⟨a, vs, rfl, .inr h1.sq, fun p n => hc _ rfl p vs n r1⟩
end
end BF
set_option Elab.async false
set_option linter.all false
set_option autoImplicit false
set_option maxRecDepth 100000
set_option maxHeartbeats 2000000
namespace BF
open PySem PySem.Spec PyProof.Rows L2
section
variable {G : Type}
/-! ### what expressions do -/
def evVar (i : Nat) (s : Sg G) : Rs G Ov := match s.sl[i]? with
  | some (some _) => .ok (.pl i) s
  | _ => .no
def evC (d : D) (s : Sg G) : Rs G Ov := .ok (.vl d) s
/-- a test's answer -/
def tst (s : Sg G) (x : Ov) : Option Bool := match pk s x with
  | some (.bl b) => some b
  | _ => none
def evIf (c a b : Sg G → Rs G Ov) (s : Sg G) : Rs G Ov := (c s).bind fun x s1 => match tst s1 x with
  | some true => a s1
  | some false => b s1
  | none => .no
def evAnd (a b : Sg G → Rs G Ov) (s : Sg G) : Rs G Ov := (a s).bind fun x s1 => match tst s1 x with
  | some true => b s1
  | some false => .ok (.vl (.bl false)) s1
  | none => .no
def evOr (a b : Sg G → Rs G Ov) (s : Sg G) : Rs G Ov := (a s).bind fun x s1 => match tst s1 x with
  | some true => .ok (.vl (.bl true)) s1
  | some false => b s1
  | none => .no
def evTup (f : Sg G → Rs G (List Ov)) (s : Sg G) : Rs G Ov := (f s).bind fun xs s1 => (uses s1 xs).bind fun ds s2 => .ok (.vl (.tup ds)) s2
def evLst (f : Sg G → Rs G (List Ov)) (s : Sg G) : Rs G Ov := (f s).bind fun xs s1 => (uses s1 xs).bind fun ds s2 => .ok (.fr (.lst ds)) s2
/-- a def's answer -/
inductive Fr (G : Type) where
  | ok (d : D) (g : G)
  | er (x : Er) (g : G)
  | no
abbrev Mir (G : Type) := List D → G → Fr G
def evCall (g : Mir G) (f : Sg G → Rs G (List Ov)) (s : Sg G) : Rs G Ov := (f s).bind fun xs s1 => (uses s1 xs).bind fun ds s2 => match g ds s2.g with
  | .ok d g' => .ok (.vl d) { s2 with g := g' }
  | .er x g' => .er x g'
  | .no => .no
/-- a ? b ? c -/
def evChain (o o' : D → D → Option Ov) (fab : Sg G → Rs G (List Ov)) (fc : Sg G → Rs G Ov) (s : Sg G) : Rs G Ov := (fab s).bind fun xs s1 => match xs, pks s1 xs with
  | [_, y], some [d, e] => (match o d e with
    | some (.vl (.bl true)) => (fc s1).bind fun z s2 => (match pk s2 y, pk s2 z with
      | some e', some c => (match o' e' c with
        | some (.vl (.bl b)) => .ok (.vl (.bl b)) s2
        | _ => .no)
      | _, _ => .no)
    | some (.vl (.bl false)) => .ok (.vl (.bl false)) s1
    | _ => .no)
  | _, _ => .no
end
section
variable {G : Type} {X : Cx} {K : Env1} {T : Gt G} {W : WX1} {a b c e : Expr} {es : List Expr} {fa fb fc : Sg G → Rs G Ov} {fl : Sg G → Rs G (List Ov)} {pos : Pos}
theorem se_var {i : Nat} {x : Str} (hN : X.N[i]? = some x) (hv : Vis X.env.scope x) (hd : (x == ("__debug__" : Str)) = false) (hcd : (x == ("__classdict__" : Str)) = false) : SE X K T W (.Name x pos) (evVar i) := by
  intro F H σ s Q R h
  unfold evVar at h
  split at h
  · rename_i y e
    obtain ⟨b, d⟩ := y
    have : ∃ v, σ[i]? = some (some v) := by
      cases b with
      | false => obtain ⟨v, h1, _⟩ := R.val i d e; exact ⟨v, h1⟩
      | true => obtain ⟨p, h1, _⟩ := R.own i d e; exact ⟨_, h1⟩
    obtain ⟨v, hv'⟩ := this
    exact wpE_of (pe_var hN hv hd hcd) ⟨v, hv', h v F H (Stp.refl ..) R ⟨hv', _, e⟩⟩
  · exact h.elim
theorem se_c {d : D} {v : V} (hp : PE X e (tC v)) (hr : ∀ F, Rep K F v d) : SE X K T W e (evC d) := fun F H σ s Q R h => wpE_of hp (h v F H (Stp.refl ..) R (hr F))
theorem se_int {i : Int} {j : Nat} : SE X K T W (.Constant (.int i) j pos) (evC (.int i)) := se_c pe_int fun _ => .int i
theorem se_bl {i : Bool} {j : Nat} : SE X K T W (.Constant (.bool i) j pos) (evC (.bl i)) := se_c pe_bl fun _ => .bl i
theorem se_non {j : Nat} : SE X K T W (.Constant .none j pos) (evC .non) := se_c pe_non fun _ => .non
theorem se_str {i : Str} {j : Nat} : SE X K T W (.Constant (.str i) j pos) (evC (.str i)) := se_c pe_str fun _ => .str i
/-- a module's constant -/
theorem se_glob {x : Str} {d : D} {v : V} {u : Value} (hg : Gl X x) (hm : X.mg x = some u) (r : RelV v u) (hr : ∀ F, Rep K F v d) (hd : (x == ("__debug__" : Str)) = false) : SE X K T W (.Name x pos) (evC d) := se_c (pe_glob hg hm r hd) hr
theorem se_bltn {x : Str} {d : D} {v : V} {u : Value} (hg : Gl X x) (hm : X.mg x = none) (hv : bootBuiltins x = some u) (r : RelV v u) (hr : ∀ F, Rep K F v d) (hn : x ≠ "__name__") (hd : (x == ("__debug__" : Str)) = false) : SE X K T W (.Name x pos) (evC d) := se_c (pe_bltn hg hm hv r hn hd) hr
/-- operators -/
theorem wp2 {r : R2} {t : TE} {e : Expr} (hp : PE X e (tOp r (wpE X a) (wpE X b))) : ∀ σ H Q, wpL X [a, b] σ H (fun vs H1 => ∃ x y, vs = [x, y] ∧ r x y H1 Q) → wpE X e σ H Q := by
  intro σ H Q h
  refine wpE_of hp ?_
  show wpE X a σ H fun x H1 => wpE X b σ H1 fun y H2 => r x y H2 Q
  have h : wpE X a σ H fun x H1 => wpE X b σ H1 fun y H2 => ∃ x' y', [x, y] = [x', y'] ∧ r x' y' H2 Q := h
  intro pins s I
  refine thn (h pins s I) fun u s1 ⟨x, H1, I1, r1, q1⟩ => ⟨x, H1, I1, r1, fun pins s I => ?_⟩
  refine thn (q1 pins s I) fun u s1 ⟨y, H2, I2, r2, x', y', e, q2⟩ => ⟨y, H2, I2, r2, ?_⟩
  cases e; exact q2
theorem op2_n {o : D → D → Option Ov} {r : R2} (h : Op2 K o r) : Opn K (two o) (fun vs H Q => ∃ x y, vs = [x, y] ∧ r x y H Q) := opn_two fun F H v w d e res Q l hd he ho hc => ⟨v, w, rfl, h F H v w d e res Q l hd he ho hc⟩
theorem se_bin {op : Operator} {o : D → D → Option Ov} {r : R2} (hr : OpR X (binaryOp op) r) (ho : Op2 K o r) (hl : SL X K T W [a, b] fl) : SE X K T W (.BinOp a op b pos) (evOp fl (two o)) :=
  se_op hl (op2_n ho) (wp2 (t := fun _ _ _ => True) (pe_op hr (pe_self X a) (pe_self X b)))
theorem se_cmp {op : CmpOp} {o : D → D → Option Ov} {r : R2} (hr : OpR X (compareOp op) r) (ho : Op2 K o r) (hl : SL X K T W [a, b] fl) (hm : behindInMarks op b = false) : SE X K T W (.Compare a [op] [b] pos) (evOp fl (two o)) :=
  se_op hl (op2_n ho) (wp2 (t := fun _ _ _ => True) (pe_cmpR hr (pe_self X a) (pe_self X b) hm))
theorem se_ix {o : D → D → Option Ov} {r : R2} (hr : IxR X r) (ho : Op2 K o r) (hl : SL X K T W [a, b] fl) (hs : PlainIx b) : SE X K T W (.Subscript a b pos) (evOp fl (two o)) :=
  se_op hl (op2_n ho) (wp2 (t := fun _ _ _ => True) (pe_ix hr (pe_self X a) (pe_self X b) hs))
theorem se_neg (hl : SL X K T W [a] fl) : SE X K T W (.UnaryOp .USub a pos) (evOp fl (one negO)) := by
  refine se_op (rr := fun vs H Q => ∃ x, vs = [x] ∧ rU (fun i => .int (-i)) x H Q) hl (opn_one fun F H v d res Q l hd ho hc => ⟨v, rfl, op1_neg F H v d res Q l hd ho hc⟩) fun σ H Q h => wpE_of (pe_un un_neg (pe_self X a)) ?_
  intro pins s I
  refine thn ((show wpE X a σ H fun x H1 => ∃ x', [x] = [x'] ∧ rU (fun i => .int (-i)) x' H1 Q from h) pins s I) fun u s1 ⟨x, H1, I1, r1, x', e, q⟩ => ⟨x, H1, I1, r1, ?_⟩
  cases e; exact q
theorem wp_mono {Q Q' : VK} {σ : Sl} {H : Hp} (h : wpE X e σ H Q) (q : ∀ v H', Q v H' → Q' v H') : wpE X e σ H Q' := fun pins s I => thn (h pins s I) fun u s1 ⟨x, H1, I1, r1, q1⟩ => ⟨x, H1, I1, r1, q x H1 q1⟩
theorem wpL_mono {Q Q' : List V → Hp → Prop} {σ : Sl} : ∀ {es : List Expr} {H : Hp} {Q Q' : List V → Hp → Prop}, wpL X es σ H Q → (∀ v H', Q v H' → Q' v H') → wpL X es σ H Q'
  | [], _, _, _, h, q => q _ _ h
  | e :: es, _, _, _, h, q => wp_mono (e := e) h fun v H' h' => wpL_mono (Q := Q) (Q' := Q') h' fun vs H'' h'' => q _ _ h''
/-- a built-in function -/
theorem se_blt {x : Str} {p : Pos} {id : String} {o : List D → Option Ov} {r : List V → Hp → VK → Prop} (hc : CallR X (.builtin id) r) (ho : Opn K o r) (hg : Gl X x) (hm : X.mg x = none) (hv : bootBuiltins x = some (.builtin id)) (hn : x ≠ "__name__") (hdb : (x == ("__debug__" : Str)) = false)
    (hst : (e :: es).all noStar = true) (hl : SL X K T W (e :: es) fl) : SE X K T W (.Call (.Name x p) (e :: es) [] pos) (evOp fl o) := by
  have h' := Bool.and_eq_true_iff.mp (show (noStar e && es.all noStar) = true from hst)
  exact se_op hl ho fun σ H Q h => wpE_of (pe_callB hc hg hm hv (pa_self X hst) hn hdb (starEach_of h'.1) (back_of X pos h'.2)) h
theorem se_bty {x : Str} {p : Pos} {id : String} {o : List D → Option Ov} {r : List V → Hp → VK → Prop} (hc : CallR X (.type id) r) (ho : Opn K o r) (hg : Gl X x) (hm : X.mg x = none) (hv : bootBuiltins x = some (.type id)) (hn : x ≠ "__name__") (hdb : (x == ("__debug__" : Str)) = false)
    (hst : (e :: es).all noStar = true) (hl : SL X K T W (e :: es) fl) : SE X K T W (.Call (.Name x p) (e :: es) [] pos) (evOp fl o) := by
  have h' := Bool.and_eq_true_iff.mp (show (noStar e && es.all noStar) = true from hst)
  exact se_op hl ho fun σ H Q h => wpE_of (pe_callTy hc hg hm hv (pa_self X hst) hn hdb (starEach_of h'.1) (back_of X pos h'.2)) h
/-- what comes of used operands -/
theorem sl_used {k : List D → Sg G → Rs G Ov} {P : List V → Hp → VK → Prop} {F H : Hp} {σ : Sl} {s : Sg G} {Q : VK} (hf : SL X K T W es fl) (R : Rl K T F H s σ)
    (hk : ∀ F1 H1 s1 vs ds, Rl K T F1 H1 s1 σ → Stp T F H s σ F1 H1 s1 σ → Reps K F1 vs ds → PstE K T W F1 H1 s1 σ (k ds s1) Q → P vs H1 Q)
    (h : PstE K T W F H s σ ((fl s).bind fun xs s1 => (uses s1 xs).bind fun ds s2 => k ds s2) Q) : wpL X es σ H (fun vs H1 => P vs H1 Q) := by
  refine hf F H σ s _ R ?_
  cases q : fl s with
  | no => rw [q] at h; exact h.elim
  | er x g => rw [q] at h; exact h
  | ok xs s1 =>
    rw [q] at h
    intro vs F1 H1 S1 R1 r1
    have h : PstE K T W F H s σ ((uses s1 xs).bind fun ds s2 => k ds s2) Q := h
    cases q2 : uses s1 xs with
    | no => rw [q2] at h; exact h.elim
    | er x g =>
      exfalso
      have : ∀ (xs : List Ov) (s : Sg G), uses s xs ≠ .er x g := by
        intro xs
        induction xs with
        | nil => intro s e; cases e
        | cons y ys ih =>
          intro s e
          have e : ((use s y).bind fun d s1 => (uses s1 ys).bind fun ds s2 => .ok (d :: ds) s2) = .er x g := e
          cases y with
          | vl d =>
            have e : ((uses s ys).bind fun ds s2 => Rs.ok (d :: ds) s2) = .er x g := e
            cases q : uses s ys with
            | no => rw [q] at e; cases e
            | er x' g' => rw [q] at e; cases e; exact ih s q
            | ok ds s2 => rw [q] at e; cases e
          | fr d =>
            have e : ((uses s ys).bind fun ds s2 => Rs.ok (d :: ds) s2) = .er x g := e
            cases q : uses s ys with
            | no => rw [q] at e; cases e
            | er x' g' => rw [q] at e; cases e; exact ih s q
            | ok ds s2 => rw [q] at e; cases e
          | pl i =>
            have e : ((match look s i with
              | some d => Rs.ok d (frzS s i)
              | none => Rs.no).bind fun d s1 => (uses s1 ys).bind fun ds s2 => .ok (d :: ds) s2) = .er x g := e
            cases q0 : look s i with
            | none => rw [q0] at e; cases e
            | some d =>
              rw [q0] at e
              have e : ((uses (frzS s i) ys).bind fun ds s2 => Rs.ok (d :: ds) s2) = .er x g := e
              cases q : uses (frzS s i) ys with
              | no => rw [q] at e; cases e
              | er x' g' => rw [q] at e; cases e; exact ih _ q
              | ok ds s2 => rw [q] at e; cases e
      exact this xs s1 q2
    | ok ds s2 =>
      rw [q2] at h
      obtain ⟨F2, R2, S2, p2⟩ := r1.used S1 R R1 q2
      exact hk F2 H1 s2 vs ds R2 S2 p2 (PstE.step S2 R R2 h)
theorem Reps.len_es {F : Hp} {vs : List V} {ds : List D} (r : Reps K F vs ds) : ds.length = vs.length := r.length.symm
theorem wpL_len {σ : Sl} : ∀ {es : List Expr} {H : Hp} {Q : List V → Hp → Prop}, wpL X es σ H Q → wpL X es σ H fun vs H' => vs.length = es.length ∧ Q vs H'
  | [], _, _, h => ⟨rfl, h⟩
  | e :: es, _, _, h => wp_mono (e := e) h fun v H' h' => wpL_mono (Q := fun _ _ => True) (Q' := fun _ _ => True) (wpL_len h') fun vs H'' h'' => ⟨by simp [h''.1], h''.2⟩
theorem se_tup {k : Nat} (hst : es.all noStar = true) (hz : es.length ≤ sizeLine) (hl : SL X K T W es fl) : SE X K T W (.Tuple es k pos) (evTup fl) := by
  intro F H σ s Q R h
  refine wpE_of (pe_tup (pa_self X hst)) ?_
  show wpL X es σ H fun xs H1 => xs.length ≤ sizeLine ∧ ∀ p, H1 p = none → Q (.ref p) (upd H1 p (.tup xs))
  refine wpL_mono (Q := fun _ _ => True) (Q' := fun _ _ => True) (wpL_len (sl_used (P := fun vs H1 Q => ∀ p, H1 p = none → Q (.ref p) (upd H1 p (.tup vs))) hl R (fun F1 H1 s1 vs ds R1 S1 r hq p n => ?_) h)) fun vs H1 q => ⟨by rw [q.1]; exact hz, q.2⟩
  obtain ⟨R2, S2⟩ := R1.newF (o := .tup vs) n
  exact hq (.ref p) _ _ S2 R2 (.tup (.inl upd_same) (r.mono S2.le))
theorem se_lst (hst : es.all noStar = true) (hz : es.length ≤ sizeLine) (hl : SL X K T W es fl) : SE X K T W (.List es pos) (evLst fl) := by
  intro F H σ s Q R h
  refine wpE_of (pe_lst (pa_self X hst)) ?_
  show wpL X es σ H fun xs H1 => xs.length ≤ sizeLine ∧ ∀ p, H1 p = none → Q (.ref p) (upd H1 p (.lst xs))
  refine wpL_mono (Q := fun _ _ => True) (Q' := fun _ _ => True) (wpL_len (sl_used (P := fun vs H1 Q => ∀ p, H1 p = none → Q (.ref p) (upd H1 p (.lst vs))) hl R (fun F1 H1 s1 vs ds R1 S1 r hq p n => ?_) h)) fun vs H1 q => ⟨by rw [q.1]; exact hz, q.2⟩
  obtain ⟨R2, S2⟩ := R1.new (o := .lst vs) n
  obtain ⟨n1, nf, no⟩ := R1.free n
  exact hq (.ref p) _ _ S2 R2 ⟨p, rfl, n, n1, nf, no, vs, upd_same, r⟩
end
end BF
set_option Elab.async false
set_option linter.all false
set_option autoImplicit false
set_option maxRecDepth 100000
set_option maxHeartbeats 2000000
namespace BF
open PySem PySem.Spec PyProof.Rows L2
section
variable {G : Type}
def PstT (K : Env1) (T : Gt G) (W : WX1) (F H : Hp) (s : Sg G) (σ : Sl) (r : Rs G Ov) (Q : Bool → Hp → Prop) : Prop := match r with
  | .ok x s' => (match tst s' x with
    | some b => ∀ F' H', Stp T F H s σ F' H' s' σ → Rl K T F' H' s' σ → Q b H'
    | none => False)
  | .er x g => PstX K T W F H s σ x g
  | .no => False
/-- the judgement of a test -/
def ST (X : Cx) (K : Env1) (T : Gt G) (W : WX1) (e : Expr) (f : Sg G → Rs G Ov) : Prop := ∀ F H σ s Q, Rl K T F H s σ → PstT K T W F H s σ (f s) Q → wpT X e σ H Q
end
section
variable {G : Type} {X : Cx} {K : Env1} {T : Gt G} {W : WX1} {a b c e : Expr} {es : List Expr} {fa fb fc : Sg G → Rs G Ov} {fl : Sg G → Rs G (List Ov)} {pos : Pos} {F H F1 H1 : Hp} {s s1 : Sg G} {σ : Sl}
theorem tst_rh {v : V} {x : Ov} {b : Bool} {H0 : Hp} (R : Rl K T F H s σ) (r : RO K T H0 F H s σ v x) (h : tst s x = some b) : v = .bl b := by
  unfold tst at h
  split at h
  · rename_i b' q
    cases h
    exact (r.rh R q).bl
  · cases h
theorem PstT.toE {r : Rs G Ov} {Q : Bool → Hp → Prop} (h : PstT K T W F H s σ r Q) : PstE K T W F H s σ r (fun v H' => ∃ k, v = .bl k ∧ Q k H') := by
  cases r with
  | no => exact h.elim
  | er x g => exact h
  | ok x s' =>
    intro v F' H' S R r
    have h : (match tst s' x with
      | some b => ∀ F' H', Stp T F H s σ F' H' s' σ → Rl K T F' H' s' σ → Q b H'
      | none => False) := h
    cases q : tst s' x with
    | none => rw [q] at h; exact h.elim
    | some b => rw [q] at h; exact ⟨b, tst_rh R r q, h F' H' S R⟩
theorem PstT.step {r : Rs G Ov} {Q : Bool → Hp → Prop} (S : Stp T F H s σ F1 H1 s1 σ) (R : Rl K T F H s σ) (R1 : Rl K T F1 H1 s1 σ) (h : PstT K T W F H s σ r Q) : PstT K T W F1 H1 s1 σ r Q := by
  cases r with
  | no => exact h.elim
  | er x g => exact PstX.step S R R1 h
  | ok x s' =>
    have h : (match tst s' x with
      | some b => ∀ F' H', Stp T F H s σ F' H' s' σ → Rl K T F' H' s' σ → Q b H'
      | none => False) := h
    show (match tst s' x with
      | some b => ∀ F' H', Stp T F1 H1 s1 σ F' H' s' σ → Rl K T F' H' s' σ → Q b H'
      | none => False)
    cases q : tst s' x with
    | none => rw [q] at h; exact h
    | some b => rw [q] at h; exact fun F' H' S' R' => h F' H' (S.trans S' R R') R'
theorem st_val (he : ∀ whole, isTrue e X.env whole = (do let v ← whole; standAt e.pos; holding [v] (truthy v))) (h : SE X K T W e fa) : ST X K T W e fa := fun F H σ s Q R hq => wpT_of (pt_val (pe_self X e) he) (h F H σ s _ R hq.toE)
/-- the core of an operation -/
theorem op_core {op : List D → Option Ov} {rr : List V → Hp → VK → Prop} {Q : VK} (hf : SL X K T W es fl) (ho : Opn K op rr) (R : Rl K T F H s σ) (h : PstE K T W F H s σ (evOp fl op s) Q) : wpL X es σ H (fun vs H1 => rr vs H1 Q) := by
  refine hf F H σ s _ R ?_
  unfold evOp at h
  cases q : fl s with
  | no => rw [q] at h; exact h.elim
  | er x g => rw [q] at h; exact h
  | ok xs s1 =>
    rw [q] at h
    intro vs F1 H1 S1 R1 r1
    simp only [Rs.bind] at h
    cases q2 : pks s1 xs with
    | none => rw [q2] at h; exact h.elim
    | some ds =>
      rw [q2] at h
      simp only at h
      cases q3 : op ds with
      | none => rw [q3] at h; exact h.elim
      | some res =>
        rw [q3] at h
        cases res with
        | pl i => exact h.elim
        | vl d => exact ho F1 H1 vs ds _ Q R1.sub (r1.rhs R1 q2) q3 (cont_of R1 (fun _ z => nomatch z) (PstE.step S1 R R1 h))
        | fr d => exact ho F1 H1 vs ds _ Q R1.sub (r1.rhs R1 q2) q3 (cont_of R1 (fun _ z => nomatch z) (PstE.step S1 R R1 h))
theorem st_cmp {op : CmpOp} {o : D → D → Option Ov} {r : R2} (hr : OpR X (compareOp op) r) (ho : Op2 K o r) (hl : SL X K T W [a, b] fl) (hm : behindInMarks op b = false) : ST X K T W (.Compare a [op] [b] pos) (evOp fl (two o)) := by
  intro F H σ s Q R h
  refine wpT_of (pt_cmpR hr (pe_self X a) (pe_self X b) hm) ?_
  have q := op_core hl (op2_n ho) R h.toE
  show wpE X a σ H fun x H1 => wpE X b σ H1 fun y H2 => r x y H2 (fun x H' => ∃ k, x = .bl k ∧ Q k H')
  have q : wpE X a σ H fun x H1 => wpE X b σ H1 fun y H2 => ∃ x' y', [x, y] = [x', y'] ∧ r x' y' H2 (fun v H' => ∃ k, v = .bl k ∧ Q k H') := q
  exact wp_mono q fun x H1 q => wp_mono q fun y H2 ⟨x', y', e, q⟩ => by cases e; exact q
theorem chain_core {o o' : D → D → Option Ov} {r r' : R2} {Q : VK} (ho : Op2 K o r) (ho' : Op2 K o' r') (hl : SL X K T W [a, b] fl) (hc : SE X K T W c fc) (R : Rl K T F H s σ) (h : PstE K T W F H s σ (evChain o o' fl fc s) Q) :
    tChain r r' (wpE X a) (wpE X b) (wpE X c) σ H Q := by
  have main : wpL X [a, b] σ H fun vs H2 => ∃ x y, vs = [x, y] ∧ r x y H2 fun z H3 => ∃ k, z = .bl k ∧ (if k = true then wpE X c σ H3 fun w' H4 => r' y w' H4 Q else Q (.bl false) H3) := by
    refine hl F H σ s _ R ?_
    unfold evChain at h
    cases q : fl s with
    | no => rw [q] at h; exact h.elim
    | er x g => rw [q] at h; exact h
    | ok xs s1 =>
      rw [q] at h
      intro vs F1 H1 S1 R1 r1
      simp only [Rs.bind] at h
      match xs, h, r1 with
      | [x0, y0], h, r1 =>
       match q2 : pks s1 [x0, y0], h with
       | none, h => exact h.elim
       | some [], h => exact h.elim
       | some [_], h => exact h.elim
       | some (_ :: _ :: _ :: _), h => exact h.elim
       | some [d, e], h =>
        simp only [] at h
        have rr := r1.rhs R1 q2
        obtain ⟨v, w, rfl, hv, hw⟩ := rr.two
        refine ⟨v, w, rfl, ?_⟩
        match q3 : o d e, h with
        | some (.vl (.bl true)), h =>
          refine ho F1 H1 v w d e _ _ R1.sub hv hw q3 ⟨fun z hz => ?_, fun ds e => nomatch e⟩
          cases hz
          refine ⟨true, rfl, ?_⟩
          rw [if_pos rfl]
          refine hc F1 H1 σ s1 _ R1 ?_
          simp only [] at h
          cases q4 : fc s1 with
          | no => rw [q4] at h; exact h.elim
          | er x g => rw [q4] at h; exact PstX.step S1 R R1 h
          | ok z s2 =>
            rw [q4] at h
            intro w' F2 H2 S2 R2 r2
            simp only [Rs.bind] at h
            have ry : RO K T H F1 H1 s1 σ w y0 := by
              cases r1 with
              | cons _ _ t => cases t with
                | cons t _ _ => exact t
            have ry2 := ry.step S2
            match q5 : pk s2 y0, q6 : pk s2 z, h with
            | some e', some c', h =>
              simp only [] at h
              match q7 : o' e' c', h with
              | some (.vl (.bl b)), h => exact ho' F2 H2 w w' e' c' _ Q R2.sub (ry2.rh R2 q5) (r2.rh R2 q6) q7 (cont_of R2 (fun _ z => nomatch z) (PstE.step (S1.trans S2 R R2) R R2 h))
              | none, h => exact h.elim
              | some (.pl i), h => exact h.elim
              | some (.fr d), h => exact h.elim
              | some (.vl .non), h => exact h.elim
              | some (.vl (.int _)), h => exact h.elim
              | some (.vl (.str _)), h => exact h.elim
              | some (.vl (.lst _)), h => exact h.elim
              | some (.vl (.tup _)), h => exact h.elim
              | some (.vl (.dct _)), h => exact h.elim
              | some (.vl (.obj _ _)), h => exact h.elim
              | some (.vl (.ref _)), h => exact h.elim
              | some (.vl (.ty _)), h => exact h.elim
            | none, _, h => exact h.elim
            | some _, none, h => exact h.elim
        | some (.vl (.bl false)), h =>
          refine ho F1 H1 v w d e _ _ R1.sub hv hw q3 ⟨fun z hz => ?_, fun ds e => nomatch e⟩
          cases hz
          refine ⟨false, rfl, ?_⟩
          rw [if_neg Bool.false_ne_true]
          exact h (.bl false) F1 H1 S1 R1 (.bl false)
        | none, h => exact h.elim
        | some (.pl i), h => exact h.elim
        | some (.fr d), h => exact h.elim
        | some (.vl .non), h => exact h.elim
        | some (.vl (.int _)), h => exact h.elim
        | some (.vl (.str _)), h => exact h.elim
        | some (.vl (.lst _)), h => exact h.elim
        | some (.vl (.tup _)), h => exact h.elim
        | some (.vl (.dct _)), h => exact h.elim
        | some (.vl (.obj _ _)), h => exact h.elim
        | some (.vl (.ref _)), h => exact h.elim
        | some (.vl (.ty _)), h => exact h.elim
      | [], h, _ => exact h.elim
      | [_], h, _ => exact h.elim
      | _ :: _ :: _ :: _, h, _ => exact h.elim
  have main : wpE X a σ H fun x H1 => wpE X b σ H1 fun y H2 => ∃ x' y', [x, y] = [x', y'] ∧ r x' y' H2 fun z H3 => ∃ k, z = .bl k ∧ (if k = true then wpE X c σ H3 fun w' H4 => r' y' w' H4 Q else Q (.bl false) H3) := main
  exact wp_mono main fun x H1 q => wp_mono q fun y H2 ⟨x', y', e, q⟩ => by cases e; exact q
theorem se_chain {op op' : CmpOp} {o o' : D → D → Option Ov} {r r' : R2} (hr : OpR X (compareOp op) r) (hr' : OpR X (compareOp op') r') (ho : Op2 K o r) (ho' : Op2 K o' r') (hl : SL X K T W [a, b] fl) (hc : SE X K T W c fc) (hm : lastMarks [op, op'] [b, c] = false) :
    SE X K T W (.Compare a [op, op'] [b, c] pos) (evChain o o' fl fc) := fun F H σ s Q R h => wpE_of (pe_chain hr hr' (pe_self X a) (pe_self X b) (pe_self X c) hm) (chain_core ho ho' hl hc R h)
theorem st_chain {op op' : CmpOp} {o o' : D → D → Option Ov} {r r' : R2} (hr : OpR X (compareOp op) r) (hr' : OpR X (compareOp op') r') (ho : Op2 K o r) (ho' : Op2 K o' r') (hl : SL X K T W [a, b] fl) (hc : SE X K T W c fc) (hm : lastMarks [op, op'] [b, c] = false) :
    ST X K T W (.Compare a [op, op'] [b, c] pos) (evChain o o' fl fc) := fun F H σ s Q R h => wpT_of (pt_chain hr hr' (pe_self X a) (pe_self X b) (pe_self X c) hm) (chain_core ho ho' hl hc R h.toE)
/-! ### if, and, or, not -/
theorem bind_tst {f : Sg G → Rs G Ov} {k : Bool → Sg G → Rs G Ov} {Q : VK} (h : PstE K T W F H s σ ((f s).bind fun x s1 => match tst s1 x with
    | some b => k b s1
    | none => .no) Q) (R : Rl K T F H s σ) : PstT K T W F H s σ (f s) (fun b H1 => ∃ F1 s1, Rl K T F1 H1 s1 σ ∧ PstE K T W F1 H1 s1 σ (k b s1) Q) := by
  cases q : f s with
  | no => rw [q] at h; exact h.elim
  | er x g => rw [q] at h; exact h
  | ok x s1 =>
    rw [q] at h
    have h : PstE K T W F H s σ (match tst s1 x with
      | some b => k b s1
      | none => .no) Q := h
    show (match tst s1 x with
      | some b => ∀ F' H', Stp T F H s σ F' H' s1 σ → Rl K T F' H' s1 σ → ∃ F1 s1, Rl K T F1 H' s1 σ ∧ PstE K T W F1 H' s1 σ (k b s1) Q
      | none => False)
    cases q2 : tst s1 x with
    | none => rw [q2] at h; exact h.elim
    | some b => rw [q2] at h; exact fun F' H' S' R' => ⟨F', s1, R', PstE.step S' R R' h⟩
theorem bind_tstT {f : Sg G → Rs G Ov} {k : Bool → Sg G → Rs G Ov} {Q : Bool → Hp → Prop} (h : PstT K T W F H s σ ((f s).bind fun x s1 => match tst s1 x with
    | some b => k b s1
    | none => .no) Q) (R : Rl K T F H s σ) : PstT K T W F H s σ (f s) (fun b H1 => ∃ F1 s1, Rl K T F1 H1 s1 σ ∧ PstT K T W F1 H1 s1 σ (k b s1) Q) := by
  cases q : f s with
  | no => rw [q] at h; exact h.elim
  | er x g => rw [q] at h; exact h
  | ok x s1 =>
    rw [q] at h
    have h : PstT K T W F H s σ (match tst s1 x with
      | some b => k b s1
      | none => .no) Q := h
    show (match tst s1 x with
      | some b => ∀ F' H', Stp T F H s σ F' H' s1 σ → Rl K T F' H' s1 σ → ∃ F1 s1, Rl K T F1 H' s1 σ ∧ PstT K T W F1 H' s1 σ (k b s1) Q
      | none => False)
    cases q2 : tst s1 x with
    | none => rw [q2] at h; exact h.elim
    | some b => rw [q2] at h; exact fun F' H' S' R' => ⟨F', s1, R', PstT.step S' R R' h⟩
theorem evIf_eq (c a b : Sg G → Rs G Ov) (s : Sg G) : evIf c a b s = (c s).bind fun x s1 => match tst s1 x with
    | some q => (if q = true then a s1 else b s1)
    | none => .no := by
  unfold evIf; congr 1; funext x s1; cases tst s1 x with
  | none => rfl
  | some q => cases q <;> rfl
theorem evAnd_eq (a b : Sg G → Rs G Ov) (s : Sg G) : evAnd a b s = (a s).bind fun x s1 => match tst s1 x with
    | some q => (if q = true then b s1 else .ok (.vl (.bl false)) s1)
    | none => .no := by
  unfold evAnd; congr 1; funext x s1; cases tst s1 x with
  | none => rfl
  | some q => cases q <;> rfl
theorem evOr_eq (a b : Sg G → Rs G Ov) (s : Sg G) : evOr a b s = (a s).bind fun x s1 => match tst s1 x with
    | some q => (if q = true then .ok (.vl (.bl true)) s1 else b s1)
    | none => .no := by
  unfold evOr; congr 1; funext x s1; cases tst s1 x with
  | none => rfl
  | some q => cases q <;> rfl
theorem se_if (hc : ST X K T W c fc) (ha : SE X K T W a fa) (hb : SE X K T W b fb) : SE X K T W (.IfExp c a b pos) (evIf fc fa fb) := by
  intro F H σ s Q R h
  refine wpE_of (pe_ifExp (pt_self X c) (pe_self X a) (pe_self X b)) ?_
  rw [evIf_eq] at h
  refine hc F H σ s _ R ?_
  have q := bind_tst (k := fun q s1 => if q = true then fa s1 else fb s1) h R
  refine (show ∀ {r : Rs G Ov} {Q Q' : Bool → Hp → Prop}, PstT K T W F H s σ r Q → (∀ b H, Q b H → Q' b H) → PstT K T W F H s σ r Q' from ?_) q fun b H1 ⟨F1, s1, R1, q⟩ => ?_
  · intro r Q Q' h i
    cases r with
    | no => exact h
    | er x g => exact h
    | ok x s' =>
      show (match tst s' x with
        | some b => ∀ F' H', Stp T F H s σ F' H' s' σ → Rl K T F' H' s' σ → Q' b H'
        | none => False)
      have h : (match tst s' x with
        | some b => ∀ F' H', Stp T F H s σ F' H' s' σ → Rl K T F' H' s' σ → Q b H'
        | none => False) := h
      cases q : tst s' x with
      | none => rw [q] at h; exact h
      | some b => rw [q] at h; exact fun F' H' S' R' => i b H' (h F' H' S' R')
  · cases b with
    | true => rw [if_pos rfl] at q ⊢; exact ha F1 H1 σ s1 Q R1 q
    | false => rw [if_neg Bool.false_ne_true] at q ⊢; exact hb F1 H1 σ s1 Q R1 q
theorem PstT.mono {r : Rs G Ov} {Q Q' : Bool → Hp → Prop} (h : PstT K T W F H s σ r Q) (i : ∀ b H, Q b H → Q' b H) : PstT K T W F H s σ r Q' := by
  cases r with
  | no => exact h
  | er x g => exact h
  | ok x s' =>
    show (match tst s' x with
      | some b => ∀ F' H', Stp T F H s σ F' H' s' σ → Rl K T F' H' s' σ → Q' b H'
      | none => False)
    have h : (match tst s' x with
      | some b => ∀ F' H', Stp T F H s σ F' H' s' σ → Rl K T F' H' s' σ → Q b H'
      | none => False) := h
    cases q : tst s' x with
    | none => rw [q] at h; exact h
    | some b => rw [q] at h; exact fun F' H' S' R' => i b H' (h F' H' S' R')
/-- the value of a BoolOp: the last one, or one ahead -/
theorem se_and1 {op : BoolOp} (ha : SE X K T W a fa) : SE X K T W (.BoolOp op [a] pos) fa := fun F H σ s Q R h => wpE_of (pe_one (pe_self X a)) (ha F H σ s Q R h)
theorem se_and {rest : List Expr} (ha : SE X K T W a fa) (hb : SE X K T W (.BoolOp .And (b :: rest) pos) fb) : SE X K T W (.BoolOp .And (a :: b :: rest) pos) (evAnd fa fb) := by
  intro F H σ s Q R h
  refine wpE_of (pe_and (pe_self X a) (pe_self X _)) ?_
  rw [evAnd_eq] at h
  have q := bind_tst (k := fun q s1 => if q = true then fb s1 else .ok (.vl (.bl false)) s1) h R
  refine ha F H σ s _ R ((PstT.mono (Q' := fun c H1 => if c = true then wpE X (.BoolOp .And (b :: rest) pos) σ H1 Q else Q (.bl false) H1) q fun c H1 ⟨F1, s1, R1, q⟩ => ?_).toE)
  cases c with
  | true => rw [if_pos rfl] at q ⊢; exact hb F1 H1 σ s1 Q R1 q
  | false => rw [if_neg Bool.false_ne_true] at q ⊢; exact q (.bl false) F1 H1 (Stp.refl ..) R1 (.bl false)
theorem se_or {rest : List Expr} (ha : SE X K T W a fa) (hb : SE X K T W (.BoolOp .Or (b :: rest) pos) fb) : SE X K T W (.BoolOp .Or (a :: b :: rest) pos) (evOr fa fb) := by
  intro F H σ s Q R h
  refine wpE_of (pe_or (pe_self X a) (pe_self X _)) ?_
  rw [evOr_eq] at h
  have q := bind_tst (k := fun q s1 => if q = true then .ok (.vl (.bl true)) s1 else fb s1) h R
  refine ha F H σ s _ R ((PstT.mono (Q' := fun c H1 => if c = true then Q (.bl true) H1 else wpE X (.BoolOp .Or (b :: rest) pos) σ H1 Q) q fun c H1 ⟨F1, s1, R1, q⟩ => ?_).toE)
  cases c with
  | true => rw [if_pos rfl] at q ⊢; exact q (.bl true) F1 H1 (Stp.refl ..) R1 (.bl true)
  | false => rw [if_neg Bool.false_ne_true] at q ⊢; exact hb F1 H1 σ s1 Q R1 q
/-- a BoolOp as a test, whatever its whole -/
def wpW (X : Cx) (e : Expr) : TT := fun σ H Q => ∀ (whole : Sem Value) (pins : List (Addr × Obj)) (s : Shared), Inv X pins σ H s → wpAny (model X.prog X.w) X.A (isTrue e X.env whole) (TP X pins σ Q) X.xe s
theorem pw_self (X : Cx) (e : Expr) : PW X e (wpW X e) := ⟨fun wh pins s σ H Q I h => h wh pins s I⟩
def SW (X : Cx) (K : Env1) (T : Gt G) (W : WX1) (e : Expr) (f : Sg G → Rs G Ov) : Prop := ∀ F H σ s Q, Rl K T F H s σ → PstT K T W F H s σ (f s) Q → wpW X e σ H Q
theorem SW.st (h : SW X K T W e fa) : ST X K T W e fa := fun F H σ s Q R q pins s0 I => h F H σ s Q R q _ pins s0 I
theorem sw_and1 (ha : ST X K T W a fa) : SW X K T W (.BoolOp .And [a] pos) fa := fun F H σ s Q R h wh pins s0 I => (pw_and1 (pt_self X a)).run wh pins s0 σ H Q I (ha F H σ s Q R h)
theorem sw_or1 (ha : ST X K T W a fa) : SW X K T W (.BoolOp .Or [a] pos) fa := fun F H σ s Q R h wh pins s0 I => (pw_or1 (pt_self X a)).run wh pins s0 σ H Q I (ha F H σ s Q R h)
theorem sw_and {rest : List Expr} (ha : ST X K T W a fa) (hb : SW X K T W (.BoolOp .And (b :: rest) pos) fb) : SW X K T W (.BoolOp .And (a :: b :: rest) pos) (evAnd fa fb) := by
  intro F H σ s Q R h wh pins s0 I
  refine (pw_and (pt_self X a) (pw_self X _)).run wh pins s0 σ H Q I ?_
  rw [evAnd_eq] at h
  have q := bind_tstT (k := fun q s1 => if q = true then fb s1 else .ok (.vl (.bl false)) s1) h R
  refine ha F H σ s _ R (q.mono fun c H1 ⟨F1, s1, R1, q⟩ => ?_)
  cases c with
  | true => rw [if_pos rfl] at q ⊢; exact hb F1 H1 σ s1 Q R1 q
  | false => rw [if_neg Bool.false_ne_true] at q ⊢; exact q F1 H1 (Stp.refl ..) R1
theorem sw_or {rest : List Expr} (ha : ST X K T W a fa) (hb : SW X K T W (.BoolOp .Or (b :: rest) pos) fb) : SW X K T W (.BoolOp .Or (a :: b :: rest) pos) (evOr fa fb) := by
  intro F H σ s Q R h wh pins s0 I
  refine (pw_or (pt_self X a) (pw_self X _)).run wh pins s0 σ H Q I ?_
  rw [evOr_eq] at h
  have q := bind_tstT (k := fun q s1 => if q = true then .ok (.vl (.bl true)) s1 else fb s1) h R
  refine ha F H σ s _ R (q.mono fun c H1 ⟨F1, s1, R1, q⟩ => ?_)
  cases c with
  | true => rw [if_pos rfl] at q ⊢; exact q F1 H1 (Stp.refl ..) R1
  | false => rw [if_neg Bool.false_ne_true] at q ⊢; exact hb F1 H1 σ s1 Q R1 q
def evNot (a : Sg G → Rs G Ov) (s : Sg G) : Rs G Ov := (a s).bind fun x s1 => match tst s1 x with
  | some b => .ok (.vl (.bl (!b))) s1
  | none => .no
theorem se_not (ha : SE X K T W a fa) : SE X K T W (.UnaryOp .Not a pos) (evNot fa) := by
  intro F H σ s Q R h
  refine wpE_of (pe_not (pe_self X a)) ?_
  have q := bind_tst (k := fun q s1 => .ok (.vl (.bl (!q))) s1) h R
  exact ha F H σ s _ R ((PstT.mono (Q' := fun c H1 => Q (.bl (!c)) H1) q fun c H1 ⟨F1, s1, R1, q⟩ => q (.bl (!c)) F1 H1 (Stp.refl ..) R1 (.bl _)).toE)
theorem st_not (ha : ST X K T W a fa) : ST X K T W (.UnaryOp .Not a pos) (evNot fa) := by
  intro F H σ s Q R h
  refine wpT_of (pt_not (pt_self X a)) ?_
  have q := bind_tstT (k := fun q s1 => .ok (.vl (.bl (!q))) s1) h R
  exact ha F H σ s _ R (q.mono fun c H1 ⟨F1, s1, R1, q⟩ => q F1 H1 (Stp.refl ..) R1)
end
end BF
set_option Elab.async false
set_option linter.all false
set_option autoImplicit false
set_option maxRecDepth 100000
set_option maxHeartbeats 2000000
namespace BF
open PySem PySem.Spec PyProof.Rows L2
section
variable {G : Type}
/-- behind a call -/
structure Fst (T : Gt G) (F H F' H' : Hp) (g' : G) : Prop where
  le : Le F F'
  sub : Le F' H'
  keep : ∀ a o, H a = some o → ¬ T.fp a → H' a = some o
  new : ∀ a, F' a ≠ none → F a ≠ none ∨ H a = none
  gs : T.gr g' H'
  gf : ∀ a, T.fp a → F' a = none
/-- the promise of a def that does upon data what m says -/
def spD (K : Env1) (T : Gt G) (n : Nat) (m : Mir G) : Sp := fun vs H Q E => ∃ (F : Hp) (ds : List D) (g : G), vs.length = n ∧ Le F H ∧ Reps K F vs ds ∧ T.gr g H ∧ (∀ a, T.fp a → F a = none) ∧ (match m ds g with
  | .ok d g' => ∀ v F' H', Fst T F H F' H' g' → Rep K F' v d → Q v H'
  | .er x g' => ∀ cls dd F' H', Fst T F H F' H' g' → ErR K x cls dd F' H' → E cls dd H'
  | .no => False)
/-- where one stands -/
structure Ctx (X : Cx) (K : Env1) (W : WX1) (k : Nat) : Prop where
  kk : K.K = X.K
  kw : K.w = X.w
  calm : X.calm = true
  nd : X.N.Nodup
  room : Room k X.A
  pass : Passes (L2.CX X.prog X.w) X (fun cls dd H => ∀ σ, W cls dd σ H)
  own : PassesOwn (model X.prog X.w) X.A X.env X.xe
  take : Takes X W
end
section
variable {G : Type} {X : Cx} {K : Env1} {T : Gt G} {W : WX1} {a b c e : Expr} {es : List Expr} {fa fb fc : Sg G → Rs G Ov} {fl : Sg G → Rs G (List Ov)} {pos : Pos} {F H F1 H1 : Hp} {s s1 : Sg G} {σ : Sl}
theorem Rl.after {F' H' : Hp} {g' : G} (R : Rl K T F H s σ) (q : Fst T F H F' H' g') : Rl K T F' H' { s with g := g' } σ ∧ Stp T F H s σ F' H' { s with g := g' } σ := by
  refine ⟨⟨q.sub, R.len, fun i d e => ?_, fun i d e => ?_, R.inj, q.gs, q.gf⟩, ⟨q.le, fun a o e _ nf => q.keep a o e nf, fun a n => ?_, fun a h => .inl h, fun i y h => ⟨y, h⟩, fun a n => ?_⟩⟩
  · obtain ⟨v, h1, h2⟩ := R.val i d e
    exact ⟨v, h1, h2.mono q.le⟩
  · obtain ⟨p, h1, h2, h3, h4⟩ := R.own i d e
    have n4 := h4.some
    refine ⟨p, h1, ?_, h3, h4.mono q.le ?_⟩
    · apply Classical.byContradiction
      intro z
      rcases q.new p z with z | z
      · exact z h2
      · exact n4 z
    · cases e2 : H p with
      | none => exact (n4 e2).elim
      | some o => exact q.keep p o e2 h3
  · rcases q.new a n with z | z
    · exact .inl z
    · exact .inr (.inl z)
  · by_cases f : T.fp a
    · exact T.live _ _ _ q.gs f
    · cases e : H a with
      | none => exact (n e).elim
      | some o => rw [q.keep a o e f]; exact fun z => nomatch z
theorem Fst.xst {F' H' : Hp} {g' : G} (q : Fst T F H F' H' g') : Xst T F H s σ F' H' g' := ⟨q.le, q.sub, fun a o e _ nf => q.keep a o e nf, fun a n => (q.new a n).elim .inl fun z => .inr (.inl z), q.gs, q.gf⟩
/-- what a promise asks, from used operands -/
theorem sp_of {n : Nat} {m : Mir G} {vs : List V} {ds : List D} {Q : VK} (hn : vs.length = n) (R : Rl K T F H s σ) (r : Reps K F vs ds) (h : PstE K T W F H s σ (match m ds s.g with
    | .ok d g' => .ok (.vl d) { s with g := g' }
    | .er x g' => .er x g'
    | .no => .no) Q) : spD K T n m vs H Q (fun cls dd H => ∀ σ, W cls dd σ H) := by
  refine ⟨F, ds, s.g, hn, R.sub, r, R.gs, R.gf, ?_⟩
  cases q : m ds s.g with
  | no => rw [q] at h; exact h.elim
  | ok d g' =>
    rw [q] at h
    intro v F' H' fs rv
    obtain ⟨R', S'⟩ := R.after fs
    exact h v F' H' S' R' rv
  | er x g' =>
    rw [q] at h
    intro cls dd F' H' fs er σ'
    exact h cls dd F' H' σ' fs.xst er
theorem se_call {x : Str} {p : Pos} {k k0 n : Nat} {f : Addr} {fd : FuncData} {ps : List Str} {m : Mir G} (C : Ctx X K W k0) (Fn : FnOk X.prog X.w X.K X.mg X.base (L2.CX X.prog X.w) k f fd ps (spD K T n m)) (hk0 : k ≤ k0) (hg : Gl X x) (hm : X.mg x = some (.ref f)) (hk : PySem.W.keepIn X.K (.ref f) = true) (hb : Binds X.K fd ps [])
    (hdb : (x == ("__debug__" : Str)) = false) (hst : (e :: es).all noStar = true) (hn : (e :: es).length = n) (hl : SL X K T W (e :: es) fl) : SE X K T W (.Call (.Name x p) (e :: es) [] pos) (evCall m fl) := by
  intro F H σ s Q R h
  have h' := Bool.and_eq_true_iff.mp (show (noStar e && es.all noStar) = true from hst)
  refine wpE_of (pe_call Fn (C.room.mono hk0) hg hm hk hb .nil C.pass (pa_self X hst) hdb (starEach_of h'.1) (back_of X pos h'.2)) ?_
  refine wpL_mono (Q := fun _ _ => True) (Q' := fun _ _ => True) (wpL_len (sl_used (P := fun vs H1 Q => vs.length = n → spD K T n m vs H1 Q (fun cls dd H => ∀ σ, W cls dd σ H)) hl R (fun F1 H1 s1 vs ds R1 S1 r hq hl => sp_of hl R1 r hq) h)) fun vs H1 q => ?_
  rw [List.append_nil]
  exact q.2 (q.1.trans hn)
theorem se_call0 {x : Str} {p : Pos} {k k0 : Nat} {f : Addr} {fd : FuncData} {ps : List Str} {m : Mir G} (C : Ctx X K W k0) (Fn : FnOk X.prog X.w X.K X.mg X.base (L2.CX X.prog X.w) k f fd ps (spD K T 0 m)) (hk0 : k ≤ k0) (hg : Gl X x) (hm : X.mg x = some (.ref f)) (hk : PySem.W.keepIn X.K (.ref f) = true) (hb : Binds X.K fd ps [])
    (hdb : (x == ("__debug__" : Str)) = false) : SE X K T W (.Call (.Name x p) [] [] pos) (evCall m evNil) := by
  intro F H σ s Q R h
  refine wpE_of (pe_call0 Fn (C.room.mono hk0) hg hm hk hb .nil C.pass hdb) ?_
  exact sp_of rfl R .nil h
/-! ### isinstance -/
/-- the built-in type of data -/
def tyD : D → Option String
  | .non => some "NoneType"
  | .bl _ => some "bool"
  | .int _ => some "int"
  | .str _ => some "str"
  | .lst _ => some "list"
  | .tup _ => some "tuple"
  | _ => none
theorem RH.ty {v : V} {d : D} {t : String} (l : Le F H) (h : RH K F H v d) (e : tyD d = some t) : TyX K.K H v (.type t) := by
  cases d <;> first | (cases e; done) | skip
  · cases h.non; cases e; exact .base .non
  · cases h.bl; cases e; exact .base (.bl _)
  · cases h.int; cases e; exact .base (.int _)
  · cases h.str; cases e; exact .base (.str _)
  · obtain ⟨a, vs, rfl, h1, _⟩ := h.lst l; cases e; exact .base (.lst h1)
  · obtain ⟨a, vs, rfl, h1, _⟩ := h.tup l
    cases e
    rcases h1 with h1 | ⟨o, its, n, h1, h2, _⟩
    · exact .base (.tup h1)
    · exact .kTuple h1 h2
/-- a class that is asked for: built-in, or one's own -/
inductive Cl where
  | bty (n : String) | own (c : Str)
/-- what is known of one's own classes -/
structure ClsOk (K : Env1) (c : Str) : Prop where
  cl : Cls K.K (K.co c)
  c1 : PySem.W.findIn K.K (.ref (K.co c)) "__class__" = some (some (.builtin "object.__class__"))
  c2 : PySem.W.specialIn K.K (.builtin "object.__class__") "__get__" = some (some (.builtin "getset_descriptor.__get__"))
  c3 : PySem.W.takesIn K.K (.builtin "object.__class__") = some true
  c4 : PySem.W.mroIn K.K (K.co c) (.type "object") = some true
  own : PySem.W.kitOne K.K (.ref (K.co c)) (.ref (K.co c)) = some true
  bty : ∀ t ∈ ["NoneType", "bool", "int", "str", "list", "tuple"], PySem.W.kitOne K.K (.type t) (.ref (K.co c)) = some false
  ofb : ∀ t ∈ ["bool", "int", "str", "list", "tuple"], PySem.W.kitOne K.K (.ref (K.co c)) (.type t) = some false
def isi1 (K : Env1) (d : D) : Cl → Option Bool
  | .bty n => (match d with
    | .obj c _ => if K.cs.contains c && ["bool", "int", "str", "list", "tuple"].contains n then some false else none
    | d => (tyD d).bind fun t => kitB t n)
  | .own c => (match d with
    | .obj c' _ => if K.cs.contains c && decide (c' = c) then some true else none
    | d => if K.cs.contains c then (tyD d).bind fun t => if ["NoneType", "bool", "int", "str", "list", "tuple"].contains t then some false else none else none)
def ClV (K : Env1) : Cl → V → Value → Prop
  | .bty n, v, u => v = .ty n ∧ u = .type n
  | .own c, v, u => v = .ref (K.co c) ∧ u = .ref (K.co c)
theorem ty_of {v : V} {d : D} {q0 : Cl} {r0 : Bool} (hc : ∀ c ∈ K.cs, ClsOk K c) (l : Le F H) (h : RH K F H v d) (e0 : isi1 K d q0 = some r0) :
    ∃ t, TyX K.K H v t ∧ ∀ q r w u, isi1 K d q = some r → ClV K q w u → ClsV w u ∧ PySem.W.kitOne K.K t u = some r := by
  have plain : (∀ c f, d ≠ .obj c f) → ∃ t, TyX K.K H v t ∧ ∀ q r w u, isi1 K d q = some r → ClV K q w u → ClsV w u ∧ PySem.W.kitOne K.K t u = some r := by
    intro no
    have : ∃ t, tyD d = some t := by
      cases d with
      | obj c f => exact (no c f rfl).elim
      | dct _ => cases q0 <;> simp [isi1, tyD] at e0
      | ref _ => cases q0 <;> simp [isi1, tyD] at e0
      | ty _ => cases q0 <;> simp [isi1, tyD] at e0
      | _ => exact ⟨_, rfl⟩
    obtain ⟨t, et⟩ := this
    refine ⟨.type t, h.ty l et, fun q r w u e k => ?_⟩
    cases q with
    | bty n =>
      obtain ⟨rfl, rfl⟩ := k
      refine ⟨.ty n, ?_⟩
      have e : (tyD d).bind (fun t => kitB t n) = some r := by
        cases d with
        | obj c f => exact (no c f rfl).elim
        | _ => exact e
      rw [et] at e
      exact kit_ty e
    | own c =>
      obtain ⟨rfl, rfl⟩ := k
      refine ⟨.own _, ?_⟩
      have e : (if K.cs.contains c then (tyD d).bind (fun t => if ["NoneType", "bool", "int", "str", "list", "tuple"].contains t then some false else none) else none) = some r := by
        cases d with
        | obj c f => exact (no c f rfl).elim
        | _ => exact e
      split at e
      · rename_i hn
        rw [et] at e
        simp only [Option.bind_some] at e
        split at e
        · rename_i hm
          cases e
          exact (hc c (by simpa using hn)).bty t (by simpa using hm)
        · cases e
      · cases e
  cases d with
  | obj c f =>
    have hcc : c ∈ K.cs := by
      cases q0 with
      | bty n =>
        simp only [isi1] at e0
        split at e0
        · rename_i hn; rw [Bool.and_eq_true] at hn; simpa using hn.1
        · cases e0
      | own c' =>
        simp only [isi1] at e0
        split at e0
        · rename_i hn
          rw [Bool.and_eq_true] at hn
          have e1 : c = c' := of_decide_eq_true hn.2
          rw [e1]; simpa using hn.1
        · cases e0
    have o := hc c hcc
    have ty : TyX K.K H v (.ref (K.co c)) := by
      rcases h with h | ⟨p, _, h⟩
      · cases h with
        | obj h1 h2 h3 => exact .base (.ins (l _ _ h1) o.cl o.c1 o.c2 o.c3 o.c4)
      · exact h.elim
    refine ⟨_, ty, fun q r w u e k => ?_⟩
    cases q with
    | bty n =>
      obtain ⟨rfl, rfl⟩ := k
      refine ⟨.ty n, ?_⟩
      simp only [isi1] at e
      split at e
      · rename_i hn
        rw [Bool.and_eq_true] at hn
        cases e
        exact o.ofb n (by simpa using hn.2)
      · cases e
    | own c' =>
      obtain ⟨rfl, rfl⟩ := k
      refine ⟨.own _, ?_⟩
      simp only [isi1] at e
      split at e
      · rename_i hn
        rw [Bool.and_eq_true] at hn
        cases e
        have e1 : c = c' := of_decide_eq_true hn.2
        subst e1
        exact o.own
      · cases e
  | _ => exact plain (fun c f z => nomatch z)
/-- isinstance(x, c) -/
def isiO (K : Env1) (q : Cl) : List D → Option Ov := two fun d e => match q, e with
  | .bty n, .ty m => if m = n then (isi1 K d q).map fun b => .vl (.bl b) else none
  | .own c, .ref a => if a = K.co c then (isi1 K d q).map fun b => .vl (.bl b) else none
  | _, _ => none
theorem opn_isi {q : Cl} (hc : ∀ c ∈ K.cs, ClsOk K c) : Opn K (isiO K q) (rIsi K.K) := opn_two fun F H v w d e res Q l hd he ho hc' => by
  cases q with
  | bty n =>
    cases e <;> first | (cases ho; done) | skip
    rename_i m
    simp only at ho
    split at ho
    · rename_i em
      subst em
      cases q2 : isi1 K d (.bty m) with
      | none => rw [q2] at ho; cases ho
      | some b =>
        rw [q2] at ho
        cases ho
        have ew : w = .ty m := by
          rcases he with h | ⟨p, _, h⟩
          · cases h; rfl
          · exact h.elim
        obtain ⟨t, k1, k2⟩ := ty_of hc l hd q2
        obtain ⟨k3, k4⟩ := k2 _ _ w (.type m) q2 ⟨ew, rfl⟩
        exact ⟨v, w, t, _, b, rfl, k3, k1, k4, hc'.1 _ (.bl b)⟩
    · cases ho
  | own c =>
    cases e <;> first | (cases ho; done) | skip
    rename_i a
    simp only at ho
    split at ho
    · rename_i em
      subst em
      cases q2 : isi1 K d (.own c) with
      | none => rw [q2] at ho; cases ho
      | some b =>
        rw [q2] at ho
        cases ho
        have ew : w = .ref (K.co c) := by
          rcases he with h | ⟨p, _, h⟩
          · cases h; rfl
          · exact h.elim
        obtain ⟨t, k1, k2⟩ := ty_of hc l hd q2
        obtain ⟨k3, k4⟩ := k2 _ _ w (.ref (K.co c)) q2 ⟨ew, rfl⟩
        exact ⟨v, w, t, _, b, rfl, k3, k1, k4, hc'.1 _ (.bl b)⟩
    · cases ho
/-- isinstance(x, (c1, c2)), built-in types -/
def isiT2 (K : Env1) (n1 n2 : String) (d : D) : Option Bool := (isi1 K d (.bty n1)).bind fun b => if b then some true else isi1 K d (.bty n2)
def isiTO (K : Env1) (n1 n2 : String) : List D → Option Ov := two fun d e => match e with
  | .tup [.ty a, .ty b] => if a = n1 ∧ b = n2 then (isiT2 K n1 n2 d).map fun b => .vl (.bl b) else none
  | _ => none
theorem opn_isiT {n1 n2 : String} (hc : ∀ c ∈ K.cs, ClsOk K c) : Opn K (isiTO K n1 n2) (fun xs H Q => rIsiT K.K xs H Q ∨ rIsiK K.K xs H Q) := opn_two fun F H v w d e res Q l hd he ho hc' => by
  split at ho
  · rename_i a b
    split at ho
    · rename_i em
      obtain ⟨rfl, rfl⟩ := em
      cases q2 : isiT2 K a b d with
      | none => rw [q2] at ho; cases ho
      | some r =>
        rw [q2] at ho
        cases ho
        unfold isiT2 at q2
        cases q3 : isi1 K d (.bty a) with
        | none => rw [q3] at q2; cases q2
        | some r1 =>
          rw [q3] at q2
          obtain ⟨t, k1, k2⟩ := ty_of hc l hd q3
          obtain ⟨_, k4⟩ := k2 _ _ (.ty a) (.type a) q3 ⟨rfl, rfl⟩
          have any : PySem.W.kitAny K.K t [.type a, .type b] = some r := by
            refine kitAny_cons k4 (fun e => ?_) (fun e => ?_)
            · subst e
              have q2 : isi1 K d (.bty b) = some r := q2
              obtain ⟨_, k5⟩ := k2 _ _ (.ty b) (.type b) q2 ⟨rfl, rfl⟩
              exact kitAny_cons k5 (fun e => by subst e; exact kitAny_nil) (fun e => e)
            · subst e
              have q2 : some true = some r := q2
              cases q2; rfl
          obtain ⟨p, vs, rfl, h1, r1⟩ := he.tup l
          have ev : vs = [.ty a, .ty b] := by
            cases r1 with
            | cons x1 x2 => cases x2 with
              | cons x2 x3 => cases x3; cases x1; cases x2; rfl
          subst ev
          rcases h1 with h1 | ⟨o, its, n, h1, h2, h3, h4, h5⟩
          · exact .inl ⟨v, p, _, t, _, r, rfl, h1, .cons (.ty a) (.cons (.ty b) .nil), k1, any, hc'.1 _ (.bl r)⟩
          · obtain ⟨oc, od, dt, sl⟩ := o
            simp only at h2 h3
            subst h2 h3
            have e5 : its.toList = [.type a, .type b] := ClsV.all (.cons (.ty a) (.cons (.ty b) .nil)) h5
            have e6 : its = ([.type a, .type b] : List Value).toArray := by
              rw [← e5]
            subst e6
            exact .inr ⟨v, p, od, _, n, sl, t, r, rfl, h1, k1, any, hc'.1 _ (.bl r)⟩
    · cases ho
  · cases ho
end
end BF
set_option Elab.async false
set_option linter.all false
set_option autoImplicit false
set_option maxRecDepth 100000
set_option maxHeartbeats 2000000
namespace BF
open PySem PySem.Spec PyProof.Rows L2
section
variable {G : Type} {X : Cx} {K : Env1} {T : Gt G} {W : WX1} {a b c e : Expr} {es : List Expr} {fa fb fc : Sg G → Rs G Ov} {fl : Sg G → Rs G (List Ov)} {pos : Pos} {F H F1 H1 : Hp} {s s1 : Sg G} {σ : Sl}
/-! ### a field -/
def attrO (c f : Str) : D → Option Ov
  | .obj c' fs => if c' = c then (fs.lookup f).map .vl else none
  | _ => none
theorem Reps.look {f : Str} {x : D} : ∀ {fvs : List (Str × V)} {fs : List (Str × D)}, fvs.map (·.1) = fs.map (·.1) → Reps K F (fvs.map (·.2)) (fs.map (·.2)) → fs.lookup f = some x → ∃ v, fvs.lookup f = some v ∧ Rep K F v x
  | [], [], _, _, h => by cases h
  | [], _ :: _, e, _, _ => by cases e
  | _ :: _, [], e, _, _ => by cases e
  | (k, v) :: fvs, (k', d) :: fs, e, r, h => by
    simp only [List.map_cons, List.cons.injEq] at e
    obtain ⟨rfl, e⟩ := e
    cases r with
    | cons r1 r2 =>
      rw [List.lookup_cons] at h ⊢
      by_cases q : f = k
      · subst q
        simp only [beq_self_eq_true] at h ⊢
        cases h
        exact ⟨v, rfl, r1⟩
      · have q' : (f == k) = false := by simpa using q
        rw [q'] at h ⊢
        exact Reps.look e r2 h
theorem se_attr {c f : Str} (hk : K.K = X.K) (hc : Cls K.K (K.co c)) (hn : NoAttr K.K (K.co c) f) (hb : attributeBase e f X.env (eval e X.env) = eval e X.env) (hl : SL X K T W [e] fl) : SE X K T W (.Attribute e f pos) (evOp fl (one (attrO c f))) := by
  rw [hk] at hc hn
  refine se_op (rr := fun vs H1 Q => ∃ x, vs = [x] ∧ ∃ a C dx fs v, x = .ref a ∧ H1 a = some (.ins C dx fs) ∧ Cls X.K C ∧ NoAttr X.K C f ∧ fs.lookup f = some v ∧ Q v H1) hl (opn_one fun F H v d res Q l hd ho hc' => ?_) fun σ H Q h => wpE_of (pe_fld (pe_self X e) hb) ?_
  · unfold attrO at ho
    split at ho
    · split at ho
      · rename_i fs em
        subst em
        cases q : fs.lookup f with
        | none => rw [q] at ho; cases ho
        | some x =>
          rw [q] at ho
          cases ho
          rcases hd with hd | ⟨p, _, hd⟩
          · cases hd with
            | obj h1 h2 h3 =>
              obtain ⟨v, e1, e2⟩ := Reps.look h2 h3 q
              exact ⟨_, rfl, _, _, _, _, _, rfl, l _ _ h1, hc, hn, e1, hc'.1 _ e2⟩
          · exact hd.elim
      · cases ho
    · cases ho
  · exact wp_mono (show wpE X e σ H fun x H1 => ∃ x', [x] = [x'] ∧ _ from h) fun x H1 ⟨x', e, q⟩ => by cases e; exact q
/-! ### slices -/
def cutD (xs : List D) (lo hi : Option Int) : List D := (xs.drop (HT.sIx xs.length 0 lo)).take (HT.sIx xs.length xs.length hi - HT.sIx xs.length 0 lo)
theorem Reps.cut {vs : List V} {ds : List D} (lo hi : Option Int) (r : Reps K F vs ds) : Reps K F (cutV vs lo hi) (cutD ds lo hi) := by
  unfold cutV cutD
  rw [r.length]
  exact (r.drop _).take _
def slcO (lo hi : Option Int) : D → Option Ov
  | .lst ds => some (.fr (.lst (cutD ds lo hi)))
  | .tup ds => some (.vl (.tup (cutD ds lo hi)))
  | _ => none
def slLo : D → D → Option Ov
  | d, .int i => slcO (some i) none d
  | _, _ => none
def slHi : D → D → Option Ov
  | d, .int i => slcO none (some i) d
  | _, _ => none
def slBo : List D → Option Ov
  | [d, .int i, .int j] => slcO (some i) (some j) d
  | _ => none
abbrev rSl2 (K : PySem.W.Frag) : V → Option Int → Option Int → Hp → VK → Prop := fun x lo hi H Q => rSlL K x lo hi H Q ∨ rSlA K x lo hi H Q
theorem slc_core {v : V} {d : D} {lo hi : Option Int} {res : Ov} {Q : VK} (l : Le F H) (hd : RH K F H v d) (ho : slcO lo hi d = some res) (hc : Cont K F H Q res) : rSl2 K.K v lo hi H Q := by
  cases d <;> first | (cases ho; done) | skip
  · cases ho
    obtain ⟨a, vs, rfl, h1, r1⟩ := hd.lst l
    exact .inl ⟨a, vs, rfl, .inl (.inl h1), fun p n => hc _ rfl p _ n (r1.cut lo hi)⟩
  · cases ho
    have hd0 := hd
    obtain ⟨a, vs, rfl, h1, r1⟩ := hd.tup l
    rename_i ds
    refine .inr ⟨a, vs, rfl, h1.sq, fun z => ?_, fun _ p n => hc.2 _ rfl p _ n (r1.cut lo hi)⟩
    have e : cutD ds lo hi = ds := by
      unfold cutD
      rw [← r1.length, z.1, z.2, List.drop_zero, Nat.sub_zero]
      exact List.take_of_length_le (by rw [r1.length]; exact Nat.le_refl _)
    rw [e] at hc
    rcases hd0 with q | ⟨_, _, q⟩
    · exact hc.1 _ q
    · exact q.elim
theorem se_slLo {lo : Expr} {p2 : Pos} (hk : K.K = X.K) (hl : SL X K T W [a, lo] fl) : SE X K T W (.Subscript a (.Slice (some lo) none none p2) pos) (evOp fl (two slLo)) := by
  refine se_op (rr := fun vs H1 Q => ∃ x y i, vs = [x, y] ∧ y = .int i ∧ rSl2 X.K x (some i) none H1 Q) hl (opn_two fun F H v w d e res Q l hd he ho hc' => ?_) fun σ H Q h => wpE_of (pe_slice (sl_list.or sl_tupA) (pe_self X a) (po_some (pe_self X lo)) po_none) ?_
  · cases e <;> first | (cases ho; done) | skip
    cases he.int
    exact ⟨v, _, _, rfl, rfl, by rw [← hk]; exact slc_core l hd ho hc'⟩
  · exact wp_mono (show wpE X a σ H fun x H1 => wpE X lo σ H1 fun y H2 => ∃ x' y' i, [x, y] = [x', y'] ∧ y' = .int i ∧ rSl2 X.K x' (some i) none H2 Q from h) fun x H1 q => wp_mono q fun y H2 ⟨x', y', i, e, e2, q⟩ => by
      cases e; exact ⟨i, e2, q⟩
theorem se_slHi {hi : Expr} {p2 : Pos} (hk : K.K = X.K) (hl : SL X K T W [a, hi] fl) : SE X K T W (.Subscript a (.Slice none (some hi) none p2) pos) (evOp fl (two slHi)) := by
  refine se_op (rr := fun vs H1 Q => ∃ x y i, vs = [x, y] ∧ y = .int i ∧ rSl2 X.K x none (some i) H1 Q) hl (opn_two fun F H v w d e res Q l hd he ho hc' => ?_) fun σ H Q h => wpE_of (pe_slice (sl_list.or sl_tupA) (pe_self X a) po_none (po_some (pe_self X hi))) ?_
  · cases e <;> first | (cases ho; done) | skip
    cases he.int
    exact ⟨v, _, _, rfl, rfl, by rw [← hk]; exact slc_core l hd ho hc'⟩
  · exact wp_mono (show wpE X a σ H fun x H1 => wpE X hi σ H1 fun y H2 => ∃ x' y' i, [x, y] = [x', y'] ∧ y' = .int i ∧ rSl2 X.K x' none (some i) H2 Q from h) fun x H1 q => wp_mono q fun y H2 ⟨x', y', i, e, e2, q⟩ => by
      cases e; exact ⟨i, e2, q⟩
theorem RHs.three {vs : List V} {d e f : D} (h : RHs K F H vs [d, e, f]) : ∃ v w z, vs = [v, w, z] ∧ RH K F H v d ∧ RH K F H w e ∧ RH K F H z f := by
  cases h with
  | cons h1 h2 =>
    obtain ⟨w, z, rfl, h3, h4⟩ := h2.two
    exact ⟨_, w, z, rfl, h1, h3, h4⟩
def evSlBo (f : Sg G → Rs G (List Ov)) (fh : Sg G → Rs G Ov) (s : Sg G) : Rs G Ov := (f s).bind fun xs s1 => match xs, pks s1 xs with
  | [x, _], some [_, .int i] => (fh s1).bind fun z s2 => (match pk s2 x, pk s2 z with
    | some d, some (.int j) => (match slcO (some i) (some j) d with
      | some (.vl r) => .ok (.vl r) s2
      | some (.fr r) => .ok (.fr r) s2
      | _ => .no)
    | _, _ => .no)
  | _, _ => .no
theorem se_slBo {lo hi : Expr} {p2 : Pos} (hk : K.K = X.K) (hl : SL X K T W [a, lo] fl) (hh : SE X K T W hi fc) : SE X K T W (.Subscript a (.Slice (some lo) (some hi) none p2) pos) (evSlBo fl fc) := by
  intro F H σ s Q R h
  refine wpE_of (pe_slice (sl_list.or sl_tupA) (pe_self X a) (po_some (pe_self X lo)) (po_some (pe_self X hi))) ?_
  have main : wpL X [a, lo] σ H fun vs H2 => ∃ x i, vs = [x, .int i] ∧ wpE X hi σ H2 fun z H3 => ∃ j, z = .int j ∧ rSl2 X.K x (some i) (some j) H3 Q := by
    refine hl F H σ s _ R ?_
    unfold evSlBo at h
    cases q : fl s with
    | no => rw [q] at h; exact h.elim
    | er x g => rw [q] at h; exact h
    | ok xs s1 =>
      rw [q] at h
      intro vs F1 H1 S1 R1 r1
      simp only [Rs.bind] at h
      match xs, h, r1 with
      | [x0, y0], h, r1 =>
        cases q2 : pks s1 [x0, y0] with
        | none => rw [q2] at h; exact h.elim
        | some ds =>
          rw [q2] at h
          have rr := r1.rhs R1 q2
          split at h
          · rename_i x y d i e1 e2
            cases e1
            cases e2
            obtain ⟨v, w, rfl, hv, hw⟩ := rr.two
            cases hw.int
            refine ⟨v, i, rfl, hh F1 H1 σ s1 _ R1 ?_⟩
            cases q4 : fc s1 with
            | no => rw [q4] at h; exact h.elim
            | er x g => rw [q4] at h; exact PstX.step S1 R R1 h
            | ok z s2 =>
              rw [q4] at h
              intro w' F2 H2 S2 R2 r2
              simp only [Rs.bind] at h
              have rx : RO K T H F1 H1 s1 σ v x0 := by
                cases r1 with
                | cons t _ _ => exact t
              have rx2 := rx.step S2
              split at h
              · rename_i d' j q5 q6
                cases (r2.rh R2 q6).int
                refine ⟨j, rfl, ?_⟩
                rw [← hk]
                split at h
                · rename_i r q7
                  exact slc_core R2.sub (rx2.rh R2 q5) q7 (cont_of R2 (fun _ z => nomatch z) (PstE.step (S1.trans S2 R R2) R R2 h))
                · rename_i r q7
                  exact slc_core R2.sub (rx2.rh R2 q5) q7 (cont_of R2 (fun _ z => nomatch z) (PstE.step (S1.trans S2 R R2) R R2 h))
                · exact h.elim
              · exact h.elim
          · exact h.elim
      | [], h, _ => exact h.elim
      | [_], h, _ => exact h.elim
      | _ :: _ :: _ :: _, h, _ => exact h.elim
  exact wp_mono (show wpE X a σ H fun x H1 => wpE X lo σ H1 fun y H2 => ∃ x' i, [x, y] = [x', .int i] ∧ wpE X hi σ H2 fun z H3 => ∃ j, z = .int j ∧ rSl2 X.K x' (some i) (some j) H3 Q from main) fun x H1 q => wp_mono q fun y H2 ⟨x', i, e, q⟩ => by
    cases e; exact ⟨i, rfl, q⟩
/-! ### own lists are changed -/
def setS (s : Sg G) (i : Nat) (x : Option (Bool × D)) : Sg G := { s with sl := s.sl.set i x }
theorem setS_get (s : Sg G) (i j : Nat) (x : Option (Bool × D)) (hi : i < s.sl.length) : (setS s i x).sl[j]? = if j = i then some x else s.sl[j]? := by
  unfold setS
  by_cases q : j = i
  · subst q; rw [if_pos rfl]; show (s.sl.set j x)[j]? = _; rw [List.getElem?_set_self hi]
  · rw [if_neg q]; show (s.sl.set i x)[j]? = _; rw [List.getElem?_set_ne (Ne.symm q)]
theorem lt_of_get {α : Type} {l : List α} {i : Nat} {x : α} (h : l[i]? = some x) : i < l.length := by
  rcases Nat.lt_or_ge i l.length with q | q
  · exact q
  · rw [List.getElem?_eq_none q] at h; cases h
theorem Rl.mutO {i : Nat} {p : Addr} {d d' : D} {ob : HO} (R : Rl K T F H s σ) (e : s.sl[i]? = some (some (true, d))) (hp : σ[i]? = some (some (.ref p))) (sd : Shl K F (upd H p ob) p d') :
    Rl K T F (upd H p ob) (setS s i (some (true, d'))) σ ∧ Stp T F H s σ F (upd H p ob) (setS s i (some (true, d'))) σ := by
  have hi := lt_of_get e
  obtain ⟨p', h1, n, nf, sh⟩ := R.own i d e
  rw [hp] at h1; cases h1
  have ow : Ownd s σ p := ⟨i, d, e, hp⟩
  have back : ∀ {j z}, (setS s i (some (true, d'))).sl[j]? = some (some (true, z)) → ∃ z', s.sl[j]? = some (some (true, z')) := fun {j z} h => by
    rw [setS_get _ _ _ _ hi] at h
    by_cases q : j = i
    · subst q; exact ⟨d, e⟩
    · rw [if_neg q] at h; exact ⟨z, h⟩
  have bown : ∀ {a}, Ownd (setS s i (some (true, d'))) σ a → Ownd s σ a := fun {a} ⟨j, z, h1, h2⟩ => by
    obtain ⟨z', h⟩ := back h1
    exact ⟨j, z', h, h2⟩
  refine ⟨⟨fun a o h => ?_, ?_, fun j x h => ?_, fun j x h => ?_, fun j k x y q h1 h2 => ?_, ?_, R.gf⟩, ⟨Le.refl _, fun a o h no nf' => ?_, fun a h => .inl h, fun a h => .inl (bown h), fun j y h => ?_, fun a h => ?_⟩⟩
  · by_cases q : a = p
    · subst q; rw [n] at h; cases h
    · rw [upd_ne q]; exact R.sub a o h
  · show (s.sl.set i _).length = _
    rw [List.length_set]; exact R.len
  · rw [setS_get _ _ _ _ hi] at h
    by_cases q : j = i
    · rw [if_pos q] at h; cases h
    · rw [if_neg q] at h; exact R.val j x h
  · rw [setS_get _ _ _ _ hi] at h
    by_cases q : j = i
    · subst q
      rw [if_pos rfl] at h
      cases h
      exact ⟨p, hp, n, nf, sd⟩
    · rw [if_neg q] at h
      obtain ⟨p2, h1, h2, h3, h4⟩ := R.own j x h
      have ne : p2 ≠ p := fun z => q (R.inj j i x d p h e (z ▸ h1) hp)
      exact ⟨p2, h1, h2, h3, h4.mono (Le.refl _) (upd_ne ne)⟩
  · obtain ⟨x', h1'⟩ := back h1
    obtain ⟨y', h2'⟩ := back h2
    exact R.inj j k x' y' q h1' h2'
  · exact T.dep _ _ _ R.gs fun a ha => upd_ne (fun (z : a = p) => nf (by rw [← z]; exact ha))
  · have ne : a ≠ p := fun z => no (z ▸ ow)
    rw [upd_ne ne]; exact h
  · rw [setS_get _ _ _ _ hi]
    by_cases q : j = i
    · exact ⟨_, if_pos q⟩
    · rw [if_neg q]; exact ⟨y, h⟩
  · by_cases q : a = p
    · subst q; rw [upd_same]; exact fun z => nomatch z
    · rw [upd_ne q]; exact h
theorem Rl.mut {i : Nat} {p : Addr} {d : D} {ds' : List D} {vs' : List V} (R : Rl K T F H s σ) (e : s.sl[i]? = some (some (true, d))) (hp : σ[i]? = some (some (.ref p))) (r : Reps K F vs' ds') :
    Rl K T F (upd H p (.lst vs')) (setS s i (some (true, .lst ds'))) σ ∧ Stp T F H s σ F (upd H p (.lst vs')) (setS s i (some (true, .lst ds'))) σ := R.mutO e hp ⟨vs', upd_same, r⟩
/-- a slot is given data -/
theorem Rl.setV {i : Nat} {v : V} {d : D} (R : Rl K T F H s σ) (hi : i < s.sl.length) (r : Rep K F v d) : Rl K T F H (setS s i (some (false, d))) (σ.set i (some v)) ∧ Stp T F H s σ F H (setS s i (some (false, d))) (σ.set i (some v)) := by
  have hi2 : i < σ.length := by rw [← R.len]; exact hi
  have gσ : ∀ j, (σ.set i (some v))[j]? = if j = i then some (some v) else σ[j]? := fun j => by
    by_cases q : j = i
    · subst q; rw [if_pos rfl, List.getElem?_set_self hi2]
    · rw [if_neg q, List.getElem?_set_ne (Ne.symm q)]
  have back : ∀ {j z}, (setS s i (some (false, d))).sl[j]? = some (some (true, z)) → j ≠ i ∧ s.sl[j]? = some (some (true, z)) := fun {j z} h => by
    rw [setS_get _ _ _ _ hi] at h
    by_cases q : j = i
    · rw [if_pos q] at h; cases h
    · rw [if_neg q] at h; exact ⟨q, h⟩
  refine ⟨⟨R.sub, ?_, fun j x h => ?_, fun j x h => ?_, fun j k x y q h1 h2 h3 h4 => ?_, R.gs, R.gf⟩, ⟨Le.refl _, fun a o h _ _ => h, fun a h => .inl h, fun a h => .inl ?_, fun j y h => ?_, fun a h => h⟩⟩
  · show (s.sl.set i _).length = _
    rw [List.length_set, List.length_set]; exact R.len
  · rw [setS_get _ _ _ _ hi] at h
    rw [gσ]
    by_cases q : j = i
    · rw [if_pos q] at h ⊢; cases h; exact ⟨v, rfl, r⟩
    · rw [if_neg q] at h ⊢; exact R.val j x h
  · obtain ⟨q, h⟩ := back h
    rw [gσ, if_neg q]; exact R.own j x h
  · obtain ⟨q1, h1⟩ := back h1
    obtain ⟨q2, h2⟩ := back h2
    rw [gσ, if_neg q1] at h3
    rw [gσ, if_neg q2] at h4
    exact R.inj j k x y q h1 h2 h3 h4
  · obtain ⟨j, x, h1, h2⟩ := h
    obtain ⟨q1, h1⟩ := back h1
    rw [gσ, if_neg q1] at h2
    exact ⟨j, x, h1, h2⟩
  · rw [setS_get _ _ _ _ hi]
    by_cases q : j = i
    · exact ⟨_, if_pos q⟩
    · rw [if_neg q]; exact ⟨y, h⟩
/-- a slot is given a new object as its own -/
theorem Rl.setO {i : Nat} {p : Addr} {d : D} {H0 F0 : Hp} {s0 : Sg G} {σ0 : Sl} (R : Rl K T F H s σ) (hi : i < s.sl.length) (n0 : H0 p = none) (S : Stp T F0 H0 s0 σ0 F H s σ) (n : F p = none) (nf : ¬ T.fp p) (no : ¬ Ownd s σ p) (sh : Shl K F H p d) :
    Rl K T F H (setS s i (some (true, d))) (σ.set i (some (.ref p))) ∧ Stp T F0 H0 s0 σ0 F H (setS s i (some (true, d))) (σ.set i (some (.ref p))) := by
  have hi2 : i < σ.length := by rw [← R.len]; exact hi
  have gσ : ∀ j, (σ.set i (some (V.ref p)))[j]? = if j = i then some (some (V.ref p)) else σ[j]? := fun j => by
    by_cases q : j = i
    · subst q; rw [if_pos rfl, List.getElem?_set_self hi2]
    · rw [if_neg q, List.getElem?_set_ne (Ne.symm q)]
  have ownB : ∀ {a}, Ownd (setS s i (some (true, d))) (σ.set i (some (V.ref p))) a → Ownd s σ a ∨ a = p := fun {a} ⟨j, x, h1, h2⟩ => by
    rw [setS_get _ _ _ _ hi] at h1
    rw [gσ] at h2
    by_cases q : j = i
    · rw [if_pos q] at h2; cases h2; exact .inr rfl
    · rw [if_neg q] at h1 h2; exact .inl ⟨j, x, h1, h2⟩
  refine ⟨⟨R.sub, ?_, fun j x h => ?_, fun j x h => ?_, fun j k x y q h1 h2 h3 h4 => ?_, R.gs, R.gf⟩, ⟨S.le, S.keep, S.new, fun a h => ?_, fun j y h => ?_, S.grow⟩⟩
  · show (s.sl.set i _).length = _
    rw [List.length_set, List.length_set]; exact R.len
  · rw [setS_get _ _ _ _ hi] at h
    rw [gσ]
    by_cases q : j = i
    · rw [if_pos q] at h; cases h
    · rw [if_neg q] at h ⊢; exact R.val j x h
  · rw [setS_get _ _ _ _ hi] at h
    rw [gσ]
    by_cases q : j = i
    · rw [if_pos q] at h ⊢; cases h; exact ⟨p, rfl, n, nf, sh⟩
    · rw [if_neg q] at h ⊢; exact R.own j x h
  · rw [setS_get _ _ _ _ hi] at h1 h2
    rw [gσ] at h3 h4
    by_cases q1 : j = i
    · by_cases q2 : k = i
      · rw [q1, q2]
      · rw [if_pos q1] at h3
        rw [if_neg q2] at h2 h4
        cases h3
        exact (no ⟨k, y, h2, h4⟩).elim
    · by_cases q2 : k = i
      · rw [if_pos q2] at h4
        rw [if_neg q1] at h1 h3
        cases h4
        exact (no ⟨j, x, h1, h3⟩).elim
      · rw [if_neg q1] at h1 h3
        rw [if_neg q2] at h2 h4
        exact R.inj j k x y q h1 h2 h3 h4
  · rcases ownB h with z | z
    · exact S.own a z
    · rw [z]; exact .inr n0
  · rw [setS_get _ _ _ _ hi]
    by_cases q : j = i
    · exact ⟨_, if_pos q⟩
    · rw [if_neg q]; exact S.kp j y h
end
end BF
set_option Elab.async false
set_option linter.all false
set_option autoImplicit false
set_option maxRecDepth 100000
set_option maxHeartbeats 2000000
/-! dicts by their entries -/
namespace BF
open PySem PySem.Spec PyProof.Rows L2
structure RawK (w : World) (h : Heap) (es : Array DictEntry) (ks : List NestedKey) : Prop where
  len : es.size = ks.length
  each : ∀ (i : Nat) (e : DictEntry), es[i]? = some e → ∃ k, ks[i]? = some k ∧ NestedIs h k e.key ∧ e.hash = k.hash w ∧ k.depth ≤ 8
  nd : ks.Nodup
/-- the key asked for is of the sort of those that stand -/
def SortK (es : Array DictEntry) (u : Value) : Prop := (carriedByValue u = true ∧ ∀ e ∈ es, carriedByValue e.key = true) ∨ ((∃ b, u = .ref b) ∧ ∀ e ∈ es, ∃ b, e.key = .ref b)
theorem leaf_of {h : Heap} {k : NestedKey} {u : Value} (x : NestedIs h k u) (hl : carriedByValue u = true) : ∃ l : Leaf, l.key = k ∧ Leaf.isOf l u = true := by
  cases x with
  | none => exact ⟨.none, rfl, rfl⟩
  | bool e => exact ⟨.num _, rfl, decide_eq_true e.symm⟩
  | int i t => exact ⟨.num i, rfl, by simp [Leaf.isOf]⟩
  | text y t => exact ⟨.text y, rfl, by simp [Leaf.isOf, Value.isStrOf]⟩
  | tup _ _ _ _ => cases hl
section
variable {prog : Program} {w : World} {A : Around} {E : Value → Shared → Prop} {s : Shared} {d : Addr} {es : Array DictEntry} {ep : Nat} {ks : List NestedKey} {k : NestedKey} {u : Value}
theorem raw_find {Q : Option Nat → Shared → Prop} (hu : A.units + 8 < cLine) (hd : s.heap.DictRaw d es ep) (R : RawK w s.heap es ks) (x : NestedIs s.heap k u) (hk : k.depth ≤ 8) (hs : SortK es u) (h : Q (ks.findIdx? fun j => NestedKey.beq j k) s) :
    wpAny (model prog w) A (dictFind d u (k.hash w)) Q E s := by
  obtain ⟨o, ho, hc, hdt⟩ := hd
  rcases hs with ⟨hv, hes⟩ | ⟨⟨b, rfl⟩, hes⟩
  · obtain ⟨l, rfl, hl⟩ := leaf_of x hv
    refine wpAny_dictFind_of (knd := leafKind prog w) (k := l) hl ho hdt (fun e he => ?_) ?_
    · obtain ⟨i, hi⟩ := Array.getElem?_of_mem he
      obtain ⟨k', _, e2, e3, _⟩ := R.each i e hi
      obtain ⟨l', rfl, hl'⟩ := leaf_of e2 (hes e he)
      exact ⟨l', hl', e3⟩
    · have q : (es.findIdx? fun e => (leafKind prog w).is l e.key) = ks.findIdx? fun j => NestedKey.beq j l.key := by
        have key : ∀ (i : Nat) (e : DictEntry), es[i]? = some e → ∃ k, ks[i]? = some k ∧ (leafKind prog w).is l e.key = NestedKey.beq k l.key := by
          intro i e hi
          obtain ⟨k', e1, e2, e3, _⟩ := R.each i e hi
          obtain ⟨l', rfl, hl'⟩ := leaf_of e2 (hes e (Array.mem_of_getElem? hi))
          refine ⟨_, e1, ?_⟩
          rw [KeyKind.is_eq_decide (knd := leafKind prog w) hl' l, ← NestedKey.decide_eq]
          by_cases z : l = l'
          · subst z; simp
          · have z2 : ¬ l'.key = l.key := fun z' => z (Leaf.key_inj z').symm
            simp [z, z2]
        cases e : ks.findIdx? fun j => NestedKey.beq j l.key with
        | none =>
          rw [Array.findIdx?_eq_none_iff]
          intro en hen
          obtain ⟨i, hi⟩ := Array.getElem?_of_mem hen
          obtain ⟨k', e1, e2⟩ := key i en hi
          rw [e2]
          have := List.findIdx?_eq_none_iff.mp e k' (List.mem_of_getElem? e1)
          simpa using this
        | some i =>
          obtain ⟨hi, h1, h2⟩ := List.findIdx?_eq_some_iff_getElem.mp e
          rw [Array.findIdx?_eq_some_iff_getElem]
          refine ⟨by rw [R.len]; exact hi, ?_, fun j hj => ?_⟩
          · obtain ⟨k', e1, e2⟩ := key i (es[i]'(by rw [R.len]; exact hi)) (Array.getElem?_eq_getElem _)
            rw [e2]
            rw [List.getElem?_eq_getElem hi] at e1
            cases e1
            exact h1
          · obtain ⟨k', e1, e2⟩ := key j (es[j]'(by have := R.len; omega)) (Array.getElem?_eq_getElem _)
            rw [e2]
            rw [List.getElem?_eq_getElem (by omega)] at e1
            cases e1
            simpa using h2 j hj
      rw [q]
      exact h
  · -- keys that are tuples
    obtain ⟨xs, hx, hxk⟩ : ∃ xs : List (NestedKey × Addr × Value), es.toList = xs.map (entryOfKey (nestedKind prog w)) ∧ xs.map (·.1) = ks := by
      have : ∀ (n : Nat) (l : List DictEntry) (ks : List NestedKey), l.length = n → ks.length = n → (∀ (i : Nat) e, l[i]? = some e → ∃ k, ks[i]? = some k ∧ e.hash = k.hash w) → (∀ e ∈ l, ∃ b, e.key = .ref b) → ∃ xs : List (NestedKey × Addr × Value), l = xs.map (entryOfKey (nestedKind prog w)) ∧ xs.map (·.1) = ks := by
        intro n
        induction n with
        | zero =>
          intro l ks hl hk _ _
          exact ⟨[], by simp [List.length_eq_zero_iff.mp hl], by simp [List.length_eq_zero_iff.mp hk]⟩
        | succ n ih =>
          intro l ks hl hk h1 h2
          match l, ks, hl, hk with
          | e :: l, k :: ks, hl, hk =>
            obtain ⟨xs, q1, q2⟩ := ih l ks (by simpa using hl) (by simpa using hk) (fun i e' he => by simpa using h1 (i + 1) e' (by simpa using he)) fun e' he => h2 e' (List.mem_cons_of_mem _ he)
            obtain ⟨b, hb⟩ := h2 e List.mem_cons_self
            obtain ⟨k', k1, k2⟩ := h1 0 e rfl
            simp only [List.getElem?_cons_zero, Option.some.injEq] at k1
            subst k1
            refine ⟨(k, b, e.val) :: xs, ?_, by simp [q2]⟩
            rw [List.map_cons, ← q1]
            congr 1
            cases e
            simp only at hb k2
            subst hb k2
            rfl
      refine this es.size es.toList ks (by simp) R.len.symm (fun i e he => ?_) fun e he => hes e (by simpa using he)
      obtain ⟨k', e1, _, e3, _⟩ := R.each i e (by simpa using he)
      exact ⟨k', e1, e3⟩
    have at_ : ∀ (j : Nat) y, xs[j]? = some y → ks[j]? = some y.1 := fun j y e => by rw [← hxk, List.getElem?_map, e]; rfl
    refine wpAny_dictFind_heap (knd := nestedKind prog w) (xs := xs) (k := k) hu ⟨x, hk⟩ ho hdt hx (fun y hy => ?_) (by rw [hxk]; exact R.nd) (fun hn => ?_) fun j p hj => ?_
    · obtain ⟨j, hj⟩ := List.mem_iff_getElem?.mp hy
      have he : es[j]? = some (entryOfKey (nestedKind prog w) y) := by rw [← Array.getElem?_toList, hx, List.getElem?_map, hj]; rfl
      obtain ⟨k', e1, e2, _, e4⟩ := R.each j _ he
      rw [at_ j y hj] at e1
      cases e1
      exact ⟨e2, e4⟩
    · have : (ks.findIdx? fun j => NestedKey.beq j k) = none := by
        rw [List.findIdx?_eq_none_iff]
        intro k' hk'
        obtain ⟨j, hj⟩ := List.mem_iff_getElem?.mp hk'
        have : j < xs.length := by rw [← hxk] at hj; have := (List.getElem?_eq_some_iff.mp hj).1; simpa using this
        rw [at_ j _ (List.getElem?_eq_getElem this)] at hj
        cases hj
        rw [← NestedKey.decide_eq]
        refine decide_eq_false fun z => hn j xs[j].2 ?_
        rw [List.getElem?_eq_getElem this, ← z]
      rw [this] at h
      exact h
    · have hkj := at_ j _ hj
      have hlt : j < ks.length := (List.getElem?_eq_some_iff.mp hkj).1
      have : (ks.findIdx? fun j => NestedKey.beq j k) = some j := by
        rw [List.findIdx?_eq_some_iff_getElem]
        refine ⟨hlt, ?_, fun i hi => ?_⟩
        · rw [List.getElem?_eq_getElem hlt] at hkj
          cases hkj
          exact NestedKey.beq_self _
        · rw [← NestedKey.decide_eq]
          simp only [decide_eq_true_eq]
          intro z
          have e2 : ks[i]? = ks[j]? := by rw [List.getElem?_eq_getElem (by omega), z, hkj]
          have := (List.getElem?_inj (by omega) R.nd).mp e2
          omega
      rw [this] at h
      exact h
/-- what stands at a key -/
def atK (es : Array DictEntry) (ks : List NestedKey) (k : NestedKey) : Option Value := (ks.findIdx? fun j => NestedKey.beq j k).bind fun i => es[i]?.map (·.val)
theorem raw_get {Q : Option Value → Shared → Prop} (hu : A.units + 8 < cLine) (hd : s.heap.DictRaw d es ep) (R : RawK w s.heap es ks) (x : NestedIs s.heap k u) (hk : k.depth ≤ 8) (hs : SortK es u) (h : ∀ tk, Q (atK es ks k) { s with toks := tk }) :
    wpAny (model prog w) A (dictGet d u) Q E s := by
  unfold dictGet
  try with_reducible refine wpAny_holding ?_
  refine wpAny_bind (pyHash_key k u A s _ x (by omega) (wpAny_bind (raw_find (s := { s with toks := s.toks + k.draws }) hu hd R x hk hs ?_)))
  have h := h (s.toks + k.draws)
  unfold atK at h
  obtain ⟨o, ho, hc, hdt⟩ := hd
  cases q : ks.findIdx? fun j => NestedKey.beq j k with
  | none => rw [q] at h; exact wpAny_pure h
  | some i => rw [q] at h; exact wpAny_bind (wpAny_dictEntries (s := { s with toks := s.toks + k.draws }) ho hdt (wpAny_pure h))
/-- the entries with a value stored -/
def putE (es : Array DictEntry) (ks : List NestedKey) (k : NestedKey) (w : World) (u v : Value) : Array DictEntry := match ks.findIdx? fun j => NestedKey.beq j k with
  | some i => es.modify i fun e => { e with val := v }
  | none => es.push ⟨k.hash w, u, v⟩
theorem raw_set {v : Value} {Q : Unit → Shared → Prop} (hu : A.units + 8 < cLine) (hd : s.heap.DictRaw d es ep) (R : RawK w s.heap es ks) (x : NestedIs s.heap k u) (hk : k.depth ≤ 8) (hs : SortK es u) (hz : es.size ≤ sizeLine)
    (h : ∀ h' ep' tk, h'.DictRaw d (putE es ks k w u v) ep' → Heap.SameBut d s.heap h' → Q () { s with heap := h', toks := tk }) :
    wpAny (model prog w) A (dictSet d u v) Q E s := by
  unfold dictSet
  try with_reducible refine wpAny_holding ?_
  refine wpAny_bind (pyHash_key k u A s _ x (by omega) ?_)
  unfold dictSetHashed
  try with_reducible refine wpAny_holding ?_
  refine wpAny_bind (raw_find (s := { s with toks := s.toks + k.draws }) hu hd R x hk hs ?_)
  obtain ⟨o, ho, hc, hdt⟩ := hd
  unfold putE at h
  cases q : ks.findIdx? fun j => NestedKey.beq j k with
  | some i =>
    rw [q] at h
    exact wpAny_bind (wpAny_rule (wpAny_bind (wpAny_updateDict (s := { s with toks := s.toks + k.draws }) ho hdt (wpAny_point (h _ ep _ ⟨_, Heap.get?_update_self _ ho (Obj.isFreed_of_dict (Obj.data_mapDict hdt _)), hc.mapDict _, Obj.data_mapDict hdt _⟩ (Heap.SameBut.update ..))))))
  | none =>
    rw [q] at h
    exact wpAny_bind (wpAny_rule (wpAny_updateDictKeys (hz := hz) (s := { s with toks := s.toks + k.draws }) ho hdt (h _ (ep + 1) _ ⟨_, Heap.get?_update_self _ ho (Obj.isFreed_of_dict (Obj.data_mapDictKeys hdt _)), hc.mapDictKeys _, Obj.data_mapDictKeys hdt _⟩ (Heap.SameBut.update ..))))
theorem raw_contains {neg : Bool} {Q : Value → Shared → Prop} (hu : A.units + 9 < cLine) (hsm : (d == sysModules) = false) (hd : s.heap.DictRaw d es ep) (R : RawK w s.heap es ks) (x : NestedIs s.heap k u) (hk : k.depth ≤ 8) (hs : SortK es u) (h : ∀ tk, Q (.bool (if neg then !(atK es ks k).isSome else (atK es ks k).isSome)) { s with toks := tk }) :
    wpAny (model prog w) A (compareOp (if neg then .NotIn else .In) u (.ref d)) Q E s := by
  have hT := hd.typeIs
  have core : ∀ (Q' : Bool → Shared → Prop), (∀ tk, Q' (atK es ks k).isSome { s with toks := tk }) → wpAny (model prog w) A (contains (.ref d) u) Q' E s := by
    intro Q' h
    unfold contains
    try with_reducible refine wpAny_holding ?_
    refine wpAny_bind (wpAny_specialOf hT slot_dict_contains.lookup ?_)
    show wpAny _ _ (if (some (Value.builtin "dict.__contains__") == some Value.none) = true then _ else _) _ E s
    rw [if_neg (by rw [beq_builtin_none]; exact Bool.false_ne_true)]
    refine wpAny_bind (wpAny_callSpecialUnlessNone?_slot (name := Str.ofString "__contains__") hT slot_dict_contains
      (wpAny_call_entry slot_dict_contains hT entry_dict_contains ?_ (args_dict_contains _ _)))
    show wpAny _ _ (dictGet d u >>= _) _ _ s
    refine wpAny_bind (raw_get (A := A.in1) (by rw [Around.in1_units]; omega) hd R x hk hs fun tk => ?_)
    have h := h tk
    cases hf : atK es ks k with
    | some p =>
      rw [hf] at h
      show wpAny _ _ (ret (.bool true)) _ _ _
      exact wpAny_pure ⟨_, rfl, wpAny_truthy_bool h⟩
    | none =>
      rw [hf] at h
      show wpAny _ _ (Builtin.Dict.pendingKey? d u >>= _) _ _ _
      exact wpAny_bind (wpAny_pendingKey_other hsm (wpAny_pure ⟨_, rfl, wpAny_truthy_bool h⟩))
  cases neg with
  | false =>
    show wpAny _ _ (do return .bool (← contains (.ref d) u)) Q E s
    exact wpAny_bind (core _ fun tk => wpAny_pure (h tk))
  | true =>
    show wpAny _ _ (do return .bool (!(← contains (.ref d) u))) Q E s
    exact wpAny_bind (core _ fun tk => wpAny_pure (h tk))
theorem raw_getItem {v : Value} {Q : Value → Shared → Prop} (hu : A.units + 9 < cLine) (hd : s.heap.DictRaw d es ep) (R : RawK w s.heap es ks) (x : NestedIs s.heap k u) (hk : k.depth ≤ 8) (hs : SortK es u) (hv : atK es ks k = some v) (h : ∀ tk, Q v { s with toks := tk }) :
    wpAny (model prog w) A (getItem (.ref d) u) Q E s := by
  have hT := hd.typeIs
  unfold getItem
  try with_reducible refine wpAny_holding ?_
  refine wpAny_bind (wpAny_sequenceKey hT (by decide) ?_)
  refine wpAny_bind (wpAny_callSpecial?_slot (name := Str.ofString "__getitem__") hT slot_dict_getitem
    (wpAny_call_entry slot_dict_getitem hT entry_dict_getitem ?_ (args_dict_getitem _ _)))
  show wpAny _ _ (dictGet d u >>= _) _ _ s
  refine wpAny_bind (raw_get (A := A.in1) (by rw [Around.in1_units]; omega) hd R x hk hs fun tk => ?_)
  rw [hv]
  exact wpAny_pure ⟨v, rfl, wpAny_pure (h tk)⟩
theorem raw_setItem {v : Value} {Q : Unit → Shared → Prop} (hu : A.units + 9 < cLine) (hd : s.heap.DictRaw d es ep) (R : RawK w s.heap es ks) (x : NestedIs s.heap k u) (hk : k.depth ≤ 8) (hs : SortK es u) (hz : es.size ≤ sizeLine)
    (h : ∀ h' ep' tk, h'.DictRaw d (putE es ks k w u v) ep' → Heap.SameBut d s.heap h' → Q () { s with heap := h', toks := tk }) :
    wpAny (model prog w) A (setItem (.ref d) u v) Q E s := by
  have hT := hd.typeIs
  unfold setItem
  try with_reducible refine wpAny_holding ?_
  refine wpAny_bind (wpAny_sequenceKey hT (by decide) ?_)
  refine wpAny_bind (wpAny_callSpecial?_slot (name := Str.ofString "__setitem__") hT slot_dict_setitem
    (wpAny_call_entry slot_dict_setitem hT entry_dict_setitem ?_ (args_dict_setitem _ _ _)))
  show wpAny _ _ (Builtin.Dict.notOrdered "__setitem__" ⟨[.ref d, u, v], []⟩ >>= _) _ _ s
  refine wpAny_bind (wpAny_notOrdered_dict hT ?_)
  show wpAny _ _ (dictSet d u v >>= _) _ _ s
  exact wpAny_bind (raw_set (A := A.in1) (by rw [Around.in1_units]; omega) hd R x hk hs hz fun h' ep' tk hm' hs' => wpAny_pure ⟨.none, rfl, wpAny_pure (h h' ep' tk hm' hs')⟩)
theorem raw_meets_get2 (hsm : (d == sysModules) = false) (u dflt : Value) :
    MeetsIn prog w (Builtin.«dict.get» ⟨[.ref d, u, dflt], []⟩) (fun A R s => A.units + 9 < cLine ∧ ∃ k es ep ks, s.heap.DictRaw d es ep ∧ RawK w s.heap es ks ∧ NestedIs s.heap k u ∧ k.depth ≤ 8 ∧ SortK es u ∧
      ∀ tk, R (.ok (.ret ((atK es ks k).getD dflt))) { s with toks := tk }) :=
  .of_wp fun A R s ⟨hu, k, es, ep, ks, hd, RK, x, hk, hs, h⟩ => by
    show wpAny _ _ (dictGet d u >>= _) _ _ s
    refine wpAny_bind (raw_get (A := A.in1) (by rw [Around.in1_units]; omega) hd RK x hk hs fun tk => ?_)
    have h := h tk
    cases hf : atK es ks k with
    | some v =>
      rw [hf] at h
      exact wpAny_pure ⟨v, rfl, h⟩
    | none =>
      rw [hf] at h
      show wpAny _ _ (Builtin.Dict.missed d u >>= _) _ _ _
      exact wpAny_bind (wpAny_missed_other hsm (wpAny_pure ⟨dflt, rfl, h⟩))
end
end BF
set_option Elab.async false
set_option linter.all false
set_option autoImplicit false
set_option maxRecDepth 100000
set_option maxHeartbeats 2000000
namespace BF
open PySem PySem.Spec PyProof.Rows L2
/-! ### dicts as data -/
def getK : List (D × D) → D → Option D
  | [], _ => none
  | (a, v) :: r, k => if NestedKey.beq (nk a) (nk k) = true then some v else getK r k
def putK : List (D × D) → D → D → List (D × D)
  | [], k, v => [(k, v)]
  | (a, x) :: r, k, v => if NestedKey.beq (nk a) (nk k) = true then (a, v) :: r else (a, x) :: putK r k v
/-- a key of the sort of those that stand -/
def sortB (ks : List D) (k : D) : Bool := (leafK k && ks.all leafK) || (tupK k && ks.all tupK)
theorem leafK_keyN {d : D} (h : leafK d = true) : keyN 8 d = true := by cases d <;> first | rfl | cases h
theorem tupK_keyN {d : D} (h : tupK d = true) : keyN 8 d = true := by cases d <;> first | exact h | cases h
theorem sortB_keyN {ks : List D} {k : D} (h : sortB ks k = true) : keyN 8 k = true := by
  unfold sortB at h
  rcases Bool.or_eq_true_iff.mp h with h | h
  · exact leafK_keyN (Bool.and_eq_true_iff.mp h).1
  · exact tupK_keyN (Bool.and_eq_true_iff.mp h).1
theorem dOk_keyN {ks : List D} (h : dOk ks = true) : ∀ k ∈ ks, keyN 8 k = true := fun k hk => by
  unfold dOk at h
  rcases Bool.or_eq_true_iff.mp (Bool.and_eq_true_iff.mp h).1 with h | h
  · exact leafK_keyN (List.all_eq_true.mp h k hk)
  · exact tupK_keyN (List.all_eq_true.mp h k hk)
theorem nodupN_ok : ∀ {ks : List NestedKey}, nodupN ks = true ↔ ks.Nodup
  | [] => by simp [nodupN]
  | k :: ks => by
    unfold nodupN
    rw [Bool.and_eq_true, nodupN_ok, List.nodup_cons]
    refine and_congr_left fun _ => ?_
    rw [Bool.not_eq_true', List.any_eq_false]
    constructor
    · intro h hm
      exact h k hm (NestedKey.beq_self k)
    · intro h j hj e
      exact h (NestedKey.eq_of_beq j k e ▸ hj)
section
variable {X : Cx} {pins : List (Addr × Obj)} {σ : Sl} {F H : Hp} {s : Shared} {K : Env1}
theorem Reps.vals_len {vs : List V} {ds : List D} (r : Reps K F vs ds) : vs.length = ds.length := r.length
theorem nested_of (I : Inv X pins σ H s) (hk : K.K = X.K) (l : Le F H) : ∀ (n : Nat) {d : D} {v : V} {u : Value}, keyN n d = true → Rep K F v d → RelV v u → NestedIs s.heap (nk d) u ∧ (nk d).depth ≤ n := by
  intro n
  induction n with
  | zero =>
    intro d v u h r q
    cases d with
    | non => cases r; cases q; simp only [nk]; exact ⟨.none, by simp [NestedKey.depth]⟩
    | bl b => cases r; cases q; simp only [nk]; exact ⟨.bool rfl, by simp [NestedKey.depth]⟩
    | int i => cases r; obtain ⟨t, rfl⟩ := q; simp only [nk]; exact ⟨.int _ _, by simp [NestedKey.depth]⟩
    | str x => cases r; obtain ⟨t, rfl⟩ := q; simp only [nk]; exact ⟨.text _ _, by simp [NestedKey.depth]⟩
    | _ => cases h
  | succ n ih =>
    intro d v u h r q
    cases d with
    | non => cases r; cases q; simp only [nk]; exact ⟨.none, by simp [NestedKey.depth]⟩
    | bl b => cases r; cases q; simp only [nk]; exact ⟨.bool rfl, by simp [NestedKey.depth]⟩
    | int i => cases r; obtain ⟨t, rfl⟩ := q; simp only [nk]; exact ⟨.int _ _, by simp [NestedKey.depth]⟩
    | str x => cases r; obtain ⟨t, rfl⟩ := q; simp only [nk]; exact ⟨.text _ _, by simp [NestedKey.depth]⟩
    | tup xs =>
      have all : ∀ {xs : List D} {vs : List V} {us : List Value}, xs.all (keyN n) = true → Reps K F vs xs → Vals vs us → NestedAll s.heap (nks xs) us ∧ NestedKey.depthAll (nks xs) ≤ n := by
        intro xs
        induction xs with
        | nil => intro vs us h r q; cases r; cases q; simp only [nks]; exact ⟨.nil, by simp [NestedKey.depthAll]⟩
        | cons x xs ih2 =>
          intro vs us h r q
          rw [List.all_cons, Bool.and_eq_true] at h
          cases r with
          | cons r1 r2 =>
            cases q with
            | cons q1 q2 =>
              obtain ⟨a1, a2⟩ := ih h.1 r1 q1
              obtain ⟨b1, b2⟩ := ih2 h.2 r2 q2
              simp only [nks]
              refine ⟨.cons a1 b1, ?_⟩
              simp only [NestedKey.depthAll]
              omega
      cases r with
      | tup h1 h2 =>
        have e : u = Value.ref _ := q
        subst e
        have t := l.sqT h1
        rw [hk] at t
        obtain ⟨its, v1, ⟨o, g1, g2, m, g3⟩, _⟩ := I.tuple t.sq
        obtain ⟨a1, a2⟩ := all h h2 v1
        simp only [nk]
        refine ⟨.tup g1 g2 g3 (by simpa using a1), ?_⟩
        simp only [NestedKey.depth]
        omega
    | _ => cases h
theorem RepK.length {es : List DictEntry} {kvs : List (D × D)} (r : RepK K F es kvs) : es.length = kvs.length := by
  induction kvs generalizing es with
  | nil => cases r; rfl
  | cons kv kvs ih => cases r with
    | cons _ _ _ _ _ r => simp [ih r]
theorem RepK.get {es : List DictEntry} {kvs : List (D × D)} (r : RepK K F es kvs) : ∀ {i : Nat} {e : DictEntry}, es[i]? = some e → ∃ k v x y, kvs[i]? = some (k, v) ∧ e.hash = hashD K.w k ∧ RelV x e.key ∧ Rep K F x k ∧ RelV y e.val ∧ Rep K F y v := by
  induction kvs generalizing es with
  | nil => intro i e h; cases r; simp at h
  | cons kv kvs ih =>
    intro i e h
    cases r with
    | cons h1 h2 h3 h4 h5 r =>
      cases i with
      | zero => simp at h; subst h; exact ⟨_, _, _, _, by simp, h1, h2, h3, h4, h5⟩
      | succ i =>
        obtain ⟨k, v, x, y, e1, e2⟩ := ih r (i := i) (by simpa using h)
        exact ⟨k, v, x, y, by simpa using e1, e2⟩
theorem rawk_of (I : Inv X pins σ H s) (hk : K.K = X.K) (hw : K.w = X.w) (l : Le F H) {es : Array DictEntry} {kvs : List (D × D)} (r : RepK K F es.toList kvs) (h : dOk (kvs.map (·.1)) = true) : RawK X.w s.heap es (kvs.map fun kv => nk kv.1) where
  len := by rw [List.length_map, ← r.length]; simp
  each := fun i e he => by
    obtain ⟨k, v, x, y, e1, e2, e3, e4, _, _⟩ := r.get (i := i) (e := e) (by simpa using he)
    obtain ⟨n1, n2⟩ := nested_of I hk l 8 (dOk_keyN h k (List.mem_map.mpr ⟨(k, v), List.mem_of_getElem? e1, rfl⟩)) e4 e3
    refine ⟨nk k, by rw [List.getElem?_map, e1]; rfl, n1, ?_, n2⟩
    rw [e2, ← hw]
    rfl
  nd := by
    have := nodupN_ok.mp (Bool.and_eq_true_iff.mp h).2
    rwa [List.map_map] at this
theorem sort_of {es : Array DictEntry} {kvs : List (D × D)} {k : D} {x : V} {u : Value} (r : RepK K F es.toList kvs) (h : sortB (kvs.map (·.1)) k = true) (rx : Rep K F x k) (ru : RelV x u) : SortK es u := by
  have leaf : ∀ {d : D} {v : V} {u : Value}, leafK d = true → Rep K F v d → RelV v u → carriedByValue u = true := by
    intro d v u h r q
    cases d with
    | non => cases r; cases q; rfl
    | bl b => cases r; cases q; rfl
    | int i => cases r; obtain ⟨t, rfl⟩ := q; rfl
    | str x => cases r; obtain ⟨t, rfl⟩ := q; rfl
    | _ => cases h
  have tup : ∀ {d : D} {v : V} {u : Value}, tupK d = true → Rep K F v d → RelV v u → ∃ b, u = .ref b := by
    intro d v u h r q
    cases d with
    | tup xs => cases r with
      | tup _ _ => exact ⟨_, q⟩
    | _ => cases h
  have mem : ∀ e ∈ es, ∃ kv ∈ kvs, ∃ x, RelV x e.key ∧ Rep K F x kv.1 := fun e he => by
    obtain ⟨i, hi⟩ := Array.getElem?_of_mem he
    obtain ⟨k, v, x, y, e1, _, e3, e4, _⟩ := r.get (i := i) (e := e) (by simpa using hi)
    exact ⟨(k, v), List.mem_of_getElem? e1, x, e3, e4⟩
  unfold sortB at h
  rcases Bool.or_eq_true_iff.mp h with h | h
  · obtain ⟨h1, h2⟩ := Bool.and_eq_true_iff.mp h
    refine .inl ⟨leaf h1 rx ru, fun e he => ?_⟩
    obtain ⟨kv, m, y, e3, e4⟩ := mem e he
    exact leaf (List.all_eq_true.mp h2 _ (List.mem_map.mpr ⟨kv, m, rfl⟩)) e4 e3
  · obtain ⟨h1, h2⟩ := Bool.and_eq_true_iff.mp h
    refine .inr ⟨tup h1 rx ru, fun e he => ?_⟩
    obtain ⟨kv, m, y, e3, e4⟩ := mem e he
    exact tup (List.all_eq_true.mp h2 _ (List.mem_map.mpr ⟨kv, m, rfl⟩)) e4 e3
/-- what is found at a key -/
theorem atK_of {es : List DictEntry} {kvs : List (D × D)} {k : D} (r : RepK K F es kvs) : match getK kvs k with
    | none => (((kvs.map fun kv => nk kv.1).findIdx? fun j => NestedKey.beq j (nk k)).bind fun i => es[i]?.map (·.val)) = none
    | some d => ∃ u v, (((kvs.map fun kv => nk kv.1).findIdx? fun j => NestedKey.beq j (nk k)).bind fun i => es[i]?.map (·.val)) = some u ∧ RelV v u ∧ Rep K F v d := by
  induction kvs generalizing es with
  | nil => cases r; rfl
  | cons kv kvs ih =>
    obtain ⟨a, v⟩ := kv
    cases r with
    | @cons e es x y _ _ _ h1 h2 h3 h4 h5 r =>
      have ih := ih r
      unfold getK
      simp only [List.map_cons, List.findIdx?_cons]
      by_cases q : NestedKey.beq (nk a) (nk k) = true
      · rw [if_pos q, if_pos q]
        exact ⟨e.val, y, rfl, h4, h5⟩
      · rw [if_neg q, if_neg q]
        have eq : (Option.map (fun i => i + 1) (List.findIdx? (fun j => NestedKey.beq j (nk k)) (List.map (fun kv => nk kv.1) kvs))).bind (fun i => (e :: es)[i]?.map (·.val)) = ((kvs.map fun kv => nk kv.1).findIdx? fun j => NestedKey.beq j (nk k)).bind fun i => es[i]?.map (·.val) := by
          cases List.findIdx? (fun j => NestedKey.beq j (nk k)) (List.map (fun kv => nk kv.1) kvs) <;> simp
        rw [eq]
        exact ih
theorem putE_of {es : List DictEntry} {kvs : List (D × D)} {k d : D} {x y : V} {u v : Value} (r : RepK K F es kvs) (rx : Rep K F x k) (ru : RelV x u) (ry : Rep K F y d) (rv : RelV y v) :
    RepK K F (match (kvs.map fun kv => nk kv.1).findIdx? fun j => NestedKey.beq j (nk k) with
      | some i => es.modify i fun e => { e with val := v }
      | none => es ++ [⟨(nk k).hash K.w, u, v⟩]) (putK kvs k d) := by
  induction kvs generalizing es with
  | nil => cases r; exact .cons rfl ru rx rv ry .nil
  | cons kv kvs ih =>
    obtain ⟨a, z⟩ := kv
    cases r with
    | @cons e es x' y' _ _ _ h1 h2 h3 h4 h5 r =>
      have ih := ih r
      unfold putK
      simp only [List.map_cons, List.findIdx?_cons]
      by_cases q : NestedKey.beq (nk a) (nk k) = true
      · rw [if_pos q, if_pos q]
        exact .cons h1 h2 h3 rv ry r
      · rw [if_neg q, if_neg q]
        cases f : List.findIdx? (fun j => NestedKey.beq j (nk k)) (List.map (fun kv => nk kv.1) kvs) with
        | none =>
          rw [f] at ih
          exact .cons h1 h2 h3 h4 h5 ih
        | some i =>
          rw [f] at ih
          exact .cons h1 h2 h3 h4 h5 ih
theorem putK_keys (kvs : List (D × D)) (k d : D) : (putK kvs k d).map (·.1) = if ((kvs.map fun kv => nk kv.1).any fun j => NestedKey.beq j (nk k)) = true then kvs.map (·.1) else kvs.map (·.1) ++ [k] := by
  induction kvs with
  | nil => rfl
  | cons kv kvs ih =>
    obtain ⟨a, z⟩ := kv
    unfold putK
    by_cases q : NestedKey.beq (nk a) (nk k) = true
    · simp [q]
    · rw [if_neg q, List.map_cons, ih]
      have q' : NestedKey.beq (nk a) (nk k) = false := by simpa using q
      simp only [List.map_cons, List.any_cons, q', Bool.false_or]
      split <;> simp
theorem putK_len (kvs : List (D × D)) (k d : D) : (putK kvs k d).length ≤ kvs.length + 1 := by
  have := congrArg List.length (putK_keys kvs k d)
  rw [List.length_map] at this
  rw [this]
  split <;> simp
theorem dOk_put {kvs : List (D × D)} {k d : D} (h : dOk (kvs.map (·.1)) = true) (hs : sortB (kvs.map (·.1)) k = true) : dOk ((putK kvs k d).map (·.1)) = true := by
  rw [putK_keys]
  split
  · exact h
  · rename_i q
    unfold dOk at h ⊢
    obtain ⟨h1, h2⟩ := Bool.and_eq_true_iff.mp h
    rw [Bool.and_eq_true]
    constructor
    · unfold sortB at hs
      rw [List.all_append, List.all_append]
      rcases Bool.or_eq_true_iff.mp hs with z | z
      · obtain ⟨z1, z2⟩ := Bool.and_eq_true_iff.mp z
        simp [z1, z2]
      · obtain ⟨z1, z2⟩ := Bool.and_eq_true_iff.mp z
        simp [z1, z2]
    · rw [nodupN_ok] at h2 ⊢
      rw [List.map_append, List.nodup_append]
      refine ⟨h2, by simp, fun a ha b hb => ?_⟩
      simp only [List.map_cons, List.map_nil, List.mem_singleton] at hb
      subst hb
      intro e
      subst e
      apply q
      rw [List.any_eq_true]
      refine ⟨nk k, ?_, NestedKey.beq_self _⟩
      rwa [List.map_map] at ha
end
end BF
set_option Elab.async false
set_option linter.all false
set_option autoImplicit false
set_option maxRecDepth 100000
set_option maxHeartbeats 2000000
namespace BF
open PySem PySem.Spec PyProof.Rows L2
/-- a value that is a dict, read at once -/
def DcV (K : Env1) (F H : Hp) (y : V) (kvs : List (D × D)) : Prop := ∃ a es ep, y = .ref a ∧ H a = some (rawD a es ep) ∧ RepK K F es.toList kvs ∧ dOk (kvs.map (·.1)) = true
theorem RH.dct {K : Env1} {F H : Hp} {v : V} {kvs : List (D × D)} (l : Le F H) (h : RH K F H v (.dct kvs)) : DcV K F H v kvs := by
  rcases h with h | ⟨p, rfl, es, ep, h1, h2, h3⟩
  · cases h with
    | dct h1 h2 h3 => exact ⟨_, _, _, rfl, l _ _ h1, h2, h3⟩
  · exact ⟨p, es, ep, rfl, h1, h2, h3⟩
theorem RH.key {K : Env1} {F H : Hp} {v : V} {d : D} {ks : List D} (h : RH K F H v d) (hs : sortB ks d = true) : Rep K F v d := by
  rcases h with h | ⟨p, rfl, h⟩
  · exact h
  · cases d <;> first | exact h.elim | (simp [sortB, leafK, tupK] at hs)
section
variable {X : Cx} {pins : List (Addr × Obj)} {σ : Sl} {F H : Hp} {s : Shared} {K : Env1}
theorem raw_at {a : Addr} {es : Array DictEntry} {ep : Nat} (I : Inv X pins σ H s) (h : H a = some (rawD a es ep)) : s.heap.DictRaw a es ep ∧ (a == sysModules) = false ∧ es.size ≤ sizeLine := (I.hok a _ h).1
/-- y in d, y not in d -/
def rDin (K : Env1) (neg : Bool) : R2 := fun x y H Q => ∃ F kvs d, Le F H ∧ Rep K F x d ∧ DcV K F H y kvs ∧ sortB (kvs.map (·.1)) d = true ∧ Q (.bl (if neg = true then !(getK kvs d).isSome else (getK kvs d).isSome)) H
theorem atK_some {es : Array DictEntry} {kvs : List (D × D)} {k : D} (r : RepK K F es.toList kvs) : (atK es (kvs.map fun kv => nk kv.1) (nk k)).isSome = (getK kvs k).isSome := by
  have q := atK_of (k := k) r
  have e : atK es (kvs.map fun kv => nk kv.1) (nk k) = (((kvs.map fun kv => nk kv.1).findIdx? fun j => NestedKey.beq j (nk k)).bind fun i => es.toList[i]?.map (·.val)) := by simp [atK]
  cases g : getK kvs k with
  | none => rw [g] at q; rw [e, q]; rfl
  | some d => rw [g] at q; obtain ⟨u, v, q, _⟩ := q; rw [e, q]; rfl
theorem atK_val {es : Array DictEntry} {kvs : List (D × D)} {k d : D} (r : RepK K F es.toList kvs) (g : getK kvs k = some d) : ∃ u v, atK es (kvs.map fun kv => nk kv.1) (nk k) = some u ∧ RelV v u ∧ Rep K F v d := by
  have q := atK_of (k := k) r
  have e : atK es (kvs.map fun kv => nk kv.1) (nk k) = (((kvs.map fun kv => nk kv.1).findIdx? fun j => NestedKey.beq j (nk k)).bind fun i => es.toList[i]?.map (·.val)) := by simp [atK]
  rw [g] at q
  obtain ⟨u, v, q, q2⟩ := q
  exact ⟨u, v, by rw [e, q], q2⟩
theorem op_dIn (hu : X.A.units + 65 < cLine) (hk : K.K = X.K) (hw : K.w = X.w) (neg : Bool) : OpR X (compareOp (if neg = true then .NotIn else .In)) (rDin K neg) := by
  intro pins s σ H x y v u Q I rx ry h
  obtain ⟨F, kvs, d, l, rd, ⟨a, es, ep, rfl, ha, rk, ok⟩, hs, q⟩ := h
  obtain rfl : u = .ref a := ry
  obtain ⟨h1, h2, _⟩ := raw_at I ha
  obtain ⟨n1, n2⟩ := nested_of I hk l 8 (sortB_keyN hs) rd rx
  refine raw_contains (neg := neg) (by omega) h2 h1 (rawk_of I hk hw l rk ok) n1 n2 (sort_of rk hs rd rx) fun tk => ?_
  rw [atK_some rk]
  exact ⟨.bl _, H, I.tok tk, rfl, q⟩
/-- d[y] -/
def rDix (K : Env1) : R2 := fun x y H Q => ∃ F kvs d e, Le F H ∧ DcV K F H x kvs ∧ Rep K F y d ∧ sortB (kvs.map (·.1)) d = true ∧ getK kvs d = some e ∧ ∀ v, Rep K F v e → Q v H
theorem ix_dict (hu : X.A.units + 65 < cLine) (hk : K.K = X.K) (hw : K.w = X.w) : IxR X (rDix K) := by
  intro value slice pins s σ H x y v u Q I rx ry h hsl
  obtain ⟨F, kvs, d, e, l, ⟨a, es, ep, rfl, ha, rk, ok⟩, rd, hs, g, q⟩ := h
  obtain rfl : v = .ref a := rx
  obtain ⟨h1, h2, _⟩ := raw_at I ha
  obtain ⟨n1, n2⟩ := nested_of I hk l 8 (sortB_keyN hs) rd ry
  obtain ⟨w', z, e1, e2, e3⟩ := atK_val rk g
  have hT := h1.typeIs
  unfold subscriptTail
  refine wpAny_bind ?_
  rw [getitemInPython_of_ne hT.not_modules]
  refine wpAny_bind (wpAny_specialOf hT PySem.F.slot_dict_getitem.lookup ?_)
  have fin : wpAny (model X.prog X.w) X.A (subscripted slice false (.ref a) u) (fun r s₃ => wpAny (model X.prog X.w) X.A (letTemporaryGo value (.ref a) r >>= fun _ => pure r) (EP X pins σ Q) X.xe s₃) X.xe s := by
    rw [hsl]
    exact wpAny_operating (raw_getItem (by omega) h1 (rawk_of I hk hw l rk ok) n1 n2 (sort_of rk hs rd ry) e1 fun tk => wpAny_bind (wpAny_letTemporaryGo (wpAny_pure ⟨z, H, I.tok tk, e2, q z e3⟩)))
  first
    | exact wpAny_pure (wpAny_bind fin)
    | exact wpAny_bind (wpAny_pure (wpAny_bind fin))
    | exact wpAny_bind fin
/-- len(d) -/
def rDlen (K : Env1) : List V → Hp → VK → Prop := fun xs H Q => ∃ F y kvs, xs = [y] ∧ DcV K F H y kvs ∧ Q (.int kvs.length) H
theorem raw_len {prog : Program} {w : World} {A : Around} {E : Value → Shared → Prop} {s : Shared} {d : Addr} {es : Array DictEntry} {ep : Nat} {Q : Value → Shared → Prop} (hd : (d == sysModules) = false) (hm : s.heap.DictRaw d es ep) (hfit : es.size ≤ sizeLine)
    (h : Q (.int es.size (s.toks + 1)) { s with toks := s.toks + 1 + 1 }) : wpAny (model prog w) A (Builtin.«len» ⟨[.ref d], []⟩) (fun fin s' => ∃ r, fin = .done (.ret r) ∧ Q r s') E s := by
  have hl := line63
  unfold Builtin.«len»
  refine wpAny_bind (m := oneArg "len" _) (wpAny_pure ?_)
  refine wpAny_bind (m := callSpecial? (.ref d) (Str.ofString "__len__")) (wpAny_callSpecial?_slot (name := Str.ofString "__len__") hm.typeIs PySem.F.slot_dict_len
    (call_meetsIn PySem.F.slot_dict_len hm.typeIs PySem.F.entry_dict_len (PySem.F.args_dict_len_1 _) (meets_dict_len_raw d hd) ⟨es, ep, hm, ?_⟩))
  show wpAny _ _ _ _ _ { s with toks := s.toks + 1 }
  refine wpAny_bind (wpAny_holding (wpAny_pure ?_))
  refine wpAny_bind (wpAny_letGo ?_)
  show wpAny _ _ (if ((es.size : Nat) : Int) < 0 then _ else _) _ _ _
  rw [if_neg (by omega)]
  show wpAny _ _ (if ((es.size : Nat) : Int) ≥ 2 ^ 63 then _ else _) _ _ _
  rw [if_neg (by omega)]
  exact wpAny_bind (wpAny_mkInt (wpAny_pure ⟨_, rfl, h⟩))
theorem call_dlen : CallR X (.builtin "len") (rDlen K) := by
  intro pins s σ H xs us Q I r h
  obtain ⟨F, y, kvs, rfl, ⟨a, es, ep, rfl, ha, rk, ok⟩, q⟩ := h
  obtain ⟨u, rfl, rx⟩ := vals1 r
  obtain rfl : u = .ref a := rx
  obtain ⟨h1, h2, h3⟩ := raw_at I ha
  have hl : es.size = kvs.length := by rw [← rk.length]; simp
  rw [← hl] at q
  exact Calls.call_function_entry kind_len plain_len entry_len (args_len1 _) (raw_len h2 h1 h3 ⟨.int _, H, I.tok _, ⟨_, rfl⟩, q⟩)
/-- d[k] = v -/
def rSetD (K : Env1) : V → V → V → Hp → (Hp → Prop) → Prop := fun o i v H Q => ∃ F p es ep kvs k d, Le F H ∧ F p = none ∧ o = .ref p ∧ H p = some (rawD p es ep) ∧ RepK K F es.toList kvs ∧ dOk (kvs.map (·.1)) = true ∧ Rep K F i k ∧ Rep K F v d ∧ sortB (kvs.map (·.1)) k = true ∧ kvs.length < sizeLine ∧
  ∀ es' ep', RepK K F es'.toList (putK kvs k d) → Q (upd H p (rawD p es' ep'))
theorem set_dict (hu : X.A.units + 65 < cLine) (hk : K.K = X.K) (hw : K.w = X.w) : PSet X (rSetD K) := by
  intro pins s σ H o i v ov iv u Q I ro ri rv h
  obtain ⟨F, p, es, ep, kvs, k, d, l, fp, rfl, hp, rk, ok, rki, rd, hs, hz, q⟩ := h
  obtain rfl : ov = .ref p := ro
  obtain ⟨h1, h2, h3⟩ := raw_at I hp
  obtain ⟨n1, n2⟩ := nested_of I hk l 8 (sortB_keyN hs) rki ri
  have hl : es.size = kvs.length := by rw [← rk.length]; simp
  refine raw_setItem (by omega) h1 (rawk_of I hk hw l rk ok) n1 n2 (sort_of rk hs rki ri) h3 fun h' ep' tk hd' sb => ?_
  have rp : RepK K F (putE es (kvs.map fun kv => nk kv.1) (nk k) X.w iv u).toList (putK kvs k d) := by
    have := putE_of (k := k) (d := d) rk rki ri rd rv
    unfold putE
    rw [← hw]
    cases e : List.findIdx? (fun j => NestedKey.beq j (nk k)) (List.map (fun kv => nk kv.1) kvs) with
    | none => rw [e] at this; simpa using this
    | some j => rw [e] at this; simpa using this
  have hl2 : (putE es (kvs.map fun kv => nk kv.1) (nk k) X.w iv u).size = (putK kvs k d).length := by rw [← rp.length]; simp
  have := putK_len kvs k d
  refine ⟨_, ?_, q _ ep' rp⟩
  obtain ⟨o', g1, g2⟩ := id hd'
  refine d_write I (by rw [hp]; exact True.intro) sb ⟨o', g1⟩ ⟨⟨hd', h2, by omega⟩, ⟨o', g1⟩, fun h1 h2 q e => ⟨q.1.at e, q.2⟩⟩
end
/-! ### operations -/
def inO2 : D → D → Option Ov
  | x, .dct kvs => if sortB (kvs.map (·.1)) x = true then sc (.bl (getK kvs x).isSome) else none
  | x, y => inO x y
def ninO2 : D → D → Option Ov
  | x, .dct kvs => if sortB (kvs.map (·.1)) x = true then sc (.bl (!(getK kvs x).isSome)) else none
  | x, y => ninO x y
def ixO2 : D → D → Option Ov
  | .dct kvs, k => if sortB (kvs.map (·.1)) k = true then (getK kvs k).map .vl else none
  | x, y => ixO x y
def lenO2 : D → Option Ov
  | .dct kvs => sc (.int kvs.length)
  | d => lenO d
section
variable {K : Env1}
theorem op2_in2 : Op2 K inO2 (fun x y H Q => (rInD K.K x y H Q ∨ rInT K.K x y H Q) ∨ rDin K false x y H Q) := by
  intro F H v w d e res Q l hd he ho hc
  unfold inO2 at ho
  split at ho
  · split at ho
    · rename_i hs
      exact .inr ⟨F, _, _, l, hd.key hs, he.dct l, hs, hc.sc ho (.bl _)⟩
    · cases ho
  · exact .inl (op2_in F H v w d e res Q l hd he ho hc)
theorem op2_nin2 : Op2 K ninO2 (fun x y H Q => (rNotInD K.K x y H Q ∨ rNotInT K.K x y H Q) ∨ rDin K true x y H Q) := by
  intro F H v w d e res Q l hd he ho hc
  unfold ninO2 at ho
  split at ho
  · split at ho
    · rename_i hs
      exact .inr ⟨F, _, _, l, hd.key hs, he.dct l, hs, hc.sc ho (.bl _)⟩
    · cases ho
  · exact .inl (op2_nin F H v w d e res Q l hd he ho hc)
theorem op2_ix2 : Op2 K ixO2 (fun x y H Q => rIx K.K x y H Q ∨ rDix K x y H Q) := by
  intro F H v w d e res Q l hd he ho hc
  unfold ixO2 at ho
  split at ho
  · split at ho
    · rename_i kvs hs
      cases g : getK kvs e with
      | none => rw [g] at ho; cases ho
      | some z =>
        rw [g] at ho
        cases ho
        exact .inr ⟨F, kvs, e, z, l, hd.dct l, he.key hs, hs, g, fun v r => hc.1 v r⟩
    · cases ho
  · exact .inl (op2_ix F H v w d e res Q l hd he ho hc)
theorem opn_len2 : Opn K (one lenO2) (fun xs H Q => ((∃ p ys, xs = [.ref p] ∧ (SqL K.K H p ys ∨ SqT K.K H p ys) ∧ Q (.int ys.length) H) ∨ ∃ z, xs = [.str z] ∧ z.length ≤ sizeLine ∧ Q (.int z.length) H) ∨ rDlen K xs H Q) := opn_one fun F H v d res Q l hd ho hc => by
  unfold lenO2 at ho
  split at ho
  · exact .inr ⟨F, v, _, rfl, hd.dct l, hc.sc ho (.int _)⟩
  · exact .inl (opn_len F H [v] [_] res Q l (.cons hd .nil) ho hc)
end
theorem IxR.or {X : Cx} {r r' : R2} (h : IxR X r) (h' : IxR X r') : IxR X (fun x y H Q => r x y H Q ∨ r' x y H Q) := by
  intro value slice pins s σ H x y v u Q I rx ry q
  rcases q with q | q
  · exact h value slice pins s σ H x y v u Q I rx ry q
  · exact h' value slice pins s σ H x y v u Q I rx ry q
theorem PSet.or {X : Cx} {r r' : V → V → V → Hp → (Hp → Prop) → Prop} (h : PSet X r) (h' : PSet X r') : PSet X (fun o i v H Q => r o i v H Q ∨ r' o i v H Q) := by
  intro pins s σ H o i v ov iv u Q I ro ri rv q
  rcases q with q | q
  · exact h pins s σ H o i v ov iv u Q I ro ri rv q
  · exact h' pins s σ H o i v ov iv u Q I ro ri rv q
end BF
set_option Elab.async false
set_option linter.all false
set_option autoImplicit false
set_option maxRecDepth 100000
set_option maxHeartbeats 2000000
namespace BF
open PySem PySem.Spec PyProof.Rows L2
/-! ### enumerate(v), enumerate(v, k): a list or a tuple -/
theorem meets_enum1 {v : Value} {o : Obj} {H : Heap → Prop} (B : Begins v o H) :
    Meets (Builtin.«enumerate.__new__» ⟨[.type "enumerate", v], []⟩) (fun _ R s => H s.heap ∧
      R (.ok (.ret (.ref (s.heap.push o).objs.size))) { s with heap := (s.heap.push o).push { cls := .type "enumerate", data := .fields #[.none, .bool false, .ref s.heap.objs.size, rawInt 0, .none, .none] } }) :=
  .of_wp fun prog w A R s h => by
    obtain ⟨hp, g, d, tk, os⟩ := s; obtain ⟨h1, h⟩ := h
    have hsub := sub_enumerate
    have q1 : ∀ {A' : Around} {E : Value → Shared → Prop} {Q : Value → Shared → Prop}, Q (.ref hp.objs.size) ⟨hp.push o, g, d, tk, os⟩ → wpAny (model prog w) A' (pyIter v) Q E ⟨hp, g, d, tk, os⟩ :=
      fun q => B.iter prog w _ _ ⟨hp, g, d, tk, os⟩ _ h1 q
    wp_walk using q1
    refine wpAny_stack_any fun st => wpAny_pure ?_
    split
    · rename_i c _ _ _ _ _
      cases (c == Value.type "enumerate")
      · wp_walk using q1
        exact ⟨_, rfl, h⟩
      · wp_walk using q1
        exact ⟨_, rfl, h⟩
    · wp_walk using q1
      exact ⟨_, rfl, h⟩
section
variable {prog : Program} {w : World} {A : Around} {E : Value → Shared → Prop} {s : Shared}
theorem enum_begins1 {v : Value} {o : Obj} {H : Heap → Prop} {Q : Value → Shared → Prop} (B : Begins v o H) (h1 : H s.heap)
    (h : ∀ h', IsEnum h' (s.heap.objs.size + 1) s.heap.objs.size 0 .none → h'.get? s.heap.objs.size = some o → h'.objs.size = s.heap.objs.size + 2 →
      (∀ b o, s.heap.get? b = some o → h'.get? b = some o) → Q (.ref (s.heap.objs.size + 1)) { s with heap := h' }) :
    wpAny (model prog w) A (call (.type "enumerate") [v]) Q E s := by
  refine callType_new F.called_enumerate (by decide) (F.typeCall_enumerate_1 _) (F.newCall_enumerate_1 _) (fun obj => F.args_object_init_2 obj _) F.entry_enumerate_new
    (meets_enum1 B) ⟨h1, ?_⟩
  have hz : (s.heap.push o).objs.size = s.heap.objs.size + 1 := Heap.size_push ..
  show _ ∧ _
  rw [hz]
  have he : IsEnum ((s.heap.push o).push { cls := .type "enumerate", data := .fields #[.none, .bool false, .ref s.heap.objs.size, rawInt 0, .none, .none] }) (s.heap.objs.size + 1) s.heap.objs.size 0 .none := by
    have := Heap.get?_push_size (s.heap.push o) (o := { cls := .type "enumerate", data := .fields #[.none, .bool false, .ref s.heap.objs.size, rawInt 0, .none, .none] }) rfl
    rw [hz] at this; exact this
  refine ⟨⟨_, he, rfl⟩, h _ he (Heap.get?_push_of_some _ (Heap.get?_push_size _ B.free)) (by rw [Heap.size_push, hz]) fun b o x => Heap.get?_push_of_some _ (Heap.get?_push_of_some _ x)⟩
end

theorem enum_endL {prog : Program} {w : World} {A : Around} {E : Value → Shared → Prop} {s : Shared} {e it l : Addr} {c : Int} {i : Nat} {items : Array Value} {old : Value} {Q : Option Value → Shared → Prop} (hh : A.handled = none)
    (he : IsEnum s.heap e it c old) (hit : s.heap.IsListIter it l i) (hL : s.heap.IsList l items) (hi : items.size ≤ i) (hQ : ∀ h', Heap.ExtBut it s.heap h' → Q none { s with heap := h' }) : wpAny (model prog w) A (pyNext (.ref e)) Q E s := by
  have hx : items[i]? = none := Array.getElem?_eq_none hi
  have hT : s.TypeIs (.ref e) "enumerate" := ⟨_, he, rfl⟩
  unfold pyNext
  refine wpAny_bind (wpAny_attempt (wpAny_callSpecial?_slot (name := Str.ofString "__next__") hT F.slot_enumerate_next
    (wpAny_call_entry F.slot_enumerate_next hT F.entry_enumerate_next ?_ (F.args_enumerate_next_1 _))))
  show wpAny _ _ (field (.ref e) 2 >>= _) _ _ _
  refine wpAny_bind (wpAny_field he rfl (x := .ref it) rfl ?_)
  refine wpAny_bind (wpAny_nextOf_list_end (show A.in1.handled = none from hh) hit hL hx fun h' x he' hx' => ?_)
  obtain ⟨o, ho, hc⟩ := hx'
  refine wpAny_bind (wpAny_isInstance (T := "StopIteration") (b := true) ⟨o, ho, hc⟩ isSubtype_stop ?_)
  exact wpAny_pure (hQ _ he')

def IteL (K : PySem.W.Frag) (a : Addr) (c : Int) : It :=
  ⟨fun i H => ∃ (xs : List V) (x : V), SqL K H a xs ∧ xs[i]? = some x, fun i H v H' => ∃ T x, v = .ref T ∧ H T = none ∧ H' = upd H T (.tup [.int (c + (i : Nat)), x]) ∧ ∀ xs, SqL K H a xs → xs[i]? = some x, fun i H => ∃ xs : List V, SqL K H a xs ∧ xs.length ≤ i⟩
theorem turn_enumL {P : Program} {w : World} {K : PySem.W.Frag} {elts : List Expr} {kk : Nat} {tpos : Pos} (c : Int) (a e it : Addr) :
    Turn P w K (.Tuple elts kk tpos) (IteL K a c) [e, it] e (fun i h => (∃ old, IsEnum h e it (c + ((i : Nat) : Int)) old) ∧ h.IsListIter it a i ∧ e ≠ it) where
  mem := by simp
  obj := fun i h st b hb => by
    obtain ⟨⟨old, he⟩, ⟨o, ho, hc, hd⟩, _⟩ := st
    have e' : b = e ∨ b = it := by simpa using hb
    rcases e' with z | z
    · rw [z]; exact ⟨_, he, fun v q => nomatch q⟩
    · rw [z]; exact ⟨o, ho, fun v q => by rw [hd] at q; cases q⟩
  keep := fun i h h' st k => let ⟨⟨old, he⟩, hi, hne⟩ := st; ⟨⟨old, k e (by simp) _ he⟩, hi.at fun o q => k it (by simp) o q, hne⟩
  item := by
    intro X hP hw hK hc i pins s σ H E I hf st hg
    subst hP hw hK
    obtain ⟨⟨old, he⟩, hit, hne⟩ := st
    obtain ⟨xs, x, hq, hx⟩ := hg
    obtain ⟨its, rv, p, hz⟩ := I.list hq
    obtain ⟨u, hu, ru⟩ := rv.get hx
    have hel : e < s.heap.objs.size := Heap.lt_size he
    have hil : it < s.heap.objs.size := by obtain ⟨_, q, _⟩ := hit; exact Heap.lt_size q
    have hlen := rv.length
    have hil2 : i < its.toArray.size := by
      have h1 := lt_of_get hu
      simpa using h1
    have PL : s.heap.IsList a its.toArray := p.isList
    have hal : a ≠ it := fun z => by
      obtain ⟨o1, q1, c1, _⟩ := PL
      obtain ⟨o2, q2, c2, _⟩ := hit
      rw [z, q2] at q1; cases q1
      rw [c1] at c2; injection c2 with c3; exact absurd c3 (by decide)
    have hae : e ∉ [it, a] := fun z => by
      have e' : e = it ∨ e = a := by simpa using z
      rcases e' with z | z
      · exact hne z
      · obtain ⟨o1, q1, c1, _⟩ := PL
        rw [← z] at q1
        rw [show s.heap.get? e = some _ from he] at q1; cases q1
        injection c1 with c3; exact absurd c3 (by decide)
    refine wpAny_pyNext_enum_itemC (Draws.list (show X.A.in1.handled = none from I.ok.hd hc) it a hal its.toArray) he ⟨hit, PL⟩ hil2 hne hae fun y h' tk hy ho hit' hT hsz hk => ?_
    have ey : y = u := by
      have : its.toArray[i]? = some u := by simpa using hu
      rw [hy] at this; cases this; rfl
    subst ey
    refine ⟨_, rfl, wpAny_letOwnedTupleGo_enum (s := { s with heap := h', toks := tk + 1 }) ho fun h'' he' sb => ?_⟩
    have hT2 : h''.get? s.heap.objs.size = some { cls := .type "tuple", data := .seq #[.int (c + (i : Int)) tk, y] } := (sb.2 _ (Nat.ne_of_gt hel)).trans hT
    have new : ObjOk X.prog X.w (upd H s.heap.objs.size (.tup [.int (c + (i : Nat)), x])) h'' s.heap.objs.size (.tup [.int (c + (i : Nat)), x]) :=
      ⟨by show 2 ≤ sizeLine; decide, [.int (c + (i : Int)) tk, y], .cons ⟨_, rfl⟩ (.cons ru .nil), ⟨_, hT2, rfl, _, rfl⟩⟩
    have I1 : Inv X pins σ (upd H s.heap.objs.size (.tup [.int (c + (i : Nat)), x])) { s with heap := h'', toks := tk + 1 } :=
      I.turnedNew (ch := [e, it]) (fun b ob hb q => (sb.2 b (fun z => hb (by simp [z]))).trans (hk b ob (fun z => hb (by simp [z])) (fun z => hb (by simp [z])) q)) hf (Nat.le_refl _) new
    refine ⟨.ref s.heap.objs.size, _, I1, rfl, ⟨_, x, rfl, I.hok.fresh (Nat.le_refl _), rfl, fun ys hy => by rw [I.list_inj hy hq]; exact hx⟩, ⟨⟨y, ?_⟩, hit'.1.at fun o q => (sb.2 it (Ne.symm hne)).trans q, hne⟩, fun b hb => ?_⟩
    · have e1 : c + ((i + 1 : Nat) : Int) = c + (i : Int) + 1 := by omega
      rw [e1]; exact he'
    · have hb' : b < s.heap.objs.size := by
        have e' : b = e ∨ b = it := by simpa using hb
        rcases e' with z | z
        · rw [z]; exact hel
        · rw [z]; exact hil
      rw [upd_ne (Nat.ne_of_lt hb')]
      exact (hf b hb).1
  done := by
    intro X hP hw hK hc i pins s σ H E I hf st hg
    subst hP hw hK
    obtain ⟨⟨old, he⟩, hit, hne⟩ := st
    obtain ⟨xs, hq, hx⟩ := hg
    obtain ⟨its, rv, p, hz⟩ := I.list hq
    obtain ⟨f0, f1, f2, f3, f4, f5⟩ := hf it (by simp)
    have hl := rv.length
    have PL : s.heap.IsList a its.toArray := p.isList
    have hle : its.toArray.size ≤ i := by simp; omega
    exact enum_endL (I.ok.hd hc) he hit PL hle fun h' eb => ⟨rfl, I.turned (t' := s.toks) (fun b o hb q => eb b o hb q) f0 f1 f3 f4 f5⟩
  self := fun A i s Q E st h => let ⟨⟨_, he⟩, _⟩ := st; wpAny_pyIter_enum he h
theorem walk_enumL {K : PySem.W.Frag} {a : Addr} {c : Int} {xs : List V} : Walk (IteL K a c) xs.length (fun H => SqL K H a xs) (YPair (fun i => some (.int (c + (i : Nat)))) (fun i => xs[i]?)) := by
  refine ⟨fun i H hi g => ⟨xs, xs[i], g, by simp [hi]⟩, fun H g => ⟨xs, g, Nat.le_refl _⟩, fun i H x H' hi g y => ?_⟩
  obtain ⟨T, z, e1, e2, e3, e4⟩ := y
  exact ⟨T, _, z, e1, e2, e3, rfl, e4 xs g⟩

theorem enum_endT {prog : Program} {w : World} {A : Around} {E : Value → Shared → Prop} {s : Shared} {e it l : Addr} {c : Int} {i : Nat} {items : Array Value} {old : Value} {Q : Option Value → Shared → Prop} (hh : A.handled = none)
    (he : IsEnum s.heap e it c old) (hit : s.heap.IsTupleIter it l i) (hL : s.heap.IsTuple l items) (hi : items.size ≤ i) (hQ : ∀ h', Heap.ExtBut it s.heap h' → Q none { s with heap := h' }) : wpAny (model prog w) A (pyNext (.ref e)) Q E s := by
  have hx : items[i]? = none := Array.getElem?_eq_none hi
  have hT : s.TypeIs (.ref e) "enumerate" := ⟨_, he, rfl⟩
  unfold pyNext
  refine wpAny_bind (wpAny_attempt (wpAny_callSpecial?_slot (name := Str.ofString "__next__") hT F.slot_enumerate_next
    (wpAny_call_entry F.slot_enumerate_next hT F.entry_enumerate_next ?_ (F.args_enumerate_next_1 _))))
  show wpAny _ _ (field (.ref e) 2 >>= _) _ _ _
  refine wpAny_bind (wpAny_field he rfl (x := .ref it) rfl ?_)
  refine wpAny_bind (wpAny_nextOf_tuple_end (show A.in1.handled = none from hh) hit hL hx fun h' x he' hx' => ?_)
  obtain ⟨o, ho, hc⟩ := hx'
  refine wpAny_bind (wpAny_isInstance (T := "StopIteration") (b := true) ⟨o, ho, hc⟩ isSubtype_stop ?_)
  exact wpAny_pure (hQ _ he')

def IteT (K : PySem.W.Frag) (a : Addr) (c : Int) : It :=
  ⟨fun i H => ∃ (xs : List V) (x : V), SqT K H a xs ∧ xs[i]? = some x, fun i H v H' => ∃ T x, v = .ref T ∧ H T = none ∧ H' = upd H T (.tup [.int (c + (i : Nat)), x]) ∧ ∀ xs, SqT K H a xs → xs[i]? = some x, fun i H => ∃ xs : List V, SqT K H a xs ∧ xs.length ≤ i⟩
theorem turn_enumT {P : Program} {w : World} {K : PySem.W.Frag} {elts : List Expr} {kk : Nat} {tpos : Pos} (c : Int) (a e it : Addr) :
    Turn P w K (.Tuple elts kk tpos) (IteT K a c) [e, it] e (fun i h => (∃ old, IsEnum h e it (c + ((i : Nat) : Int)) old) ∧ h.IsTupleIter it a i ∧ e ≠ it) where
  mem := by simp
  obj := fun i h st b hb => by
    obtain ⟨⟨old, he⟩, ⟨o, ho, hc, hd⟩, _⟩ := st
    have e' : b = e ∨ b = it := by simpa using hb
    rcases e' with z | z
    · rw [z]; exact ⟨_, he, fun v q => nomatch q⟩
    · rw [z]; exact ⟨o, ho, fun v q => by rw [hd] at q; cases q⟩
  keep := fun i h h' st k => let ⟨⟨old, he⟩, hi, hne⟩ := st; ⟨⟨old, k e (by simp) _ he⟩, hi.at fun o q => k it (by simp) o q, hne⟩
  item := by
    intro X hP hw hK hc i pins s σ H E I hf st hg
    subst hP hw hK
    obtain ⟨⟨old, he⟩, hit, hne⟩ := st
    obtain ⟨xs, x, hq, hx⟩ := hg
    obtain ⟨its, rv, p, hz⟩ := I.tuple hq
    obtain ⟨u, hu, ru⟩ := rv.get hx
    have hel : e < s.heap.objs.size := Heap.lt_size he
    have hil : it < s.heap.objs.size := by obtain ⟨_, q, _⟩ := hit; exact Heap.lt_size q
    have hlen := rv.length
    have hil2 : i < its.toArray.size := by
      have h1 := lt_of_get hu
      simpa using h1
    have PL : s.heap.IsTuple a its.toArray := p
    have hal : a ≠ it := fun z => by
      obtain ⟨o1, q1, c1, _⟩ := PL
      obtain ⟨o2, q2, c2, _⟩ := hit
      rw [z, q2] at q1; cases q1
      rw [c1] at c2; injection c2 with c3; exact absurd c3 (by decide)
    have hae : e ∉ [it, a] := fun z => by
      have e' : e = it ∨ e = a := by simpa using z
      rcases e' with z | z
      · exact hne z
      · obtain ⟨o1, q1, c1, _⟩ := PL
        rw [← z] at q1
        rw [show s.heap.get? e = some _ from he] at q1; cases q1
        injection c1 with c3; exact absurd c3 (by decide)
    refine wpAny_pyNext_enum_itemC (Draws.tuple (show X.A.in1.handled = none from I.ok.hd hc) it a hal its.toArray) he ⟨hit, PL⟩ hil2 hne hae fun y h' tk hy ho hit' hT hsz hk => ?_
    have ey : y = u := by
      have : its.toArray[i]? = some u := by simpa using hu
      rw [hy] at this; cases this; rfl
    subst ey
    refine ⟨_, rfl, wpAny_letOwnedTupleGo_enum (s := { s with heap := h', toks := tk + 1 }) ho fun h'' he' sb => ?_⟩
    have hT2 : h''.get? s.heap.objs.size = some { cls := .type "tuple", data := .seq #[.int (c + (i : Int)) tk, y] } := (sb.2 _ (Nat.ne_of_gt hel)).trans hT
    have new : ObjOk X.prog X.w (upd H s.heap.objs.size (.tup [.int (c + (i : Nat)), x])) h'' s.heap.objs.size (.tup [.int (c + (i : Nat)), x]) :=
      ⟨by show 2 ≤ sizeLine; decide, [.int (c + (i : Int)) tk, y], .cons ⟨_, rfl⟩ (.cons ru .nil), ⟨_, hT2, rfl, _, rfl⟩⟩
    have I1 : Inv X pins σ (upd H s.heap.objs.size (.tup [.int (c + (i : Nat)), x])) { s with heap := h'', toks := tk + 1 } :=
      I.turnedNew (ch := [e, it]) (fun b ob hb q => (sb.2 b (fun z => hb (by simp [z]))).trans (hk b ob (fun z => hb (by simp [z])) (fun z => hb (by simp [z])) q)) hf (Nat.le_refl _) new
    refine ⟨.ref s.heap.objs.size, _, I1, rfl, ⟨_, x, rfl, I.hok.fresh (Nat.le_refl _), rfl, fun ys hy => by rw [I.tuple_inj hy hq]; exact hx⟩, ⟨⟨y, ?_⟩, hit'.1.at fun o q => (sb.2 it (Ne.symm hne)).trans q, hne⟩, fun b hb => ?_⟩
    · have e1 : c + ((i + 1 : Nat) : Int) = c + (i : Int) + 1 := by omega
      rw [e1]; exact he'
    · have hb' : b < s.heap.objs.size := by
        have e' : b = e ∨ b = it := by simpa using hb
        rcases e' with z | z
        · rw [z]; exact hel
        · rw [z]; exact hil
      rw [upd_ne (Nat.ne_of_lt hb')]
      exact (hf b hb).1
  done := by
    intro X hP hw hK hc i pins s σ H E I hf st hg
    subst hP hw hK
    obtain ⟨⟨old, he⟩, hit, hne⟩ := st
    obtain ⟨xs, hq, hx⟩ := hg
    obtain ⟨its, rv, p, hz⟩ := I.tuple hq
    obtain ⟨f0, f1, f2, f3, f4, f5⟩ := hf it (by simp)
    have hl := rv.length
    have PL : s.heap.IsTuple a its.toArray := p
    have hle : its.toArray.size ≤ i := by simp; omega
    exact enum_endT (I.ok.hd hc) he hit PL hle fun h' eb => ⟨rfl, I.turned (t' := s.toks) (fun b o hb q => eb b o hb q) f0 f1 f3 f4 f5⟩
  self := fun A i s Q E st h => let ⟨⟨_, he⟩, _⟩ := st; wpAny_pyIter_enum he h
theorem walk_enumT {K : PySem.W.Frag} {a : Addr} {c : Int} {xs : List V} : Walk (IteT K a c) xs.length (fun H => SqT K H a xs) (YPair (fun i => some (.int (c + (i : Nat)))) (fun i => xs[i]?)) := by
  refine ⟨fun i H hi g => ⟨xs, xs[i], g, by simp [hi]⟩, fun H g => ⟨xs, g, Nat.le_refl _⟩, fun i H x H' hi g y => ?_⟩
  obtain ⟨T, z, e1, e2, e3, e4⟩ := y
  exact ⟨T, _, z, e1, e2, e3, rfl, e4 xs g⟩
end BF
set_option Elab.async false
set_option linter.all false
set_option autoImplicit false
set_option maxRecDepth 100000
set_option maxHeartbeats 2000000
namespace BF
open PySem PySem.Spec PyProof.Rows L2
/-! ### what is walked -/
def Yd (K : Env1) (F : Hp) (ds : List D) : Nat → Hp → V → Hp → Prop := fun i H x H' => ∃ d, ds[i]? = some d ∧ ((H' = H ∧ Rep K F x d) ∨ ∃ p vs es, d = .tup es ∧ x = .ref p ∧ H p = none ∧ H' = upd H p (.tup vs) ∧ Reps K F vs es)
def ItD (K : Env1) (F : Hp) (ds : List D) (J : It) : Prop := Walk J ds.length (Le F) (Yd K F ds)
def wpI (X : Cx) (tg iter : Expr) : TI := fun σ H R => ∀ (pins : List (Addr × Obj)) (s : Shared), Inv X pins σ H s → wpAny (model X.prog X.w) X.A (eval iter X.env) (fun v s1 => wpAny (model X.prog X.w) X.A (pyIter v) (PIE X pins σ tg R) X.xe s1) X.xe s
theorem pi_self (X : Cx) (tg iter : Expr) : PI X tg iter (wpI X tg iter) := ⟨fun pins s σ H R I h => h pins s I⟩
theorem wpI_of {X : Cx} {tg iter : Expr} {wi : TI} {σ : Sl} {H : Hp} {R : It → Hp → Prop} (h : PI X tg iter wi) (q : wi σ H R) : wpI X tg iter σ H R := fun pins s I => h.run pins s σ H R I q
section
variable {G : Type}
def PstI (K : Env1) (T : Gt G) (W : WX1) (F H : Hp) (s : Sg G) (σ : Sl) (r : Rs G (List D)) (Q : It → Hp → Prop) : Prop := match r with
  | .ok ds s' => ∀ J F' H', Stp T F H s σ F' H' s' σ → Rl K T F' H' s' σ → ItD K F' ds J → Q J H'
  | .er x g => PstX K T W F H s σ x g
  | .no => False
def SI (X : Cx) (K : Env1) (T : Gt G) (W : WX1) (tg iter : Expr) (f : Sg G → Rs G (List D)) : Prop := ∀ F H σ s R, Rl K T F H s σ → PstI K T W F H s σ (f s) R → wpI X tg iter σ H R
/-- what a loop over data goes over -/
def seqO : D → Option (List D)
  | .lst ds => some ds
  | .tup ds => some ds
  | .dct kvs => some (kvs.map (·.1))
  | _ => none
def evSeq (fa : Sg G → Rs G Ov) (s : Sg G) : Rs G (List D) := (fa s).bind fun x s1 => (use s1 x).bind fun d s2 => match seqO d with
  | some ds => .ok ds s2
  | none => .no
def intsD (lo : Int) (n : Nat) : List D := (List.range n).map fun i => .int (lo + (i : Nat))
def evRg1 (f : Sg G → Rs G (List Ov)) (s : Sg G) : Rs G (List D) := (f s).bind fun xs s1 => match pks s1 xs with
  | some [.int j] => if rgB j = true then .ok (intsD 0 j.toNat) s1 else .no
  | _ => .no
def evRg2 (f : Sg G → Rs G (List Ov)) (s : Sg G) : Rs G (List D) := (f s).bind fun xs s1 => match pks s1 xs with
  | some [.int i, .int j] => if rgB i = true ∧ rgB j = true then .ok (intsD i (j - i).toNat) s1 else .no
  | _ => .no
def enumL (c : Int) : List D → List D
  | [] => []
  | d :: ds => .tup [.int c, d] :: enumL (c + 1) ds
def evEnum (c : Int) (fa : Sg G → Rs G Ov) (s : Sg G) : Rs G (List D) := (fa s).bind fun x s1 => (use s1 x).bind fun d s2 => match d with
  | .lst ds => .ok (enumL c ds) s2
  | .tup ds => .ok (enumL c ds) s2
  | _ => .no
theorem enumL_len (ds : List D) : ∀ c, (enumL c ds).length = ds.length := by
  induction ds with
  | nil => intro c; rfl
  | cons d ds ih => intro c; show (enumL (c + 1) ds).length + 1 = _; rw [ih]; rfl
theorem enumL_get (ds : List D) : ∀ (c : Int) (i : Nat), (enumL c ds)[i]? = (ds[i]?).map fun d => .tup [.int (c + (i : Nat)), d] := by
  induction ds with
  | nil => intro c i; simp [enumL]
  | cons d ds ih =>
    intro c i
    cases i with
    | zero => simp [enumL]
    | succ i =>
      show (enumL (c + 1) ds)[i]? = _
      rw [ih]
      simp only [List.getElem?_cons_succ]
      congr 1
      funext d
      have e : c + 1 + ((i : Nat) : Int) = c + ((i + 1 : Nat) : Int) := by omega
      rw [e]
theorem use_ok {s s' : Sg G} {x : Ov} (y : Er) (g : G) : use s x ≠ .er y g := by
  cases x with
  | vl d => exact fun z => nomatch z
  | fr d => exact fun z => nomatch z
  | pl i =>
    intro z
    have z : (match look s i with
      | some d => Rs.ok d (frzS s i)
      | none => Rs.no) = .er y g := z
    split at z <;> cases z
end
section
variable {G : Type} {X : Cx} {K : Env1} {T : Gt G} {W : WX1} {tg a b c e : Expr} {es : List Expr} {fa fb fc : Sg G → Rs G Ov} {fl : Sg G → Rs G (List Ov)} {pos p2 p3 : Pos} {F H F1 H1 : Hp} {s s1 : Sg G} {σ : Sl}
theorem PstI.step {r : Rs G (List D)} {Q : It → Hp → Prop} (S : Stp T F H s σ F1 H1 s1 σ) (R : Rl K T F H s σ) (R1 : Rl K T F1 H1 s1 σ) (h : PstI K T W F H s σ r Q) : PstI K T W F1 H1 s1 σ r Q := by
  cases r with
  | no => exact h.elim
  | er x g => exact PstX.step S R R1 h
  | ok x s' => exact fun J F' H' S' R' r' => h J F' H' (S.trans S' R R') R' r'
/-- a used expression, walked -/
theorem used_core {k : D → Sg G → Rs G (List D)} {R' : It → Hp → Prop} (hf : SE X K T W e fa) (R : Rl K T F H s σ) (h : PstI K T W F H s σ ((fa s).bind fun x s1 => (use s1 x).bind fun d s2 => k d s2) R') :
    wpE X e σ H (fun v H1 => ∃ F1 s1 d, Rl K T F1 H1 s1 σ ∧ Rep K F1 v d ∧ PstI K T W F1 H1 s1 σ (k d s1) R') := by
  refine hf F H σ s _ R ?_
  cases q : fa s with
  | no => rw [q] at h; exact h.elim
  | er x g => rw [q] at h; exact h
  | ok x s1 =>
    rw [q] at h
    intro v F1 H1 S1 R1 r1
    have h : PstI K T W F H s σ ((use s1 x).bind fun d s2 => k d s2) R' := h
    cases q2 : use s1 x with
    | no => rw [q2] at h; exact h.elim
    | er y g => exact (use_ok (s' := s1) y g q2).elim
    | ok d s2 =>
      rw [q2] at h
      obtain ⟨F2, R2, S2, p2⟩ := r1.used S1 R R1 q2
      exact ⟨F2, s2, d, R2, p2, PstI.step S2 R R2 h⟩
/-- the keys of a dict that stands still -/
def Itx (d : Addr) (es : Array DictEntry) (ep : Nat) (xs : List V) : It :=
  ⟨fun i H => H d = some (rawD d es ep) ∧ i < xs.length, fun i H x H' => H' = H ∧ xs[i]? = some x, fun i H => H d = some (rawD d es ep) ∧ xs.length ≤ i⟩
theorem turn_raw {P : Program} {w : World} {Kf : PySem.W.Frag} {d : Addr} {es : Array DictEntry} {ep : Nat} {xs : List V} (it : Addr) (hx : Vals xs (es.toList.map (·.key))) : Turn P w Kf tg (Itx d es ep xs) [it] it (fun i h => h.IsKeyIter it d i es.size ep) where
  mem := by simp
  obj := fun i h st b hb => by
    have e : b = it := by simpa using hb
    subst e
    obtain ⟨oi, e, c, dd⟩ := st
    exact ⟨oi, e, fun v z => by rw [dd] at z; cases z⟩
  keep := fun i h h' st k => st.at fun oi e => k it (by simp) oi e
  item := by
    intro X hP hw hK hc i pins s σ H E I hf st hg
    subst hP hw hK
    obtain ⟨hd, hi⟩ := hg
    obtain ⟨f0, f1, f2, f3, f4, f5⟩ := hf it (by simp)
    obtain ⟨r1, r2, r3⟩ := raw_at I hd
    have hl := hx.length
    simp only [List.length_map, Array.length_toList] at hl
    obtain ⟨u, hu, ru⟩ := Vals.get (x := xs[i]) hx (List.getElem?_eq_getElem hi)
    have hu' : u = (es[i]'(by omega)).key := by
      rw [List.getElem?_map, List.getElem?_eq_getElem (by simp; omega)] at hu
      simpa using hu.symm
    subst hu'
    refine wpAny_pyNext_keys_item_raw st r1 (by omega) fun h' st' sb => ?_
    have I1 : Inv X pins σ H { s with heap := h' } := I.turned (t' := s.toks) (fun b ob hb e => (sb.2 b hb).trans e) f0 f1 f3 f4 f5
    obtain ⟨oi, e, c, dd⟩ := id st'
    exact ⟨_, rfl, go_of (s := { s with heap := h' }) e c dd (by decide) ⟨xs[i], H, I1, ru, ⟨rfl, List.getElem?_eq_getElem hi⟩, st', fun b hb => (hf b hb).1⟩⟩
  done := by
    intro X hP hw hK hc i pins s σ H E I hf st hg
    subst hP hw hK
    obtain ⟨hd, hi⟩ := hg
    obtain ⟨f0, f1, f2, f3, f4, f5⟩ := hf it (by simp)
    obtain ⟨r1, r2, r3⟩ := raw_at I hd
    have hl := hx.length
    simp only [List.length_map, Array.length_toList] at hl
    exact wpAny_pyNext_keys_end_raw (I.ok.hd hc) st r1 (by omega) fun h' eb => ⟨rfl, I.turned (t' := s.toks) (fun b ob hb e => eb b ob hb e) f0 f1 f3 f4 f5⟩
  self := fun A i s Q E st h => wpAny_pyIter_keyiter st h
theorem RepK.vals {es : List DictEntry} {kvs : List (D × D)} (r : RepK K F es kvs) : ∃ xs, Vals xs (es.map (·.key)) ∧ Reps K F xs (kvs.map (·.1)) := by
  induction kvs generalizing es with
  | nil => cases r; exact ⟨[], .nil, .nil⟩
  | cons kv kvs ih =>
    cases r with
    | cons h1 h2 h3 h4 h5 r =>
      obtain ⟨xs, e1, e2⟩ := ih r
      exact ⟨_ :: xs, .cons h2 e1, .cons h3 e2⟩
theorem itd_raw {a : Addr} {es : Array DictEntry} {ep : Nat} {xs : List V} {ds : List D} (h : F a = some (rawD a es ep)) (r : Reps K F xs ds) : ItD K F ds (Itx a es ep xs) := by
  unfold ItD
  rw [← r.length]
  refine ⟨fun i H hi l => ⟨l _ _ h, hi⟩, fun H l => ⟨l _ _ h, Nat.le_refl _⟩, fun i H x H' hi l y => ?_⟩
  obtain ⟨e, y⟩ := y
  have hd : i < ds.length := by rw [← r.length]; exact hi
  obtain ⟨v, e1, e2⟩ := r.get (List.getElem?_eq_getElem hd)
  rw [y] at e1; cases e1
  exact ⟨_, List.getElem?_eq_getElem hd, .inl ⟨e, e2⟩⟩
theorem pi_seq {te : TE} (hl : PE X e te) : PI X tg e (fun σ H R => te σ H fun x H1 => ∃ a, x = .ref a ∧ (((∃ xs, SqL X.K H1 a xs) ∧ R (Itl X.K a) H1) ∨ ((∃ xs, SqT X.K H1 a xs) ∧ R (Itt X.K a) H1) ∨ ∃ es ep xs, H1 a = some (rawD a es ep) ∧ Vals xs (es.toList.map (·.key)) ∧ R (Itx a es ep xs) H1)) := by
  refine ⟨fun pins s σ H R I h => ?_⟩
  refine thn (hl.run pins s σ H _ I h) fun v s1 ⟨x, H1, I1, r1, q1⟩ => ?_
  obtain ⟨a, e, ⟨⟨xs, hq⟩, q⟩ | ⟨⟨xs, hq⟩, q⟩ | ⟨es, ep, xs, hd, hx, q⟩⟩ := q1
  rotate_right
  · subst e
    cases r1
    obtain ⟨r1, r2, r3⟩ := raw_at I1 hd
    exact wpAny_pyIter_dict_raw r2 r1 (pi_one (tk := s1.toks) I1 _ (turn_raw _ hx) ⟨_, Heap.get?_push_size _ rfl, rfl, rfl⟩ q)
  · subst e
    cases r1
    obtain ⟨its, rv, p, hz⟩ := I1.list hq
    refine wpAny_pyIter_list p.isList ?_
    refine ⟨s1.heap.objs.size, [s1.heap.objs.size], _, _, H1, rfl, I1.kept (t' := s1.toks) fun b o e => Heap.get?_push_of_some _ e, turn_list a _, ⟨_, Heap.get?_push_size _ rfl, rfl, rfl⟩, fun b hb => ?_, q⟩
    have e : b = s1.heap.objs.size := by simpa using hb
    subst e
    exact I1.fpOk (Nat.le_refl _) (I1.hok.fresh (Nat.le_refl _))
  · subst e
    cases r1
    obtain ⟨its, rv, p, hz⟩ := I1.tuple hq
    refine wpAny_pyIter_tuple (show s1.heap.IsTuple a its.toArray from p) ?_
    refine ⟨s1.heap.objs.size, [s1.heap.objs.size], _, _, H1, rfl, I1.kept (t' := s1.toks) fun b o e => Heap.get?_push_of_some _ e, turn_tuple a _, ⟨_, Heap.get?_push_size _ rfl, rfl, rfl⟩, fun b hb => ?_, q⟩
    have e : b = s1.heap.objs.size := by simpa using hb
    subst e
    exact I1.fpOk (Nat.le_refl _) (I1.hok.fresh (Nat.le_refl _))
theorem itd_list {a : Addr} {vs : List V} {ds : List D} (h : F a = some (.lst vs)) (r : Reps K F vs ds) : ItD K F ds (Itl K.K a) := by
  unfold ItD
  rw [← r.length]
  refine walk_list.mono (fun H l => .inl (.inl (l _ _ h))) fun i H x H' hi l y => ?_
  obtain ⟨e, y⟩ := y
  have hd : i < ds.length := by rw [← r.length]; exact hi
  obtain ⟨v, e1, e2⟩ := r.get (List.getElem?_eq_getElem hd)
  rw [y] at e1; cases e1
  exact ⟨_, List.getElem?_eq_getElem hd, .inl ⟨e, e2⟩⟩
theorem itd_tup {a : Addr} {vs : List V} {ds : List D} (h : TupAt K.K F a vs) (r : Reps K F vs ds) : ItD K F ds (Itt K.K a) := by
  unfold ItD
  rw [← r.length]
  refine walk_tup.mono (fun H l => (l.sqT h).sq) fun i H x H' hi l y => ?_
  obtain ⟨e, y⟩ := y
  have hd : i < ds.length := by rw [← r.length]; exact hi
  obtain ⟨v, e1, e2⟩ := r.get (List.getElem?_eq_getElem hd)
  rw [y] at e1; cases e1
  exact ⟨_, List.getElem?_eq_getElem hd, .inl ⟨e, e2⟩⟩
theorem si_seq (hk : K.K = X.K) (hf : SE X K T W e fa) : SI X K T W tg e (evSeq fa) := by
  intro F H σ s R' R h
  refine wpI_of (pi_seq (pe_self X e)) (wp_mono (used_core (k := fun d s2 => match seqO d with
    | some ds => .ok ds s2
    | none => .no) hf R h) fun v H1 ⟨F1, s1, d, R1, rd, q⟩ => ?_)
  cases d with
  | lst ds =>
    cases rd with
    | lst h1 h2 => exact ⟨_, rfl, .inl ⟨⟨_, .inl (.inl (R1.sub _ _ h1))⟩, q _ F1 H1 (Stp.refl ..) R1 (hk ▸ itd_list h1 h2)⟩⟩
  | tup ds =>
    cases rd with
    | tup h1 h2 => exact ⟨_, rfl, .inr (.inl ⟨⟨_, hk ▸ (R1.sub.sqT h1).sq⟩, q _ F1 H1 (Stp.refl ..) R1 (hk ▸ itd_tup h1 h2)⟩)⟩
  | dct kvs =>
    cases rd with
    | dct h1 h2 h3 =>
      obtain ⟨xs, e1, e2⟩ := h2.vals
      exact ⟨_, rfl, .inr (.inr ⟨_, _, xs, R1.sub _ _ h1, e1, q _ F1 H1 (Stp.refl ..) R1 (itd_raw h1 e2)⟩)⟩
  | _ => exact q.elim
theorem intsD_len (lo : Int) (n : Nat) : (intsD lo n).length = n := by simp [intsD]
theorem intsD_get {lo : Int} {n i : Nat} (h : i < n) : (intsD lo n)[i]? = some (.int (lo + (i : Nat))) := by simp [intsD, h]
theorem itd_range {lo : Int} {n : Nat} : ItD K F (intsD lo n) (Itr lo n) := by
  unfold ItD
  rw [intsD_len]
  refine walk_range.mono (fun H l => trivial) fun i H x H' hi l y => ?_
  obtain ⟨e1, e2⟩ := y
  subst e2
  exact ⟨_, intsD_get hi, .inl ⟨e1, .int _⟩⟩
theorem si_rg1 (hg : Gl X "range") (hm : X.mg "range" = none) (hst : [a].all noStar = true) (hl : SL X K T W [a] fl) : SI X K T W tg (.Call (.Name "range" p2) [a] [] pos) (evRg1 fl) := by
  intro F H σ s R' R h
  have h' := Bool.and_eq_true_iff.mp (show (noStar a && true) = true from hst)
  refine wpI_of (pi_range1 hg hm (pa_self X hst) (by rw [starEach_of h'.1]; rfl)) (hl F H σ s _ R ?_)
  unfold evRg1 at h
  cases q : fl s with
  | no => rw [q] at h; exact h.elim
  | er x g => rw [q] at h; exact h
  | ok xs s1 =>
    rw [q] at h
    intro vs F1 H1 S1 R1 r1
    simp only [Rs.bind] at h
    split at h
    · rename_i j q2
      split at h
      · rename_i hj
        obtain ⟨v, rfl, hv⟩ := (r1.rhs R1 q2).one
        cases hv.int
        exact ⟨j, rfl, (rgB_ok hj).1, (rgB_ok hj).2, h _ F1 H1 S1 R1 itd_range⟩
      · exact h.elim
    · exact h.elim
theorem si_rg2 (hg : Gl X "range") (hm : X.mg "range" = none) (hst : [a, b].all noStar = true) (hl : SL X K T W [a, b] fl) : SI X K T W tg (.Call (.Name "range" p2) [a, b] [] pos) (evRg2 fl) := by
  intro F H σ s R' R h
  have h' := Bool.and_eq_true_iff.mp (show (noStar a && (noStar b && true)) = true from hst)
  have h'' := Bool.and_eq_true_iff.mp h'.2
  refine wpI_of (pi_range2 hg hm (pa_self X hst) (by rw [starEach_of h'.1, starEach_of h''.1]; rfl) (by rw [starEach_of h''.1]; rfl)) (hl F H σ s _ R ?_)
  unfold evRg2 at h
  cases q : fl s with
  | no => rw [q] at h; exact h.elim
  | er x g => rw [q] at h; exact h
  | ok xs s1 =>
    rw [q] at h
    intro vs F1 H1 S1 R1 r1
    simp only [Rs.bind] at h
    split at h
    · rename_i i j q2
      split at h
      · rename_i hj
        obtain ⟨v, w, rfl, hv, hw⟩ := (r1.rhs R1 q2).two
        cases hv.int; cases hw.int
        exact ⟨i, j, rfl, ⟨(rgB_ok hj.1).1, (rgB_ok hj.1).2, (rgB_ok hj.2).1, (rgB_ok hj.2).2⟩, h _ F1 H1 S1 R1 itd_range⟩
      · exact h.elim
    · exact h.elim
/-! enumerate -/
theorem pi_enumA {ta : TA} {elts : List Expr} {kk : Nat} {tpos : Pos} (hg : Gl X "enumerate") (hm : X.mg "enumerate" = none) (ha : PA X [e] ta) (hs : starEach [e] X.env = [(false, eval e X.env)]) :
    PI X (.Tuple elts kk tpos) (.Call (.Name "enumerate" p2) [e] [] pos) (fun σ H R => ta σ H fun vs H1 => ∃ a, vs = [.ref a] ∧ (((∃ xs, SqL X.K H1 a xs) ∧ R (IteL X.K a 0) H1) ∨ ((∃ xs, SqT X.K H1 a xs) ∧ R (IteT X.K a 0) H1))) := by
  refine ⟨fun pins s σ H R I h => ?_⟩
  refine Call_ (ld_blt I hg hm boot_enumerate (PyProof.Rows.callWith_type1 (thn (ha.run pos pins s σ H _ I h) fun us s1 ⟨vs, H1, I1, r1, q1⟩ => ?_) hs rfl))
  obtain ⟨a, ex, q⟩ := q1
  subst ex
  cases r1 with
  | cons r rr =>
    cases rr
    cases r
    have fpk : ∀ {h' : Heap} {J : It} {tn : Nat → Heap → Prop}, (∀ b o, s1.heap.get? b = some o → h'.get? b = some o) → Turn X.prog X.w X.K (.Tuple elts kk tpos) J [s1.heap.objs.size + 1, s1.heap.objs.size] (s1.heap.objs.size + 1) tn → tn 0 h' → R J H1 →
        PIE X pins σ (.Tuple elts kk tpos) R (.ref (s1.heap.objs.size + 1)) { s1 with heap := h' } := fun {h' J tn} hk tu st q => by
      refine ⟨s1.heap.objs.size + 1, [s1.heap.objs.size + 1, s1.heap.objs.size], _, _, H1, rfl, I1.kept (t' := s1.toks) hk, tu, st, fun b hb => ?_, q⟩
      have e' : b = s1.heap.objs.size + 1 ∨ b = s1.heap.objs.size := by simpa using hb
      have hle : s1.heap.objs.size ≤ b := by
        rcases e' with z | z
        · rw [z]; exact Nat.le_add_right _ _
        · rw [z]; exact Nat.le_refl _
      exact I1.fpOk hle (I1.hok.fresh hle)
    rcases q with ⟨⟨xs, hq⟩, q⟩ | ⟨⟨xs, hq⟩, q⟩
    · obtain ⟨its, rv, p', hz⟩ := I1.list hq
      refine enum_begins1 (begins_list a its.toArray) p'.isList fun h' he hit hsz hk => wpAny_pyIter_enum he (fpk hk (turn_enumL 0 a _ _) ⟨⟨.none, by simpa using he⟩, ⟨_, hit, rfl, rfl⟩, Nat.succ_ne_self _⟩ q)
    · obtain ⟨its, rv, p', hz⟩ := I1.tuple hq
      refine enum_begins1 (begins_tuple a its.toArray) (show s1.heap.IsTuple a its.toArray from p') fun h' he hit hsz hk => wpAny_pyIter_enum he (fpk hk (turn_enumT 0 a _ _) ⟨⟨.none, by simpa using he⟩, ⟨_, hit, rfl, rfl⟩, Nat.succ_ne_self _⟩ q)
theorem itd_enumL {a : Addr} {vs : List V} {ds : List D} {c : Int} (h : F a = some (.lst vs)) (r : Reps K F vs ds) : ItD K F (enumL c ds) (IteL K.K a c) := by
  unfold ItD
  rw [enumL_len, ← r.length]
  refine walk_enumL.mono (fun H l => .inl (.inl (l _ _ h))) fun i H x H' hi l y => ?_
  obtain ⟨p, x1, x2, e1, e2, e3, e4, e5⟩ := y
  cases e4
  have hd : i < ds.length := by rw [← r.length]; exact hi
  obtain ⟨v, q1, q2⟩ := r.get (List.getElem?_eq_getElem hd)
  rw [show vs[i]? = some x2 from e5] at q1; cases q1
  refine ⟨_, by rw [enumL_get, List.getElem?_eq_getElem hd]; rfl, .inr ⟨p, _, _, rfl, e1, e2, e3, .cons (.int _) (.cons q2 .nil)⟩⟩
theorem itd_enumT {a : Addr} {vs : List V} {ds : List D} {c : Int} (h : TupAt K.K F a vs) (r : Reps K F vs ds) : ItD K F (enumL c ds) (IteT K.K a c) := by
  unfold ItD
  rw [enumL_len, ← r.length]
  refine walk_enumT.mono (fun H l => (l.sqT h).sq) fun i H x H' hi l y => ?_
  obtain ⟨p, x1, x2, e1, e2, e3, e4, e5⟩ := y
  cases e4
  have hd : i < ds.length := by rw [← r.length]; exact hi
  obtain ⟨v, q1, q2⟩ := r.get (List.getElem?_eq_getElem hd)
  rw [show vs[i]? = some x2 from e5] at q1; cases q1
  refine ⟨_, by rw [enumL_get, List.getElem?_eq_getElem hd]; rfl, .inr ⟨p, _, _, rfl, e1, e2, e3, .cons (.int _) (.cons q2 .nil)⟩⟩
theorem si_enum {elts : List Expr} {kk : Nat} {tpos : Pos} (hk : K.K = X.K) (hg : Gl X "enumerate") (hm : X.mg "enumerate" = none) (hst : [e].all noStar = true) (hf : SE X K T W e fa) : SI X K T W (.Tuple elts kk tpos) (.Call (.Name "enumerate" p2) [e] [] pos) (evEnum 0 fa) := by
  intro F H σ s R' R h
  have h' := Bool.and_eq_true_iff.mp (show (noStar e && true) = true from hst)
  refine wpI_of (pi_enumA hg hm (pa_self X hst) (by rw [starEach_of h'.1]; rfl)) ?_
  show wpE X e σ H fun v H1 => _
  refine wp_mono (used_core (k := fun d s2 => match d with
    | .lst ds => .ok (enumL 0 ds) s2
    | .tup ds => .ok (enumL 0 ds) s2
    | _ => .no) hf R h) fun v H1 ⟨F1, s1, d, R1, rd, q⟩ => ?_
  show ∃ a, [v] = [V.ref a] ∧ _
  cases d with
  | lst ds =>
    cases rd with
    | lst h1 h2 => exact ⟨_, rfl, .inl ⟨⟨_, .inl (.inl (R1.sub _ _ h1))⟩, q _ F1 H1 (Stp.refl ..) R1 (hk ▸ itd_enumL h1 h2)⟩⟩
  | tup ds =>
    cases rd with
    | tup h1 h2 => exact ⟨_, rfl, .inr ⟨⟨_, hk ▸ (R1.sub.sqT h1).sq⟩, q _ F1 H1 (Stp.refl ..) R1 (hk ▸ itd_enumT h1 h2)⟩⟩
  | _ => exact q.elim
end
end BF
set_option Elab.async false
set_option linter.all false
set_option autoImplicit false
set_option maxRecDepth 100000
set_option maxHeartbeats 2000000
namespace BF
open PySem PySem.Spec PyProof.Rows L2
/-! ### targets -/
inductive Tg where
  | nm (i : Nat) | tp (ix : List Nat)
section
variable {G : Type}
def asgN (s : Sg G) (i : Nat) (d : D) : Option (Sg G) := if i < s.sl.length then some (setS s i (some (false, d))) else none
def asgs : List Nat → List D → Sg G → Option (Sg G)
  | [], [], s => some s
  | i :: ix, d :: ds, s => (asgN s i d).bind fun s1 => asgs ix ds s1
  | _, _, _ => none
def asgT (t : Tg) (d : D) (s : Sg G) : Option (Sg G) := match t with
  | .nm i => asgN s i d
  | .tp ix => (match d with
    | .tup ds => asgs ix ds s
    | _ => none)
end
/-- a target's slots are among some -/
def tgIn : Tg → List Nat → Prop
  | .nm i, l => i ∈ l
  | .tp ix, l => ∀ i ∈ ix, i ∈ l
def gNames : List Nat → TGs
  | [] => gNil
  | i :: ix => gCons (gName i) (gNames ix)
def gOf (K : PySem.W.Frag) : Tg → TG
  | .nm i => gName i
  | .tp ix => gTup K ix.length (gNames ix)
section
variable {G : Type} {X : Cx} {K : Env1} {T : Gt G} {W : WX1} {tg a b c e : Expr} {es : List Expr} {fa fb fc : Sg G → Rs G Ov} {fl : Sg G → Rs G (List Ov)} {pos p2 p3 : Pos} {F H F1 H1 : Hp} {s s1 : Sg G} {σ : Sl}
theorem asgN_ok {i : Nat} {v : V} {d : D} {s' : Sg G} (R : Rl K T F H s σ) (r : Rep K F v d) (h : asgN s i d = some s') : Rl K T F H s' (σ.set i (some v)) ∧ Stp T F H s σ F H s' (σ.set i (some v)) := by
  unfold asgN at h
  split at h
  · rename_i hi
    cases h
    exact R.setV hi r
  · cases h
theorem wipe_set {σ : Sl} {i : Nat} {v : Option V} : ∀ (l : List Nat), i ∈ l → wipe (σ.set i v) l = wipe σ l := by
  intro l
  induction l with
  | nil => intro h; cases h
  | cons j l ih =>
    intro h
    show (wipe (σ.set i v) l).set j none = (wipe σ l).set j none
    by_cases q : i ∈ l
    · rw [ih q]
    · have e : i = j := by
        rcases List.mem_cons.mp h with e | e
        · exact e
        · exact (q e).elim
      subst e
      have aux : ∀ (l : List Nat), i ∉ l → wipe (σ.set i v) l = (wipe σ l).set i v := by
        intro l
        induction l with
        | nil => intro _; rfl
        | cons k l ih2 =>
          intro hn
          show (wipe (σ.set i v) l).set k none = ((wipe σ l).set k none).set i v
          rw [ih2 fun z => hn (List.mem_cons_of_mem _ z)]
          exact List.set_comm _ _ (fun z => hn (z ▸ List.mem_cons_self ..))
      rw [aux l q, List.set_set]
theorem asgs_len : ∀ {ix : List Nat} {ds : List D} {s s' : Sg G}, asgs ix ds s = some s' → ix.length = ds.length := by
  intro ix
  induction ix with
  | nil =>
    intro ds s s' h
    cases ds with
    | nil => rfl
    | cons d ds => cases h
  | cons i ix ih =>
    intro ds s s' h
    cases ds with
    | nil => cases h
    | cons d ds =>
      have h : ((asgN s i d).bind fun s1 => asgs ix ds s1) = some s' := h
      cases q : asgN s i d with
      | none => rw [q] at h; cases h
      | some s1 => rw [q] at h; simp [ih h]
theorem asgs_ok : ∀ {ix : List Nat} {vs : List V} {ds : List D} {s s' : Sg G} {σ : Sl} {k : Sl → Hp → Prop}, Rl K T F H s σ → Reps K F vs ds → asgs ix ds s = some s' →
    (∀ σ', Rl K T F H s' σ' → Stp T F H s σ F H s' σ' → (∀ l : List Nat, (∀ i ∈ ix, i ∈ l) → wipe σ' l = wipe σ l) → k σ' H) → gNames ix vs σ H k := by
  intro ix
  induction ix with
  | nil =>
    intro vs ds s s' σ k R r h hk
    cases ds with
    | nil =>
      cases r
      cases h
      exact ⟨rfl, hk σ R (Stp.refl ..) fun _ _ => rfl⟩
    | cons d ds => cases h
  | cons i ix ih =>
    intro vs ds s s' σ k R r h hk
    cases ds with
    | nil => cases h
    | cons d ds =>
      cases r with
      | @cons v vs _ _ r1 r2 =>
        have h : ((asgN s i d).bind fun s1 => asgs ix ds s1) = some s' := h
        cases q : asgN s i d with
        | none => rw [q] at h; cases h
        | some s1 =>
          rw [q] at h
          obtain ⟨R1, S1⟩ := asgN_ok R r1 q
          refine ⟨v, vs, rfl, ih R1 r2 h fun σ' R' S' hw => hk σ' R' (S1.trans S' R R') fun l hl => ?_⟩
          rw [hw l fun j hj => hl j (List.mem_cons_of_mem _ hj)]
          exact wipe_set l (hl i (List.mem_cons_self ..))
/-- a target ix given what ix walked -/
theorem asgT_ok {t : Tg} {i : Nat} {v : V} {d : D} {ds : List D} {H' : Hp} {s' : Sg G} {k : Sl → Hp → Prop} (R : Rl K T F H s σ) (hd : ds[i]? = some d) (y : Yd K F ds i H v H') (h : asgT t d s = some s')
    (hk : ∀ F' σ', Rl K T F' H' s' σ' → Stp T F H s σ F' H' s' σ' → Le F F' → (∀ l : List Nat, tgIn t l → wipe σ' l = wipe σ l) → k σ' H') : gOf K.K t v σ H' k := by
  obtain ⟨d', e1, y⟩ := y
  rw [hd] at e1; cases e1
  rcases y with ⟨rfl, r⟩ | ⟨p, vs, es, rfl, rfl, n, rfl, r⟩
  · cases t with
    | nm j =>
      obtain ⟨R1, S1⟩ := asgN_ok R r h
      exact hk F _ R1 S1 (Le.refl _) fun l hl => wipe_set l hl
    | tp ix =>
      cases d with
      | tup es =>
        have h : asgs ix es s = some s' := h
        cases r with
        | @tup a vs _ h1 h2 =>
          have hl : vs.length = ix.length := by
            rw [h2.length]
            exact (asgs_len h).symm
          exact ⟨a, vs, rfl, (R.sub.sqT h1).sq, hl, asgs_ok R h2 h fun σ' R' S' hw => hk F σ' R' S' (Le.refl _) fun l hl => hw l hl⟩
      | _ => cases h
  · obtain ⟨R1, S1⟩ := R.newF (o := .tup vs) n
    cases t with
    | nm j =>
      obtain ⟨R2, S2⟩ := asgN_ok R1 (Rep.tup (.inl upd_same) (r.mono S1.le)) h
      exact hk _ _ R2 (S1.trans S2 R R2) S1.le fun l hl => wipe_set l hl
    | tp ix =>
      have h : asgs ix es s = some s' := h
      have hl : vs.length = ix.length := by
        rw [r.length]
        exact (asgs_len h).symm
      exact ⟨p, vs, rfl, .inl (.inl upd_same), hl, asgs_ok R1 (r.mono S1.le) h fun σ' R' S' hw => hk _ σ' R' (S1.trans S' R R') S1.le fun l hl => hw l hl⟩
/-- the names of a target -/
def tgOk (N : List Str) (sc : Scope) : Tg → Expr → Bool
  | .nm i, .Name x _ => decide (N[i]? = some x) && (match sc.names.lookup x with
    | some .local => true
    | some .cell => true
    | _ => false)
  | .tp ix, .Tuple es _ _ => tgsOk ix es
  | _, _ => false
where
  tgsOk : List Nat → List Expr → Bool
    | [], [] => true
    | i :: ix, .Name x _ :: es => (decide (N[i]? = some x) && (match sc.names.lookup x with
      | some .local => true
      | some .cell => true
      | _ => false)) && tgsOk ix es
    | _, _ => false
theorem loc_of {sc : Scope} {x : Str} (h : (match sc.names.lookup x with
    | some .local => true
    | some .cell => true
    | _ => false) = true) : Loc sc x := by
  split at h
  · rename_i e; exact .inl e
  · rename_i e; exact .inr e
  · cases h
theorem tgs_pg (hN : X.N.Nodup) (hf : ∀ x, Loc X.env.scope x → X.fn x = true ∨ X.env.scope.names.lookup x = some .local) : ∀ {ix : List Nat} {es : List Expr}, tgOk.tgsOk X.N X.env.scope ix es = true → PGs X es (gNames ix) ∧ ix.length = es.length := by
  intro ix
  induction ix with
  | nil =>
    intro es h
    cases es with
    | nil => exact ⟨pgs_nil, rfl⟩
    | cons e es => cases e <;> cases h
  | cons i ix ih =>
    intro es h
    cases es with
    | nil => cases h
    | cons e es =>
      cases e with
      | Name x p =>
        have h := Bool.and_eq_true_iff.mp (show ((decide (X.N[i]? = some x) && _) && tgOk.tgsOk X.N X.env.scope ix es) = true from h)
        obtain ⟨h1, h2⟩ := Bool.and_eq_true_iff.mp h.1
        obtain ⟨q1, q2⟩ := ih h.2
        refine ⟨pgs_cons (pg_name hN (of_decide_eq_true h1) (loc_of h2) (hf x (loc_of h2))) q1 ?_, by simp [q2]⟩
        rfl
      | _ => cases h
theorem asgEach_len {env : Env} : ∀ es : List Expr, (assignEach es env).length = es.length
  | [] => rfl
  | e :: es => by
    have := asgEach_len (env := env) es
    cases e <;> (show _ + 1 = _ + 1; rw [this])
theorem asgEach_none {N : List Str} {sc : Scope} {env : Env} : ∀ {ix : List Nat} {es : List Expr}, tgOk.tgsOk N sc ix es = true → (assignEach es env).findIdx? (·.1) = none := by
  intro ix
  induction ix with
  | nil =>
    intro es h
    cases es with
    | nil => rfl
    | cons e es => cases e <;> cases h
  | cons i ix ih =>
    intro es h
    cases es with
    | nil => cases h
    | cons e es =>
      cases e with
      | Name x p =>
        have h := Bool.and_eq_true_iff.mp (show ((decide (N[i]? = some x) && _) && tgOk.tgsOk N sc ix es) = true from h)
        have q := ih h.2
        show ((false, _) :: assignEach es env).findIdx? (·.1) = none
        rw [List.findIdx?_cons, q]
        rfl
      | _ => cases h
theorem tg_pg {t : Tg} {e : Expr} (hc : X.calm = true) (hN : X.N.Nodup) (hf : ∀ x, Loc X.env.scope x → X.fn x = true ∨ X.env.scope.names.lookup x = some .local) (h : tgOk X.N X.env.scope t e = true) : PG X e (gOf X.K t) := by
  cases t with
  | nm i =>
    cases e with
    | Name x p =>
      obtain ⟨h1, h2⟩ := Bool.and_eq_true_iff.mp h
      exact pg_name hN (of_decide_eq_true h1) (loc_of h2) (hf x (loc_of h2))
    | _ => cases h
  | tp ix =>
    cases e with
    | Tuple es k p =>
      obtain ⟨q1, q2⟩ := tgs_pg hN hf h
      exact pg_tup hc q1 ((asgEach_len es).trans q2.symm) (asgEach_none h)
    | _ => cases h
end
end BF
set_option Elab.async false
set_option linter.all false
set_option autoImplicit false
set_option maxRecDepth 100000
set_option maxHeartbeats 2000000
namespace BF
open PySem PySem.Spec PyProof.Rows L2
/-! ### list comprehensions -/
def wipeO {α : Type} (l : List (Option α)) : List Nat → List (Option α)
  | [] => l
  | v :: vs => (wipeO l vs).set v none
theorem wipeO_len {α : Type} (l : List (Option α)) : ∀ vs : List Nat, (wipeO l vs).length = l.length
  | [] => rfl
  | v :: vs => by unfold wipeO; rw [List.length_set, wipeO_len l vs]
theorem wipe_eq (σ : Sl) : ∀ vs : List Nat, wipe σ vs = wipeO σ vs
  | [] => rfl
  | v :: vs => by unfold wipe wipeO; rw [wipe_eq σ vs]
theorem wipeO_get {α : Type} (l : List (Option α)) : ∀ (vs : List Nat) (j : Nat), (wipeO l vs)[j]? = if j ∈ vs then (l[j]?).map (fun _ => none) else l[j]?
  | [], j => by simp [wipeO]
  | v :: vs, j => by
    unfold wipeO
    by_cases q : v = j
    · subst q
      by_cases hl : v < l.length
      · rw [List.getElem?_set_self (by rw [wipeO_len]; exact hl), if_pos (List.mem_cons_self ..), List.getElem?_eq_getElem hl]; rfl
      · rw [List.getElem?_eq_none (by rw [List.length_set, wipeO_len]; omega), List.getElem?_eq_none (by omega)]; simp
    · rw [List.getElem?_set_ne q, wipeO_get l vs j]
      by_cases m : j ∈ vs
      · rw [if_pos m, if_pos (List.mem_cons_of_mem _ m)]
      · rw [if_neg m, if_neg (fun z => (List.mem_cons.mp z).elim (fun e => q e.symm) m)]
def restL {α : Type} (a b : List (Option α)) : List Nat → List (Option α)
  | [] => b
  | j :: js => (restL a b js).set j ((a[j]?).getD none)
theorem restL_len {α : Type} (a b : List (Option α)) : ∀ vs : List Nat, (restL a b vs).length = b.length
  | [] => rfl
  | v :: vs => by unfold restL; rw [List.length_set, restL_len a b vs]
theorem restL_get {α : Type} {a b : List (Option α)} (h : a.length = b.length) : ∀ (vs : List Nat) (j : Nat), (restL a b vs)[j]? = if j ∈ vs then a[j]? else b[j]?
  | [], j => by simp [restL]
  | v :: vs, j => by
    unfold restL
    by_cases q : v = j
    · subst q
      by_cases hl : v < b.length
      · rw [List.getElem?_set_self (by rw [restL_len]; exact hl), if_pos (List.mem_cons_self ..), List.getElem?_eq_getElem (by omega)]; rfl
      · rw [List.getElem?_eq_none (by rw [List.length_set, restL_len]; omega), List.getElem?_eq_none (by omega), List.getElem?_eq_none (by omega)]; simp
    · rw [List.getElem?_set_ne q, restL_get h vs j]
      by_cases m : j ∈ vs
      · rw [if_pos m, if_pos (List.mem_cons_of_mem _ m)]
      · rw [if_neg m, if_neg (fun z => (List.mem_cons.mp z).elim (fun e => q e.symm) m)]
section
variable {G : Type}
def wipeS (s : Sg G) (own : List Nat) : Sg G := { s with sl := wipeO s.sl own }
def restS (own : List Nat) (s1 s2 : Sg G) : Sg G := { s2 with sl := restL s1.sl s2.sl own }
/-- the turns of a comprehension -/
def lcL (t : Tg) (ft fe : Sg G → Rs G Ov) (own : List Nat) : List D → Sg G → Rs G (List D)
  | [], s => .ok [] s
  | d :: ds, s => match asgT t d s with
    | none => .no
    | some s1 => (match ft s1 with
      | .ok x s2 => (match tst s2 x with
        | some true => (match fe s2 with
          | .ok y s3 => (match use s3 y with
            | .ok r s4 => (lcL t ft fe own ds (wipeS s4 own)).bind fun rs s5 => .ok (r :: rs) s5
            | _ => .no)
          | _ => .no)
        | some false => lcL t ft fe own ds (wipeS s2 own)
        | none => .no)
      | _ => .no)
def evLc (fi : Sg G → Rs G (List D)) (t : Tg) (ft fe : Sg G → Rs G Ov) (own : List Nat) (s : Sg G) : Rs G Ov := (fi s).bind fun ds s1 => if ds.length ≤ sizeLine then
    (lcL t ft fe own ds (wipeS s1 own)).bind fun rs s2 => .ok (.fr (.lst rs)) (restS own s1 s2) else .no
def evLcD (ds : List D) (t : Tg) (ft fe : Sg G → Rs G Ov) (own : List Nat) (s1 : Sg G) : Rs G Ov := if ds.length ≤ sizeLine then
    (lcL t ft fe own ds (wipeS s1 own)).bind fun rs s2 => .ok (.fr (.lst rs)) (restS own s1 s2) else .no
end
section
variable {G : Type} {X : Cx} {K : Env1} {T : Gt G} {W : WX1} {tg a b c e : Expr} {es : List Expr} {fa fb fc : Sg G → Rs G Ov} {fl : Sg G → Rs G (List Ov)} {pos p2 p3 : Pos} {F H F1 H1 Fn Hn : Hp} {s s1 sn : Sg G} {σ : Sl}
theorem Rl.wipe (R : Rl K T F H s σ) (own : List Nat) : Rl K T F H (wipeS s own) (L2.wipe σ own) := by
  have g1 : ∀ (j : Nat) y, (wipeS s own).sl[j]? = some (some y) → j ∉ own ∧ s.sl[j]? = some (some y) := fun j y h => by
    have h : (wipeO s.sl own)[j]? = some (some y) := h
    rw [wipeO_get] at h
    by_cases m : j ∈ own
    · rw [if_pos m] at h
      cases q : s.sl[j]? with
      | none => rw [q] at h; cases h
      | some z => rw [q] at h; cases h
    · rw [if_neg m] at h; exact ⟨m, h⟩
  have g2 : ∀ (j : Nat), j ∉ own → (L2.wipe σ own)[j]? = σ[j]? := fun j m => by rw [wipe_eq, wipeO_get, if_neg m]
  refine ⟨R.sub, ?_, fun i d h => ?_, fun i d h => ?_, fun i j d e p h1 h2 h3 h4 => ?_, R.gs, R.gf⟩
  · show (wipeO s.sl own).length = _
    rw [wipeO_len, wipe_length]; exact R.len
  · obtain ⟨m, h⟩ := g1 i _ h
    rw [g2 i m]; exact R.val i d h
  · obtain ⟨m, h⟩ := g1 i _ h
    rw [g2 i m]; exact R.own i d h
  · obtain ⟨m1, h1⟩ := g1 i _ h1
    obtain ⟨m2, h2⟩ := g1 j _ h2
    rw [g2 i m1] at h3
    rw [g2 j m2] at h4
    exact R.inj i j d e p h1 h2 h3 h4
theorem wipe_ownd {own : List Nat} {a : Addr} (h : Ownd (wipeS s own) (L2.wipe σ own) a) : Ownd s σ a ∧ ∃ (i : Nat) (d : D), i ∉ own ∧ s.sl[i]? = some (some (true, d)) ∧ σ[i]? = some (some (.ref a)) := by
  obtain ⟨j, d, h1, h2⟩ := h
  have h1 : (wipeO s.sl own)[j]? = some (some (true, d)) := h1
  rw [wipeO_get] at h1
  by_cases m : j ∈ own
  · rw [if_pos m] at h1
    cases q : s.sl[j]? with
    | none => rw [q] at h1; cases h1
    | some z => rw [q] at h1; cases h1
  · rw [if_neg m] at h1
    rw [wipe_eq, wipeO_get, if_neg m] at h2
    exact ⟨⟨j, d, h1, h2⟩, j, d, m, h1, h2⟩
/-- the block is left: the slots of its own names are as they were -/
theorem Rl.unwipe {own : List Nat} (R1 : Rl K T F1 H1 s1 σ) (Rn : Rl K T Fn Hn sn (L2.wipe σ own)) (S : Stp T F1 H1 (wipeS s1 own) (L2.wipe σ own) Fn Hn sn (L2.wipe σ own)) :
    Rl K T Fn Hn (restS own s1 sn) σ ∧ Stp T F1 H1 s1 σ Fn Hn (restS own s1 sn) σ ∧ ∀ a, Ownd (restS own s1 sn) σ a → Ownd s1 σ a ∨ Ownd sn (L2.wipe σ own) a := by
  have hl : s1.sl.length = sn.sl.length := by
    have e1 := R1.len
    have e2 := Rn.len
    rw [wipe_length] at e2
    omega
  have gr : ∀ j : Nat, (restS own s1 sn).sl[j]? = if j ∈ own then s1.sl[j]? else sn.sl[j]? := fun j => restL_get hl own j
  have g2 : ∀ (j : Nat), j ∉ own → (L2.wipe σ own)[j]? = σ[j]? := fun j m => by rw [wipe_eq, wipeO_get, if_neg m]
  have oldOwn : ∀ (i : Nat) d p, i ∈ own → s1.sl[i]? = some (some (true, d)) → σ[i]? = some (some (.ref p)) → ¬ Ownd (wipeS s1 own) (L2.wipe σ own) p := fun i d p hi h1 h2 z => by
    obtain ⟨_, j, d', m, q1, q2⟩ := wipe_ownd z
    have := R1.inj i j d d' p h1 q1 h2 q2
    subst this
    exact m hi
  have oldFacts : ∀ (i : Nat) d p, i ∈ own → s1.sl[i]? = some (some (true, d)) → σ[i]? = some (some (.ref p)) → Fn p = none ∧ Hn p = H1 p ∧ H1 p ≠ none := fun i d p hi h1 h2 => by
    obtain ⟨p', e1, n, nf, sh⟩ := R1.own i d h1
    rw [h2] at e1; cases e1
    have no := oldOwn i d p hi h1 h2
    refine ⟨?_, ?_, sh.some⟩
    · apply Classical.byContradiction
      intro z
      rcases S.new p z with z | z | z
      · exact z n
      · exact sh.some z
      · exact no z
    · cases e : H1 p with
      | none => exact (sh.some e).elim
      | some o => exact S.keep p o e no nf
  have ow : ∀ a, Ownd (restS own s1 sn) σ a → Ownd s1 σ a ∨ Ownd sn (L2.wipe σ own) a := fun a ⟨j, d, h1, h2⟩ => by
    rw [gr] at h1
    by_cases m : j ∈ own
    · rw [if_pos m] at h1; exact .inl ⟨j, d, h1, h2⟩
    · rw [if_neg m] at h1; exact .inr ⟨j, d, h1, by rw [g2 j m]; exact h2⟩
  refine ⟨⟨Rn.sub, ?_, fun i d h => ?_, fun i d h => ?_, fun i j d e p h1 h2 h3 h4 => ?_, Rn.gs, Rn.gf⟩, ⟨S.le, fun a o h no nf => S.keep a o h (fun z => no (wipe_ownd z).1) nf, fun a h => ?_, fun a h => ?_, fun i y h => ?_, S.grow⟩, ow⟩
  · show (restL s1.sl sn.sl own).length = _
    rw [restL_len, ← hl]; exact R1.len
  · rw [gr] at h
    by_cases m : i ∈ own
    · rw [if_pos m] at h
      obtain ⟨v, e1, e2⟩ := R1.val i d h
      exact ⟨v, e1, e2.mono S.le⟩
    · rw [if_neg m] at h
      obtain ⟨v, e1, e2⟩ := Rn.val i d h
      rw [g2 i m] at e1
      exact ⟨v, e1, e2⟩
  · rw [gr] at h
    by_cases m : i ∈ own
    · rw [if_pos m] at h
      obtain ⟨p, e1, n, nf, sh⟩ := R1.own i d h
      obtain ⟨f1, f2, f3⟩ := oldFacts i d p m h e1
      exact ⟨p, e1, f1, nf, sh.mono S.le f2⟩
    · rw [if_neg m] at h
      obtain ⟨p, e1, n⟩ := Rn.own i d h
      rw [g2 i m] at e1
      exact ⟨p, e1, n⟩
  · rw [gr] at h1 h2
    have cross : ∀ (i j : Nat) d e, i ∈ own → j ∉ own → s1.sl[i]? = some (some (true, d)) → sn.sl[j]? = some (some (true, e)) → σ[i]? = some (some (.ref p)) → σ[j]? = some (some (.ref p)) → False := fun i j d e hi hj h1 h2 h3 h4 => by
      have o : Ownd sn (L2.wipe σ own) p := ⟨j, e, h2, by rw [g2 j hj]; exact h4⟩
      rcases S.own p o with z | z
      · exact oldOwn i d p hi h1 h3 z
      · exact (oldFacts i d p hi h1 h3).2.2 z
    by_cases m1 : i ∈ own
    · by_cases m2 : j ∈ own
      · rw [if_pos m1] at h1
        rw [if_pos m2] at h2
        exact R1.inj i j d e p h1 h2 h3 h4
      · rw [if_pos m1] at h1
        rw [if_neg m2] at h2
        exact (cross i j d e m1 m2 h1 h2 h3 h4).elim
    · by_cases m2 : j ∈ own
      · rw [if_neg m1] at h1
        rw [if_pos m2] at h2
        exact (cross j i e d m2 m1 h2 h1 h4 h3).elim
      · rw [if_neg m1] at h1
        rw [if_neg m2] at h2
        exact Rn.inj i j d e p h1 h2 (by rw [g2 i m1]; exact h3) (by rw [g2 j m2]; exact h4)
  · rcases S.new a h with z | z | z
    · exact .inl z
    · exact .inr (.inl z)
    · exact .inr (.inr (wipe_ownd z).1)
  · rcases ow a h with z | z
    · exact .inl z
    · rcases S.own a z with z | z
      · exact .inl (wipe_ownd z).1
      · exact .inr z
  · rw [gr]
    by_cases m : i ∈ own
    · rw [if_pos m]; exact ⟨y, h⟩
    · rw [if_neg m]
      refine S.kp i y ?_
      show (wipeO s1.sl own)[i]? = _
      rw [wipeO_get, if_neg m]; exact h
/-- an object that is nobody's is changed -/
theorem Rl.updN {p : Addr} {o : HO} (R : Rl K T F H s σ) (n : F p = none) (nf : ¬ T.fp p) (no : ¬ Ownd s σ p) : Rl K T F (upd H p o) s σ := by
  refine ⟨fun a u e => ?_, R.len, R.val, fun i d e => ?_, R.inj, T.dep _ _ _ R.gs fun a ha => upd_ne (fun (z : a = p) => nf (by rw [← z]; exact ha)), R.gf⟩
  · have ne : a ≠ p := fun z => by rw [z, n] at e; cases e
    rw [upd_ne ne]; exact R.sub a u e
  · obtain ⟨q, h1, h2, h3, h4⟩ := R.own i d e
    have ne : q ≠ p := fun z => no ⟨i, d, e, by rw [← z]; exact h1⟩
    exact ⟨q, h1, h2, h3, h4.mono (Le.refl _) (upd_ne ne)⟩
theorem Stp.updN {F' H' : Hp} {s' : Sg G} {σ' : Sl} {p : Addr} {o : HO} (S : Stp T F H s σ F' H' s' σ') (h : H p = Option.none) : Stp T F H s σ F' (upd H' p o) s' σ' := by
  refine ⟨S.le, fun a u e no nf => ?_, S.new, S.own, S.kp, fun a e => ?_⟩
  · have ne : a ≠ p := fun z => by rw [z, h] at e; cases e
    rw [upd_ne ne]; exact S.keep a u e no nf
  · by_cases q : a = p
    · subst q; rw [upd_same]; exact fun z => nomatch z
    · rw [upd_ne q]; exact S.grow a e
/-- tests of a comprehension -/
def wpTs (X : Cx) : List Expr → TT
  | [] => tYes
  | [c] => wpT X c
  | _ => fun _ _ _ => False
theorem pts_self (X : Cx) : ∀ {ifs : List Expr}, ifs.length ≤ 1 → PTs X ifs (wpTs X ifs)
  | [], _ => pts_nil
  | [c], _ => pts_one (pt_self X c)
  | _ :: _ :: _, h => by simp at h
def STs (X : Cx) (K : Env1) (T : Gt G) (W : WX1) (ifs : List Expr) (f : Sg G → Rs G Ov) : Prop := ∀ F H σ s Q, Rl K T F H s σ → PstT K T W F H s σ (f s) Q → wpTs X ifs σ H Q
theorem sts_nil : STs X K T W [] (evC (G := G) (.bl true)) := fun F H σ s Q R h => h F H (Stp.refl ..) R
theorem sts_one (h : ST X K T W c fc) : STs X K T W [c] fc := h
/-- nothing is raised out of a comprehension -/
abbrev W0 : WX1 := fun _ _ _ _ => False
theorem lc_core0 {ds : List D} {J : It} {t : Tg} {ft fe : Sg G → Rs G Ov} {own : List Nat} {tt : TT} {te : TE} {Q : VK}
    (ht : ∀ F H σ s Q, Rl K T F H s σ → PstT K T W0 F H s σ (ft s) Q → tt σ H Q) (he : ∀ F H σ s Q, Rl K T F H s σ → PstE K T W0 F H s σ (fe s) Q → te σ H Q)
    (ho : tgIn t own) (hk : K.K = X.K) (R1 : Rl K T F1 H1 s1 σ) (hJ : Walk J ds.length (fun H' => Le F1 H' ∧ ∀ a o, H1 a = some o → ¬ Ownd s1 σ a → ¬ T.fp a → H' a = some o) (Yd K F1 ds))
    (h : PstE K T W F1 H1 s1 σ (evLcD ds t ft fe own s1) Q) : tLc (fun _ _ R => R J H1) (gOf X.K t) tt te own σ H1 Q := by
    intro D nD
    unfold evLcD at h
    by_cases hz : ds.length ≤ sizeLine
    · rw [if_pos hz] at h
      have h1 := h
      obtain ⟨fD, npD, noD⟩ := R1.free nD
      have Rw := R1.wipe own
      obtain ⟨Rw2, Sw2⟩ := Rw.new (o := .lst []) nD
      refine lc_it hJ (fun i Hi => ∃ Fi si acc rs, Rl K T Fi Hi si (L2.wipe σ own) ∧ Stp T F1 H1 (wipeS s1 own) (L2.wipe σ own) Fi Hi si (L2.wipe σ own) ∧ Fi D = none ∧ ¬ Ownd si (L2.wipe σ own) D ∧ Hi D = some (.lst acc) ∧ Reps K Fi acc rs ∧ rs.length ≤ i ∧ (∀ (j : Nat) y, si.sl[j]? = some (some y) → j ∉ own) ∧
        PstE K T W F1 H1 s1 σ ((lcL t ft fe own (ds.drop i) si).bind fun rs' s2 => .ok (.fr (.lst (rs ++ rs'))) (restS own s1 s2)) Q) ?_ (fun i Hi _ ⟨Fi, si, acc, rs, Ri, Si, _⟩ => ⟨Si.le.trans Ri.sub, fun a o e no nf => Si.keep a o e (fun z => no (wipe_ownd z).1) nf⟩) (fun i x Hi H' hlt p y => ?_) (fun Hi p => ?_)
      · have wz : ∀ (j : Nat) y, (wipeS s1 own).sl[j]? = some (some y) → j ∉ own := fun j y hj m => by
          have hj : (wipeO s1.sl own)[j]? = some (some y) := hj
          rw [wipeO_get, if_pos m] at hj
          cases q : s1.sl[j]? with
          | none => rw [q] at hj; cases hj
          | some z => rw [q] at hj; cases hj
        refine ⟨F1, wipeS s1 own, [], [], Rw2, Sw2, fD, fun z => noD (wipe_ownd z).1, upd_same, .nil, Nat.le_refl _, wz, ?_⟩
        rw [List.drop_zero]
        exact h1
      · obtain ⟨Fi, si, acc, rs, Ri, Si, fDi, noDi, aDi, rep, hrs, hwp, hp⟩ := p
        have hd : ds[i]? = some ds[i] := List.getElem?_eq_getElem hlt
        have edrop : ds.drop i = ds[i] :: ds.drop (i + 1) := List.drop_eq_getElem_cons hlt
        rw [edrop] at hp
        have y' : Yd K Fi ds i Hi x H' := by
          obtain ⟨d, e1, y⟩ := y
          refine ⟨d, e1, ?_⟩
          rcases y with ⟨e2, r⟩ | ⟨p, vs, es, e2, e3, e4, e5, r⟩
          · exact .inl ⟨e2, r.mono Si.le⟩
          · exact .inr ⟨p, vs, es, e2, e3, e4, e5, r.mono Si.le⟩
        cases q1 : asgT t ds[i] si with
        | none => unfold lcL at hp; rw [q1] at hp; exact hp.elim
        | some s2 =>
          rw [← hk]
          refine asgT_ok Ri hd y' q1 fun F2 σ2 R2 S2 l2 hw => ⟨?_, ?_⟩
          · have := hw own ho
            rw [this, wipe_eq, wipe_eq]
            apply List.ext_getElem?
            intro j
            rw [wipeO_get, wipeO_get]
            by_cases m : j ∈ own
            · rw [if_pos m, if_pos m]; cases σ[j]? <;> rfl
            · rw [if_neg m]
          · have ew : L2.wipe σ2 own = L2.wipe σ own := by
              have := hw own ho
              rw [this, wipe_eq, wipe_eq]
              apply List.ext_getElem?
              intro j
              rw [wipeO_get, wipeO_get]
              by_cases m : j ∈ own
              · rw [if_pos m, if_pos m]; cases σ[j]? <;> rfl
              · rw [if_neg m]
            have stay : ∀ {Fa Ha sa}, Stp T Fi Hi si (L2.wipe σ own) Fa Ha sa σ2 → Rl K T Fa Ha sa σ2 → Fa D = none ∧ ¬ Ownd sa σ2 D ∧ Ha D = some (.lst acc) := fun {Fa Ha sa} Sa Ra => by
              have nn : Hi D ≠ none := by rw [aDi]; exact fun z => nomatch z
              refine ⟨?_, fun z => ?_, Sa.keep D _ aDi noDi npD⟩
              · apply Classical.byContradiction
                intro z
                rcases Sa.new D z with z | z | z
                · exact z fDi
                · exact nn z
                · exact noDi z
              · rcases Sa.own D z with z | z
                · exact noDi z
                · exact nn z
            -- the next turn
            have next : ∀ {Fa Ha sa}, Stp T Fi Hi si (L2.wipe σ own) Fa Ha sa σ2 → Rl K T Fa Ha sa σ2 → Rl K T Fa Ha (wipeS sa own) (L2.wipe σ own) ∧ Stp T F1 H1 (wipeS s1 own) (L2.wipe σ own) Fa Ha (wipeS sa own) (L2.wipe σ own) ∧ ¬ Ownd (wipeS sa own) (L2.wipe σ own) D ∧ (∀ (j : Nat) y, (wipeS sa own).sl[j]? = some (some y) → j ∉ own) := fun {Fa Ha sa} Sa Ra => by
              have Ra' : Rl K T Fa Ha (wipeS sa own) (L2.wipe σ own) := by rw [← ew]; exact Ra.wipe own
              have Sa' : Stp T Fi Hi si (L2.wipe σ own) Fa Ha (wipeS sa own) (L2.wipe σ own) := by
                refine ⟨Sa.le, Sa.keep, Sa.new, fun a z => ?_, fun j y hj => ?_, Sa.grow⟩
                · rw [← ew] at z
                  rw [← ew]
                  have := Sa.own a (wipe_ownd z).1
                  rw [← ew] at this
                  exact this
                · obtain ⟨z, hz⟩ := Sa.kp j y hj
                  refine ⟨z, ?_⟩
                  show (wipeO sa.sl own)[j]? = _
                  rw [wipeO_get, if_neg (hwp j y hj)]; exact hz
              refine ⟨Ra', Si.trans Sa' Rw Ra', fun z => ?_, fun j y hj m => ?_⟩
              · rw [← ew] at z
                exact (stay Sa Ra).2.1 (wipe_ownd z).1
              · have hj : (wipeO sa.sl own)[j]? = some (some y) := hj
                rw [wipeO_get, if_pos m] at hj
                cases q : sa.sl[j]? with
                | none => rw [q] at hj; cases hj
                | some z => rw [q] at hj; cases hj
            unfold lcL at hp
            rw [q1] at hp
            simp only [] at hp
            refine ht F2 H' σ2 s2 _ R2 ?_
            cases q2 : ft s2 with
            | no => rw [q2] at hp; exact hp.elim
            | er x g => rw [q2] at hp; exact hp.elim
            | ok x s3 =>
              rw [q2] at hp
              simp only [] at hp
              show (match tst s3 x with
                | some b => ∀ F' H'', Stp T F2 H' s2 σ2 F' H'' s3 σ2 → Rl K T F' H'' s3 σ2 → _
                | none => False)
              cases q3 : tst s3 x with
              | none => rw [q3] at hp; exact hp.elim
              | some bb =>
                rw [q3] at hp
                intro F3 H3 S3 R3
                have S13 := S2.trans S3 Ri R3
                cases bb with
                | false =>
                  rw [if_neg Bool.false_ne_true]
                  obtain ⟨n1, n2, n3, n4⟩ := next S13 R3
                  obtain ⟨k1, k2, k3⟩ := stay S13 R3
                  exact ⟨F3, wipeS s3 own, acc, rs, n1, n2, k1, n3, k3, rep.mono S13.le, by omega, n4, hp⟩
                | true =>
                  rw [if_pos rfl]
                  simp only [] at hp
                  refine he F3 H3 σ2 s3 _ R3 ?_
                  cases q4 : fe s3 with
                  | no => rw [q4] at hp; exact hp.elim
                  | er x g => rw [q4] at hp; exact hp.elim
                  | ok yv s4 =>
                    rw [q4] at hp
                    simp only [] at hp
                    intro w F4 H4 S4 R4 r4
                    cases q5 : use s4 yv with
                    | no => rw [q5] at hp; exact hp.elim
                    | er x g => rw [q5] at hp; exact hp.elim
                    | ok rr s5 =>
                      rw [q5] at hp
                      simp only [] at hp
                      obtain ⟨F5, R5, S5, p5⟩ := r4.used S4 R3 R4 q5
                      have S15 := S13.trans S5 Ri R5
                      obtain ⟨n1, n2, n3, n4⟩ := next S15 R5
                      obtain ⟨k1, k2, k3⟩ := stay S15 R5
                      refine ⟨acc, k3, ?_, F5, wipeS s5 own, acc ++ [w], rs ++ [rr], n1.updN k1 npD n3, n2.updN nD, k1, n3, upd_same, (rep.mono S15.le).append (.cons p5 .nil), by simp; omega, n4, ?_⟩
                      · rw [rep.length]; omega
                      · cases q6 : lcL t ft fe own (ds.drop (i + 1)) (wipeS s5 own) with
                        | no => rw [q6] at hp; exact hp.elim
                        | er x g => rw [q6] at hp; exact hp
                        | ok rs' s6 =>
                          rw [q6] at hp
                          have hp : PstE K T W F1 H1 s1 σ (.ok (.fr (.lst (rs ++ rr :: rs'))) (restS own s1 s6)) Q := hp
                          show PstE K T W F1 H1 s1 σ (.ok (.fr (.lst (rs ++ [rr] ++ rs'))) (restS own s1 s6)) Q
                          rw [List.append_assoc]
                          exact hp
      · obtain ⟨Fi, si, acc, rs, Ri, Si, fDi, noDi, aDi, rep, hrs, hwp, hp⟩ := p
        rw [List.drop_length] at hp
        have hp : PstE K T W F1 H1 s1 σ (.ok (.fr (.lst (rs ++ []))) (restS own s1 si)) Q := hp
        rw [List.append_nil] at hp
        obtain ⟨u1, u2, u3⟩ := R1.unwipe Ri Si
        exact hp (.ref D) Fi Hi u2 u1 ⟨D, rfl, nD, fDi, npD, fun z => (u3 D z).elim noD noDi, acc, aDi, rep⟩
    · rw [if_neg hz] at h; exact h.elim
theorem lc_core1 {fi : Sg G → Rs G (List D)} {t : Tg} {ft fe : Sg G → Rs G Ov} {own : List Nat} {wi : TI} {tt : TT} {te : TE} {Q : VK}
    (hi : ∀ F H σ s R, Rl K T F H s σ → PstI K T W F H s σ (fi s) R → wi σ H R) (ht : ∀ F H σ s Q, Rl K T F H s σ → PstT K T W0 F H s σ (ft s) Q → tt σ H Q) (he : ∀ F H σ s Q, Rl K T F H s σ → PstE K T W0 F H s σ (fe s) Q → te σ H Q)
    (ho : tgIn t own) (hk : K.K = X.K) (R : Rl K T F H s σ) (h : PstE K T W F H s σ (evLc fi t ft fe own s) Q) : tLc wi (gOf X.K t) tt te own σ H Q := by
  refine hi F H σ s _ R ?_
  unfold evLc at h
  cases q : fi s with
  | no => rw [q] at h; exact h.elim
  | er x g => rw [q] at h; exact h
  | ok ds s1 =>
    rw [q] at h
    intro J F1 H1 S1 R1 hJ
    exact lc_core0 ht he ho hk R1 (Walk.mono hJ (fun H' l => l.1) fun i H x H' hi _ y => y) (PstE.step S1 R R1 h)
end
end BF
set_option Elab.async false
set_option linter.all false
set_option autoImplicit false
set_option maxRecDepth 100000
set_option maxHeartbeats 2000000
/-! zip of two tuples whose pairs are kept: by a name, in a list -/
namespace BF
open PySem PySem.W PySem.Spec PyProof.Rows L2 RZ
/-- a zip, whatever it knows of its last pair -/
abbrev ZpAt (h : Heap) (z TI TO : Addr) (st : Value) (f : Bool) : Prop :=
  h.get? z = some { cls := .type "zip", dict := none, data := .fields #[st, .bool f, .bool false, .ref TI, .ref TO], slots := #[] }
section
variable {prog : Program} {w : World} {A : Around} {E : Value → Shared → Prop} {s : Shared} {z TI TO i1 i2 l1 l2 : Addr} {k1 k2 : Nat} {xs ys : Array Value} {x y a b st : Value} {f : Bool}
theorem dead_load {a : Addr} {Q : Option Obj → Shared → Prop} (ho : s.heap.get? a = none) (h : Q none s) : wpAny (model prog w) A (loadIfAlive a) Q E s := by
  have h' : Q (s.heap.get? a) s := by rw [ho]; exact h
  exact fun _ _ _ => h'
theorem zp_free_item {Q : Value → Shared → Prop} (D : ZipApart z TI TO i1 i2 l1 l2) (hz : ZpAt s.heap z TI TO st f)
    (fr : ∀ (Q : Bool → Shared → Prop) (E : Value → Shared → Prop), Q true s → wpAny (model prog w) A (Builtin.SmallTypes.ownedTupleIsFree (.ref z)) Q E s)
    (hTI : IsPair s.heap TI (.ref i1) (.ref i2)) (hTO : IsPair s.heap TO a b) (h1 : s.heap.IsTupleIter i1 l1 k1) (h2 : s.heap.IsTupleIter i2 l2 k2) (hl1 : s.heap.IsTuple l1 xs) (hl2 : s.heap.IsTuple l2 ys) (hx : xs[k1]? = some x) (hy : ys[k2]? = some y)
    (hQ : ∀ h', ZpAt h' z TI TO (rawInt s.heap.objs.size) false → IsPair h' TO x y → h'.IsTupleIter i1 l1 (k1 + 1) → h'.IsTupleIter i2 l2 (k2 + 1) → IsPair h' s.heap.objs.size x y → h'.objs.size = s.heap.objs.size + 1 →
      (∀ c o, c ≠ z → c ≠ TO → c ≠ i1 → c ≠ i2 → s.heap.get? c = some o → h'.get? c = some o) → Q (.ref s.heap.objs.size) { s with heap := h' }) :
    wpAny (model prog w) A (Builtin.«zip.__next__» ⟨[.ref z], []⟩) (fun fin s' => ∃ v, fin = .done (.ret v) ∧ Q v s') E s := by
  show wpAny _ _ (field (.ref z) 2 >>= _) _ _ _; refine wpAny_bind (wpAny_field hz rfl (x := .bool false) rfl ?_)
  show wpAny _ _ (field (.ref z) 3 >>= _) _ _ _; refine wpAny_bind (wpAny_field hz rfl (x := .ref TI) rfl ?_)
  refine wpAny_bind (wpAny_seqItems hTI rfl ?_); show wpAny _ _ (Builtin.SmallTypes.ownedTupleIsFree (.ref z) >>= _) _ _ _
  refine wpAny_bind (fr _ _ ?_); simp only [if_true]; refine wpAny_bind (wpAny_rule ?_)
  refine wpAny_bind (wpAny_field hz rfl (x := .ref TO) rfl ?_); refine wpAny_bind (wpAny_setField_rec hz (by simp) fun g1 z1 s1 => ?_)
  replace z1 : ZpAt g1 z TI TO .ellipsis f := z1; refine wpAny_bind ?_
  simp only [List.zipIdx_cons, List.zipIdx_nil, List.forIn_cons, List.forIn_nil]; refine wpAny_bind (wpAny_bind (wpAny_onRaise ?_))
  show wpAny _ _ (Builtin.SmallTypes.nextOf (.ref i1) >>= _) _ _ _; refine wpAny_bind (nextOf_tuple_item (h1.extBut s1.extBut D.i1z) (hl1.extBut s1.extBut D.l1z) hx fun g2 i12 s2 => wpAny_pure ?_)
  have t2 : IsPair g2 TO a b := s2.extBut _ _ D.TOi1 (s1.extBut _ _ D.TOz hTO)
  refine wpAny_bind (wpAny_seqItems t2 rfl ?_); refine wpAny_bind (wpAny_updateSeq_pair t2 fun g3 t3 s3 => ?_)
  replace t3 : IsPair g3 TO x b := t3; refine wpAny_bind (wpAny_letGo (wpAny_pure ?_))
  refine wpAny_bind (wpAny_bind (wpAny_onRaise ?_)); show wpAny _ _ (Builtin.SmallTypes.nextOf (.ref i2) >>= _) _ _ _
  refine wpAny_bind (nextOf_tuple_item (((h2.extBut s1.extBut D.i2z).extBut s2.extBut D.i12.symm).extBut s3.extBut D.TOi2.symm) (((hl2.extBut s1.extBut D.l2z).extBut s2.extBut D.l2i1).extBut s3.extBut D.l2TO) hy fun g4 i24 s4 => wpAny_pure ?_)
  have t4 : IsPair g4 TO x b := s4.extBut _ _ D.TOi2 t3
  refine wpAny_bind (wpAny_seqItems t4 rfl ?_); refine wpAny_bind (wpAny_updateSeq_pair t4 fun g5 t5 s5 => ?_)
  replace t5 : IsPair g5 TO x y := t5; refine wpAny_bind (wpAny_letGo (wpAny_pure (wpAny_pure ?_)))
  refine wpAny_bind (wpAny_seqItems t5 rfl ?_); refine wpAny_bind (wpAny_newTuple ?_)
  have sz : g5.objs.size = s.heap.objs.size := by rw [s5.1, s4.1, s3.1, s2.1, s1.1]
  have z5 : ZpAt g5 z TI TO .ellipsis f := s5.extBut _ _ D.TOz.symm (s4.extBut _ _ D.i2z.symm (s3.extBut _ _ D.TOz.symm (s2.extBut _ _ D.i1z.symm z1)))
  have k5 : ∀ c o, c ≠ z → c ≠ TO → c ≠ i1 → c ≠ i2 → s.heap.get? c = some o → g5.get? c = some o := fun c o c1 c2 c3 c4 e => s5.extBut _ _ c2 (s4.extBut _ _ c4 (s3.extBut _ _ c2 (s2.extBut _ _ c3 (s1.extBut _ _ c1 e))))
  have i15 : g5.IsTupleIter i1 l1 (k1 + 1) := ((i12.extBut s3.extBut D.TOi1.symm).extBut s4.extBut D.i12).extBut s5.extBut D.TOi1.symm
  have i25 : g5.IsTupleIter i2 l2 (k2 + 1) := i24.extBut s5.extBut D.TOi2.symm
  have zl : z < g5.objs.size := Heap.lt_size z5
  show wpAny _ _ (Builtin.SmallTypes.ownedTupleHandOut (.ref z) (.ref g5.objs.size) >>= _) _ _ _; refine wpAny_bind ?_
  unfold Builtin.SmallTypes.ownedTupleHandOut
  have z6 : ZpAt (g5.push { cls := .type "tuple", data := .seq #[x, y] }) z TI TO .ellipsis f := Heap.get?_push_of_some _ z5
  refine wpAny_bind (wpAny_setField_rec z6 (by simp) fun g7 z7 s7 => ?_)
  replace z7 : ZpAt g7 z TI TO (rawInt g5.objs.size) f := z7
  refine wpAny_setField_rec z7 (by simp) fun g8 z8 s8 => ?_
  replace z8 : ZpAt g8 z TI TO (rawInt g5.objs.size) false := z8
  have up : ∀ c o, c ≠ z → g5.get? c = some o → g8.get? c = some o := fun c o c1 e => s8.extBut _ _ c1 (s7.extBut _ _ c1 (Heap.get?_push_of_some _ e))
  have t8 : IsPair g8 g5.objs.size x y := s8.extBut _ _ (Nat.ne_of_gt zl) (s7.extBut _ _ (Nat.ne_of_gt zl) (Heap.get?_push_size _ rfl))
  have sz8 : g8.objs.size = g5.objs.size + 1 := by rw [s8.1, s7.1, Heap.size_push]
  rw [sz] at z8 t8 sz8; refine wpAny_pure ⟨_, rfl, ?_⟩; show Q (.ref g5.objs.size) _; rw [sz]
  exact hQ g8 z8 (up _ _ D.TOz t5) (i15.at fun o e => up _ o D.i1z e) (i25.at fun o e => up _ o D.i2z e) t8 sz8 fun c o c1 c2 c3 c4 e => up c o c1 (k5 c o c1 c2 c3 c4 e)
theorem zp_held_item {Q : Value → Shared → Prop} (D : ZipApart z TI TO i1 i2 l1 l2) (hz : ZpAt s.heap z TI TO st f)
    (hd : ∀ (Q : Bool → Shared → Prop) (E : Value → Shared → Prop), (∀ h' f', ZpAt h' z TI TO st f' → Heap.SameBut z s.heap h' → Q false { s with heap := h' }) → wpAny (model prog w) A (Builtin.SmallTypes.ownedTupleIsFree (.ref z)) Q E s)
    (hTI : IsPair s.heap TI (.ref i1) (.ref i2)) (h1 : s.heap.IsTupleIter i1 l1 k1) (h2 : s.heap.IsTupleIter i2 l2 k2) (hl1 : s.heap.IsTuple l1 xs) (hl2 : s.heap.IsTuple l2 ys) (hx : xs[k1]? = some x) (hy : ys[k2]? = some y)
    (hQ : ∀ h' f', ZpAt h' z TI TO st f' → h'.IsTupleIter i1 l1 (k1 + 1) → h'.IsTupleIter i2 l2 (k2 + 1) → IsPair h' s.heap.objs.size x y → h'.objs.size = s.heap.objs.size + 1 →
      (∀ c o, c ≠ z → c ≠ i1 → c ≠ i2 → s.heap.get? c = some o → h'.get? c = some o) → Q (.ref s.heap.objs.size) { s with heap := h' }) :
    wpAny (model prog w) A (Builtin.«zip.__next__» ⟨[.ref z], []⟩) (fun fin s' => ∃ v, fin = .done (.ret v) ∧ Q v s') E s := by
  show wpAny _ _ (field (.ref z) 2 >>= _) _ _ _; refine wpAny_bind (wpAny_field hz rfl (x := .bool false) rfl ?_)
  show wpAny _ _ (field (.ref z) 3 >>= _) _ _ _; refine wpAny_bind (wpAny_field hz rfl (x := .ref TI) rfl ?_)
  refine wpAny_bind (wpAny_seqItems hTI rfl ?_); show wpAny _ _ (Builtin.SmallTypes.ownedTupleIsFree (.ref z) >>= _) _ _ _
  refine wpAny_bind (hd _ _ fun g1 f' z1 s1 => ?_); simp only [Bool.false_eq_true, if_false]
  refine wpAny_bind ?_; rw [← Array.forIn_toList]; simp only [List.forIn_cons, List.forIn_nil]
  refine wpAny_bind (wpAny_bind (wpAny_holding ?_)); show wpAny _ _ (Builtin.SmallTypes.nextOf (.ref i1) >>= _) _ _ _
  refine wpAny_bind (nextOf_tuple_item (s := { s with heap := g1 }) (h1.extBut s1.extBut D.i1z) (hl1.extBut s1.extBut D.l1z) hx fun g2 i12 s2 => wpAny_pure ?_)
  refine wpAny_pure ?_; refine wpAny_bind (wpAny_bind (wpAny_holding ?_)); show wpAny _ _ (Builtin.SmallTypes.nextOf (.ref i2) >>= _) _ _ _
  refine wpAny_bind (nextOf_tuple_item (s := { s with heap := g2 }) ((h2.extBut s1.extBut D.i2z).extBut s2.extBut D.i12.symm) ((hl2.extBut s1.extBut D.l2z).extBut s2.extBut D.l2i1) hy fun g3 i23 s3 => wpAny_pure ?_)
  refine wpAny_pure (wpAny_pure ?_); show wpAny _ _ (newTuple [x, y] >>= _) _ _ _; refine wpAny_bind (wpAny_newTuple ?_)
  have sz : g3.objs.size = s.heap.objs.size := by rw [s3.1, s2.1, s1.1]
  have z3 : ZpAt g3 z TI TO st f' := s3.extBut _ _ D.i2z.symm (s2.extBut _ _ D.i1z.symm z1)
  have k3 : ∀ c o, c ≠ z → c ≠ i1 → c ≠ i2 → s.heap.get? c = some o → g3.get? c = some o := fun c o c1 c2 c3 e => s3.extBut _ _ c3 (s2.extBut _ _ c2 (s1.extBut _ _ c1 e))
  have i13 : g3.IsTupleIter i1 l1 (k1 + 1) := i12.extBut s3.extBut D.i12
  refine wpAny_pure ⟨_, rfl, ?_⟩; show Q (.ref g3.objs.size) _
  have t4 : IsPair (g3.push { cls := .type "tuple", data := .seq #[x, y] }) g3.objs.size x y := Heap.get?_push_size _ rfl
  have sz4 : (g3.push { cls := .type "tuple", data := .seq #[x, y] }).objs.size = g3.objs.size + 1 := Heap.size_push ..
  rw [sz] at t4 sz4 ⊢
  exact hQ _ f' (Heap.get?_push_of_some _ z3) (i13.at fun o e => Heap.get?_push_of_some _ e) (i23.at fun o e => Heap.get?_push_of_some _ e) t4 sz4 fun c o c1 c2 c3 e => Heap.get?_push_of_some _ (k3 c o c1 c2 c3 e)
/-- what the zip says of its last pair: free, or held -/
theorem zp_asks (hz : ZpAt s.heap z TI TO st f) (hs : st = .none ∨ ∃ T : Addr, st = rawInt T) :
    (∀ (Q : Bool → Shared → Prop) (E : Value → Shared → Prop), Q true s → wpAny (model prog w) A (Builtin.SmallTypes.ownedTupleIsFree (.ref z)) Q E s) ∨
    (∀ (Q : Bool → Shared → Prop) (E : Value → Shared → Prop), (∀ h' f', ZpAt h' z TI TO st f' → Heap.SameBut z s.heap h' → Q false { s with heap := h' }) → wpAny (model prog w) A (Builtin.SmallTypes.ownedTupleIsFree (.ref z)) Q E s) := by
  rcases hs with rfl | ⟨T, rfl⟩
  · refine .inl fun Q E h => ?_
    unfold Builtin.SmallTypes.ownedTupleIsFree
    exact wpAny_bind (wpAny_field hz rfl (x := .none) rfl (wpAny_pure h))
  · cases e : s.heap.get? T with
    | none =>
      refine .inl fun Q E h => ?_
      unfold Builtin.SmallTypes.ownedTupleIsFree
      refine wpAny_bind (wpAny_field hz rfl (x := rawInt T) rfl ?_)
      show wpAny _ _ (loadIfAlive ((T : Int).toNat) >>= _) _ _ _
      rw [Int.toNat_natCast]
      refine wpAny_bind (dead_load e ?_)
      exact wpAny_pure h
    | some o =>
      refine .inr fun Q E h => ?_
      unfold Builtin.SmallTypes.ownedTupleIsFree
      refine wpAny_bind (wpAny_field hz rfl (x := rawInt T) rfl ?_)
      show wpAny _ _ (loadIfAlive ((T : Int).toNat) >>= _) _ _ _
      rw [Int.toNat_natCast]
      refine wpAny_bind (kdx_alive e ?_)
      simp only [Option.isNone_some, Bool.false_eq_true, if_false]
      refine wpAny_bind (wpAny_field hz rfl (x := .bool f) rfl ?_)
      cases f with
      | true =>
        rw [if_neg (show ¬ ((Value.bool true != Value.bool true) = true) from Bool.false_ne_true)]
        exact wpAny_pure (h s.heap _ hz (Heap.SameBut.refl _ _))
      | false =>
        rw [if_pos (show (Value.bool false != Value.bool true) = true from rfl)]
        exact wpAny_bind (wpAny_setField_rec hz (by simp) fun g1 z1 s1 => wpAny_pure (h g1 _ z1 s1))

theorem zp_free_end {Q : Fin → Shared → Prop} (hh : A.handled = none) (D : ZipApart z TI TO i1 i2 l1 l2) (hz : ZpAt s.heap z TI TO st f)
    (fr : ∀ (Q : Bool → Shared → Prop) (E : Value → Shared → Prop), Q true s → wpAny (model prog w) A (Builtin.SmallTypes.ownedTupleIsFree (.ref z)) Q E s)
    (hTI : IsPair s.heap TI (.ref i1) (.ref i2)) (hTO : IsPair s.heap TO a b) (h1 : s.heap.IsTupleIter i1 l1 k1) (h2 : s.heap.IsTupleIter i2 l2 k2) (hl1 : s.heap.IsTuple l1 xs) (hl2 : s.heap.IsTuple l2 ys) (hend : xs[k1]? = none ∨ ys[k2]? = none)
    (hE : ∀ h' e, (∀ c o, c ≠ z → c ≠ TO → c ≠ i1 → c ≠ i2 → s.heap.get? c = some o → h'.get? c = some o) → (∃ o, h'.get? e = some o ∧ o.cls = .type "StopIteration") → E (.ref e) { s with heap := h' }) :
    wpAny (model prog w) A (Builtin.«zip.__next__» ⟨[.ref z], []⟩) Q E s := by
  show wpAny _ _ (field (.ref z) 2 >>= _) _ _ _; refine wpAny_bind (wpAny_field hz rfl (x := .bool false) rfl ?_)
  show wpAny _ _ (field (.ref z) 3 >>= _) _ _ _; refine wpAny_bind (wpAny_field hz rfl (x := .ref TI) rfl ?_)
  refine wpAny_bind (wpAny_seqItems hTI rfl ?_); show wpAny _ _ (Builtin.SmallTypes.ownedTupleIsFree (.ref z) >>= _) _ _ _
  refine wpAny_bind (fr _ _ ?_); simp only [if_true]; refine wpAny_bind (wpAny_rule ?_)
  refine wpAny_bind (wpAny_field hz rfl (x := .ref TO) rfl ?_); refine wpAny_bind (wpAny_setField_rec hz (by simp) fun g1 z1 s1 => ?_)
  replace z1 : ZpAt g1 z TI TO .ellipsis f := z1; refine wpAny_bind ?_
  simp only [List.zipIdx_cons, List.zipIdx_nil, List.forIn_cons, List.forIn_nil]; refine wpAny_bind (wpAny_bind (wpAny_onRaise ?_))
  show wpAny _ _ (Builtin.SmallTypes.nextOf (.ref i1) >>= _) _ _ _
  cases hx : xs[k1]? with
  | none =>
    refine wpAny_bind (nextOf_tuple_end hh (h1.extBut s1.extBut D.i1z) (hl1.extBut s1.extBut D.l1z) hx fun g2 e s2 he => ?_)
    obtain ⟨oe, hoe, hce⟩ := he
    have z2 : ZpAt g2 z TI TO .ellipsis f := s2 _ _ D.i1z.symm z1
    have hez : e ≠ z := fun q => by rw [q] at hoe; rw [z2] at hoe; cases hoe; simp at hce
    exact wpAny_setField_rec z2 (by simp) fun g3 _ s3 => hE g3 e (fun c o c1 _ c3 _ q => s3.extBut _ _ c1 (s2 _ _ c3 (s1.extBut _ _ c1 q))) ⟨oe, s3.extBut _ _ hez hoe, hce⟩
  | some x =>
    have hy : ys[k2]? = none := by rcases hend with h | h; rw [hx] at h; cases h; exact h
    refine wpAny_bind (nextOf_tuple_item (h1.extBut s1.extBut D.i1z) (hl1.extBut s1.extBut D.l1z) hx fun g2 i12 s2 => wpAny_pure ?_)
    have t2 : IsPair g2 TO a b := s2.extBut _ _ D.TOi1 (s1.extBut _ _ D.TOz hTO)
    refine wpAny_bind (wpAny_seqItems t2 rfl ?_); refine wpAny_bind (wpAny_updateSeq_pair t2 fun g3 t3 s3 => ?_)
    refine wpAny_bind (wpAny_letGo (wpAny_pure ?_)); refine wpAny_bind (wpAny_bind (wpAny_onRaise ?_))
    show wpAny _ _ (Builtin.SmallTypes.nextOf (.ref i2) >>= _) _ _ _
    refine wpAny_bind (nextOf_tuple_end hh (((h2.extBut s1.extBut D.i2z).extBut s2.extBut D.i12.symm).extBut s3.extBut D.TOi2.symm) (((hl2.extBut s1.extBut D.l2z).extBut s2.extBut D.l2i1).extBut s3.extBut D.l2TO) hy fun g4 e s4 he => ?_)
    obtain ⟨oe, hoe, hce⟩ := he
    have z4 : ZpAt g4 z TI TO .ellipsis f := s4 _ _ D.i2z.symm (s3.extBut _ _ D.TOz.symm (s2.extBut _ _ D.i1z.symm z1))
    have hez : e ≠ z := fun q => by rw [q] at hoe; rw [z4] at hoe; cases hoe; simp at hce
    exact wpAny_setField_rec z4 (by simp) fun g5 _ s5 => hE g5 e (fun c o c1 c2 c3 c4 q => s5.extBut _ _ c1 (s4 _ _ c4 (s3.extBut _ _ c2 (s2.extBut _ _ c3 (s1.extBut _ _ c1 q))))) ⟨oe, s5.extBut _ _ hez hoe, hce⟩
theorem zp_held_end {Q : Fin → Shared → Prop} (hh : A.handled = none) (D : ZipApart z TI TO i1 i2 l1 l2) (hz : ZpAt s.heap z TI TO st f)
    (hd : ∀ (Q : Bool → Shared → Prop) (E : Value → Shared → Prop), (∀ h' f', ZpAt h' z TI TO st f' → Heap.SameBut z s.heap h' → Q false { s with heap := h' }) → wpAny (model prog w) A (Builtin.SmallTypes.ownedTupleIsFree (.ref z)) Q E s)
    (hTI : IsPair s.heap TI (.ref i1) (.ref i2)) (h1 : s.heap.IsTupleIter i1 l1 k1) (h2 : s.heap.IsTupleIter i2 l2 k2) (hl1 : s.heap.IsTuple l1 xs) (hl2 : s.heap.IsTuple l2 ys) (hend : xs[k1]? = none ∨ ys[k2]? = none)
    (hE : ∀ h' e, (∀ c o, c ≠ z → c ≠ i1 → c ≠ i2 → s.heap.get? c = some o → h'.get? c = some o) → (∃ o, h'.get? e = some o ∧ o.cls = .type "StopIteration") → E (.ref e) { s with heap := h' }) :
    wpAny (model prog w) A (Builtin.«zip.__next__» ⟨[.ref z], []⟩) Q E s := by
  show wpAny _ _ (field (.ref z) 2 >>= _) _ _ _; refine wpAny_bind (wpAny_field hz rfl (x := .bool false) rfl ?_)
  show wpAny _ _ (field (.ref z) 3 >>= _) _ _ _; refine wpAny_bind (wpAny_field hz rfl (x := .ref TI) rfl ?_)
  refine wpAny_bind (wpAny_seqItems hTI rfl ?_); show wpAny _ _ (Builtin.SmallTypes.ownedTupleIsFree (.ref z) >>= _) _ _ _
  refine wpAny_bind (hd _ _ fun g1 f' z1 s1 => ?_); simp only [Bool.false_eq_true, if_false]
  refine wpAny_bind ?_; rw [← Array.forIn_toList]; simp only [List.forIn_cons, List.forIn_nil]
  refine wpAny_bind (wpAny_bind (wpAny_holding ?_)); show wpAny _ _ (Builtin.SmallTypes.nextOf (.ref i1) >>= _) _ _ _
  cases hx : xs[k1]? with
  | none =>
    refine wpAny_bind (nextOf_tuple_end (s := { s with heap := g1 }) hh (h1.extBut s1.extBut D.i1z) (hl1.extBut s1.extBut D.l1z) hx fun g2 e s2 he => ?_)
    exact hE g2 e (fun c o c1 c2 _ q => s2 _ _ c2 (s1.extBut _ _ c1 q)) he
  | some x =>
    have hy : ys[k2]? = none := by rcases hend with h | h; rw [hx] at h; cases h; exact h
    refine wpAny_bind (nextOf_tuple_item (s := { s with heap := g1 }) (h1.extBut s1.extBut D.i1z) (hl1.extBut s1.extBut D.l1z) hx fun g2 i12 s2 => wpAny_pure ?_)
    refine wpAny_pure ?_; refine wpAny_bind (wpAny_bind (wpAny_holding ?_)); show wpAny _ _ (Builtin.SmallTypes.nextOf (.ref i2) >>= _) _ _ _
    refine wpAny_bind (nextOf_tuple_end (s := { s with heap := g2 }) hh ((h2.extBut s1.extBut D.i2z).extBut s2.extBut D.i12.symm) ((hl2.extBut s1.extBut D.l2z).extBut s2.extBut D.l2i1) hy fun g3 e s3 he => ?_)
    exact hE g3 e (fun c o c1 c2 c3 q => s3 _ _ c3 (s2.extBut _ _ c2 (s1.extBut _ _ c1 q))) he
end
/-- a zip of two tuples that has gone i turns -/
def ZpSt (h : Heap) (z TI TO i1 i2 l1 l2 : Addr) (i : Nat) : Prop := (∃ st f, (st = .none ∨ ∃ T : Addr, st = rawInt T) ∧ ZpAt h z TI TO st f) ∧ IsPair h TI (.ref i1) (.ref i2) ∧ (∃ x y, IsPair h TO x y) ∧ h.IsTupleIter i1 l1 i ∧ h.IsTupleIter i2 l2 i
theorem ZpSt.keep {h h' : Heap} {z TI TO i1 i2 l1 l2 : Addr} {i : Nat} (st : ZpSt h z TI TO i1 i2 l1 l2 i) (k : ∀ b ∈ [z, TI, TO, i1, i2], ∀ o, h.get? b = some o → h'.get? b = some o) : ZpSt h' z TI TO i1 i2 l1 l2 i := by
  obtain ⟨⟨st, f, e, hz⟩, hTI, ⟨x, y, hTO⟩, h1, h2⟩ := st
  exact ⟨⟨st, f, e, k z (by simp) _ hz⟩, k TI (by simp) _ hTI, ⟨x, y, k TO (by simp) _ hTO⟩, h1.at fun o q => k i1 (by simp) o q, h2.at fun o q => k i2 (by simp) o q⟩
section
variable {prog : Program} {w : World} {A : Around} {E : Value → Shared → Prop} {s : Shared} {z TI TO i1 i2 l1 l2 : Addr} {i : Nat} {xs ys : Array Value} {x y : Value}
theorem zp_next {Q : Option Value → Shared → Prop} (D : ZipApart z TI TO i1 i2 l1 l2) (st : ZpSt s.heap z TI TO i1 i2 l1 l2 i) (hl1 : s.heap.IsTuple l1 xs) (hl2 : s.heap.IsTuple l2 ys) (hx : xs[i]? = some x) (hy : ys[i]? = some y)
    (hQ : ∀ h', ZpSt h' z TI TO i1 i2 l1 l2 (i + 1) → IsPair h' s.heap.objs.size x y → h'.objs.size = s.heap.objs.size + 1 →
      (∀ c o, c ≠ z → c ≠ TO → c ≠ i1 → c ≠ i2 → s.heap.get? c = some o → h'.get? c = some o) → Q (some (.ref s.heap.objs.size)) { s with heap := h' }) :
    wpAny (model prog w) A (pyNext (.ref z)) Q E s := by
  obtain ⟨⟨st, f, e, hz⟩, hTI, ⟨a, b, hTO⟩, h1, h2⟩ := st
  have hT : s.TypeIs (.ref z) "zip" := ⟨_, hz, rfl⟩
  unfold pyNext
  refine wpAny_bind (wpAny_attempt (wpAny_callSpecial?_slot (name := Str.ofString "__next__") hT PySem.F.slot_zip_next (wpAny_call_entry PySem.F.slot_zip_next hT PySem.F.entry_zip_next ?_ (PySem.F.args_zip_next_1 _))))
  rcases zp_asks (prog := prog) (w := w) (A := A.in1) hz e with fr | hd
  · exact zp_free_item D hz fr hTI hTO h1 h2 hl1 hl2 hx hy fun h' a1 a2 a3 a4 a5 a6 a7 => wpAny_pure (hQ h' ⟨⟨_, _, .inr ⟨_, rfl⟩, a1⟩, a7 _ _ D.TIz D.TITO D.TIi1 D.TIi2 hTI, ⟨_, _, a2⟩, a3, a4⟩ a5 a6 a7)
  · exact zp_held_item D hz hd hTI h1 h2 hl1 hl2 hx hy fun h' f' a1 a3 a4 a5 a6 a7 => wpAny_pure (hQ h' ⟨⟨_, _, e, a1⟩, a7 _ _ D.TIz D.TIi1 D.TIi2 hTI, ⟨_, _, a7 _ _ D.TOz D.TOi1 D.TOi2 hTO⟩, a3, a4⟩ a5 a6 fun c o c1 _ c3 c4 q => a7 c o c1 c3 c4 q)
theorem zp_done {Q : Option Value → Shared → Prop} (hh : A.handled = none) (D : ZipApart z TI TO i1 i2 l1 l2) (st : ZpSt s.heap z TI TO i1 i2 l1 l2 i) (hl1 : s.heap.IsTuple l1 xs) (hl2 : s.heap.IsTuple l2 ys) (hend : xs[i]? = none ∨ ys[i]? = none)
    (hQ : ∀ h', (∀ c o, c ≠ z → c ≠ TO → c ≠ i1 → c ≠ i2 → s.heap.get? c = some o → h'.get? c = some o) → Q none { s with heap := h' }) : wpAny (model prog w) A (pyNext (.ref z)) Q E s := by
  obtain ⟨⟨st, f, e, hz⟩, hTI, ⟨a, b, hTO⟩, h1, h2⟩ := st
  have hT : s.TypeIs (.ref z) "zip" := ⟨_, hz, rfl⟩
  unfold pyNext
  refine wpAny_bind (wpAny_attempt (wpAny_callSpecial?_slot (name := Str.ofString "__next__") hT PySem.F.slot_zip_next (wpAny_call_entry PySem.F.slot_zip_next hT PySem.F.entry_zip_next ?_ (PySem.F.args_zip_next_1 _))))
  rcases zp_asks (prog := prog) (w := w) (A := A.in1) hz e with fr | hd
  · refine zp_free_end hh D hz fr hTI hTO h1 h2 hl1 hl2 hend fun h' e' hk he => ?_
    obtain ⟨o, ho, hc⟩ := he
    exact wpAny_bind (wpAny_isInstance (T := "StopIteration") (b := true) ⟨o, ho, hc⟩ isSubtype_stop (wpAny_pure (hQ _ hk)))
  · refine zp_held_end hh D hz hd hTI h1 h2 hl1 hl2 hend fun h' e' hk he => ?_
    obtain ⟨o, ho, hc⟩ := he
    exact wpAny_bind (wpAny_isInstance (T := "StopIteration") (b := true) ⟨o, ho, hc⟩ isSubtype_stop (wpAny_pure (hQ _ fun c o c1 _ c3 c4 q => hk c o c1 c3 c4 q)))
end
theorem zp_self {prog : Program} {w : World} {A : Around} {E : Value → Shared → Prop} {s : Shared} {z TI TO : Addr} {st : Value} {f : Bool} {Q : Value → Shared → Prop} (hz : ZpAt s.heap z TI TO st f) (h : Q (.ref z) s) : wpAny (model prog w) A (pyIter (.ref z)) Q E s := by
  have hT : s.TypeIs (.ref z) "zip" := ⟨_, hz, rfl⟩
  refine wpAny_pyIter_slot hT PySem.F.slot_zip_iter (wpAny_call_entry PySem.F.slot_zip_iter hT PySem.F.entry_zip_iter ?_ (PySem.F.args_zip_iter_1 _))
  show wpAny _ _ (ret (.ref z)) _ _ s
  exact wpAny_pure ⟨_, rfl, "zip", _, hT, PySem.F.slot_zip_next.lookup, h⟩
/-- for x in zip(..), x a name -/
theorem turn_zipN {P : Program} {w : World} {K : PySem.W.Frag} {x0 : Str} {tpos : Pos} {a b z TI TO i1 i2 : Addr} (D : ZipApart z TI TO i1 i2 a b) :
    Turn P w K (.Name x0 tpos) (ItzT K a b) [z, TI, TO, i1, i2] z (fun i h => ZpSt h z TI TO i1 i2 a b i) where
  mem := by simp
  obj := fun i h st c hc => by
    obtain ⟨⟨st, f, e, hz⟩, hTI, ⟨x, y, hTO⟩, ⟨o1, e1, _, d1⟩, ⟨o2, e2, _, d2⟩⟩ := st
    have e' : c = z ∨ c = TI ∨ c = TO ∨ c = i1 ∨ c = i2 := by simpa using hc
    rcases e' with q | q | q | q | q
    · rw [q]; exact ⟨_, hz, fun v q => nomatch q⟩
    · rw [q]; exact ⟨_, hTI, fun v q => nomatch q⟩
    · rw [q]; exact ⟨_, hTO, fun v q => nomatch q⟩
    · rw [q]; exact ⟨o1, e1, fun v q => by rw [d1] at q; cases q⟩
    · rw [q]; exact ⟨o2, e2, fun v q => by rw [d2] at q; cases q⟩
  keep := fun i h h' st k => st.keep k
  item := by
    intro X hP hw hK hc i pins s σ H E I hf st hg
    subst hP hw hK
    obtain ⟨xs, ys, x, y, hqx, hqy, hx, hy⟩ := hg
    obtain ⟨its, rv, p, _⟩ := I.tuple hqx
    obtain ⟨its2, rv2, p2, _⟩ := I.tuple hqy
    obtain ⟨u, hu, ru⟩ := rv.get hx
    obtain ⟨u2, hu2, ru2⟩ := rv2.get hy
    have st0 := st
    refine zp_next D st p p2 (x := u) (y := u2) (by simpa using hu) (by simpa using hu2) fun h' st' hT hsz hk => ?_
    refine ⟨_, rfl, ?_⟩
    show wpAny _ _ (pure ()) _ _ _
    refine wpAny_pure ?_
    have new : ObjOk X.prog X.w (upd H s.heap.objs.size (.tup [x, y])) h' s.heap.objs.size (.tup [x, y]) := ⟨by show 2 ≤ sizeLine; decide, [u, u2], .cons ru (.cons ru2 .nil), ⟨_, hT, rfl, _, rfl⟩⟩
    have I1 : Inv X pins σ (upd H s.heap.objs.size (.tup [x, y])) { s with heap := h' } :=
      I.turnedNew (t' := s.toks) (ch := [z, TI, TO, i1, i2]) (fun c o hb q => hk c o (fun q' => hb (by simp [q'])) (fun q' => hb (by simp [q'])) (fun q' => hb (by simp [q'])) (fun q' => hb (by simp [q'])) q) hf (Nat.le_refl _) new
    refine ⟨.ref s.heap.objs.size, _, I1, rfl, ⟨_, x, y, rfl, I.hok.fresh (Nat.le_refl _), rfl, fun l hl => by rw [I.tuple_inj hl hqx]; exact hx, fun l hl => by rw [I.tuple_inj hl hqy]; exact hy⟩, st', fun c hcm => ?_⟩
    have hlt : c < s.heap.objs.size := by
      obtain ⟨⟨st, f, e, hz⟩, hTI, ⟨x, y, hTO⟩, ⟨o1, e1, _, d1⟩, ⟨o2, e2, _, d2⟩⟩ := st0
      have e' : c = z ∨ c = TI ∨ c = TO ∨ c = i1 ∨ c = i2 := by simpa using hcm
      rcases e' with q | q | q | q | q
      · rw [q]; exact Heap.lt_size hz
      · rw [q]; exact Heap.lt_size hTI
      · rw [q]; exact Heap.lt_size hTO
      · rw [q]; exact Heap.lt_size e1
      · rw [q]; exact Heap.lt_size e2
    rw [upd_ne (Nat.ne_of_lt hlt)]
    exact (hf c hcm).1
  done := by
    intro X hP hw hK hc i pins s σ H E I hf st hg
    subst hP hw hK
    obtain ⟨xs, ys, hqx, hqy, hend⟩ := hg
    obtain ⟨its, rv, p, _⟩ := I.tuple hqx
    obtain ⟨its2, rv2, p2, _⟩ := I.tuple hqy
    have l1 := rv.length
    have l2 := rv2.length
    have he : its.toArray[i]? = none ∨ its2.toArray[i]? = none := by
      rcases hend with q | q
      · exact .inl (by simp; omega)
      · exact .inr (by simp; omega)
    exact zp_done (I.ok.hd hc) D st p p2 he fun h' hk => ⟨rfl, I.turnedL (t' := s.toks) (ch := [z, TI, TO, i1, i2]) (fun c o hb q =>
      hk c o (fun q' => hb (by simp [q'])) (fun q' => hb (by simp [q'])) (fun q' => hb (by simp [q'])) (fun q' => hb (by simp [q'])) q) hf⟩
  self := fun A i s Q E st h => by
    obtain ⟨⟨st, f, e, hz⟩, _⟩ := st
    exact zp_self hz h
/-! list(zip(..)) -/
/-- the pairs that were made -/
structure ZpMade (xs ys : Array Value) (lo : Addr) (h : Heap) (as : List Addr) : Prop where
  rise : as.Nodup
  above : ∀ a ∈ as, lo < a
  pairs : ∀ (j : Nat) (a : Addr), as[j]? = some a → ∃ x y, xs[j]? = some x ∧ ys[j]? = some y ∧ IsPair h a x y
theorem ZpMade.there {xs ys : Array Value} {lo : Addr} {h : Heap} {as : List Addr} (g : ZpMade xs ys lo h as) {a : Addr} (ha : a ∈ as) : a < h.objs.size := by
  obtain ⟨j, hj⟩ := List.mem_iff_getElem?.mp ha
  obtain ⟨_, _, _, _, e⟩ := g.pairs j a hj
  exact Heap.lt_size e
section
variable {prog : Program} {w : World} {A : Around} {s : Shared} {R : Result → Shared → Prop} {xs ys : Array Value} {z TI TO i1 i2 l1 l2 S : Addr}
theorem zp_loop (hh : A.handled = none) (D : ZipApart z TI TO i1 i2 l1 l2) (hS0 : S ∉ [z, TI, TO, i1, i2, l1, l2]) (lo : Addr) (hlo : ∀ b ∈ [S, z, TI, TO, i1, i2, l1, l2], b ≤ lo) (n : Nat) (hn0 : n = min xs.size ys.size) (hn : n ≤ sizeLine) (res : Value) {h₁ : Heap}
    (hR : ∀ h' tk acc c as, (∀ b o, b ∉ [S, z, TO, i1, i2] → h₁.get? b = some o → h'.get? b = some o) → h'.get? S = some { cls := .type "list", dict := none, data := .seq acc c, slots := #[] } → as.length = n → ZpMade xs ys lo h' as →
      acc.toList = as.map Value.ref → R (.ok (.ret res)) { s with heap := h', toks := tk }) :
    ∀ (k i : Nat) (h : Heap) (tk c : Nat) (acc : Array Value) (as : List Addr), n - i = k → i ≤ n → ZpSt h z TI TO i1 i2 l1 l2 i → h.IsTuple l1 xs → h.IsTuple l2 ys → (∀ b o, b ∉ [S, z, TO, i1, i2] → h₁.get? b = some o → h.get? b = some o) →
      h.get? S = some { cls := .type "list", dict := none, data := .seq acc c, slots := #[] } → acc.toList = as.map Value.ref → as.length = i → ZpMade xs ys lo h as → lo < h.objs.size →
      codeAny (model prog w) A (.builtin "list.extend.loop" ⟨[.ref S, .ref z, res], []⟩) R { s with heap := h, toks := tk } := by
  have ns : S ≠ z ∧ S ≠ TI ∧ S ≠ TO ∧ S ≠ i1 ∧ S ≠ i2 ∧ S ≠ l1 ∧ S ≠ l2 := by simpa using hS0
  obtain ⟨n1, n2, n3, n4, n5, n6, n7⟩ := ns
  have nl : ∀ {a}, lo < a → a ≠ S ∧ a ≠ z ∧ a ≠ TO ∧ a ≠ i1 ∧ a ≠ i2 := fun {a} h => by
    have hl := hlo
    simp only [List.mem_cons, List.not_mem_nil, or_false, forall_eq_or_imp, forall_eq] at hl
    obtain ⟨h1, h2, h3, h4, h5, h6, _⟩ := hl
    exact ⟨Nat.ne_of_gt (Nat.lt_of_le_of_lt h1 h), Nat.ne_of_gt (Nat.lt_of_le_of_lt h2 h), Nat.ne_of_gt (Nat.lt_of_le_of_lt h4 h), Nat.ne_of_gt (Nat.lt_of_le_of_lt h5 h), Nat.ne_of_gt (Nat.lt_of_le_of_lt h6 h)⟩
  intro k
  induction k with
  | zero =>
    intro i h tk c acc as hk hi hst hx hy hkeep hS hacc hal hG hls
    have hin : i = n := by omega
    refine codeAny_builtin PySem.F.entry_extend_loop ?_
    rw [Around.under_plainId PySem.F.plain_extend_loop _]
    show wpAny _ A.in1 (pyNext (.ref z) >>= _) _ _ _
    refine wpAny_bind (zp_done (s := { s with heap := h, toks := tk }) (A := A.in1) hh D hst hx hy (by
      rcases Nat.le_total xs.size ys.size with q | q
      · exact .inl (Array.getElem?_eq_none (by omega))
      · exact .inr (Array.getElem?_eq_none (by omega))) fun h' he => ?_)
    refine wpAny_pure (hR h' tk acc c as (fun b o hb e => ?_) (he S _ n1 n3 n4 n5 hS) (by omega) ⟨hG.rise, hG.above, fun j a hj => ?_⟩ hacc)
    · have hb' : b ≠ S ∧ b ≠ z ∧ b ≠ TO ∧ b ≠ i1 ∧ b ≠ i2 := by simpa using hb
      exact he b o hb'.2.1 hb'.2.2.1 hb'.2.2.2.1 hb'.2.2.2.2 (hkeep b o hb e)
    · obtain ⟨x, y, e1, e2, e3⟩ := hG.pairs j a hj
      have q := nl (hG.above a (List.mem_of_getElem? hj))
      exact ⟨x, y, e1, e2, he a _ q.2.1 q.2.2.1 q.2.2.2.1 q.2.2.2.2 e3⟩
  | succ k ih =>
    intro i h tk c acc as hk hi hst hx hy hkeep hS hacc hal hG hls
    have hlt : i < n := by omega
    have hi1 : i < xs.size := by omega
    have hi2 : i < ys.size := by omega
    have hsz : acc.size = i := by rw [← Array.length_toList, hacc, List.length_map, hal]
    refine codeAny_builtin PySem.F.entry_extend_loop ?_
    rw [Around.under_plainId PySem.F.plain_extend_loop _]
    show wpAny _ A.in1 (pyNext (.ref z) >>= _) _ _ _
    refine wpAny_bind (zp_next (s := { s with heap := h, toks := tk }) D hst hx hy (Array.getElem?_eq_getElem hi1) (Array.getElem?_eq_getElem hi2) fun h' hst' ht hz hkp => ?_)
    dsimp only at ht hz hkp ⊢
    have hS' := hkp S _ n1 n3 n4 n5 hS
    have up : ∀ b o, b ≠ S → h'.get? b = some o → (h'.update S (Obj.mapSeq (·.push (Value.ref h.objs.size)))).get? b = some o := fun b o hb e => (Heap.get?_update_other _ _ (Ne.symm hb)).trans e
    have hSl : S < h.objs.size := Heap.lt_size hS
    show wpAny _ A.in1 (updateSeq S (·.push (Value.ref h.objs.size)) >>= _) _ _ _
    refine wpAny_bind ?_
    refine wpAny_updateSeq hS' rfl (wpAny_pure ⟨plainId_quiet PySem.F.plain_extend_loop _, ih (i + 1) _ tk _ (acc.push (Value.ref h.objs.size)) (as ++ [h.objs.size]) (by omega) hlt (hst'.keep fun b hb o e => up b o (fun q => hS0 (by rw [← q]; revert hb; simp; rintro (q | q | q | q | q) <;> simp [q])) e)
      (hx.at fun o e => up l1 o n6.symm (hkp l1 o D.l1z D.l1TO D.l1i1 D.l1i2 e)) (hy.at fun o e => up l2 o n7.symm (hkp l2 o D.l2z D.l2TO D.l2i1 D.l2i2 e))
      (fun b o hb e => ?_) (Heap.get?_update_self _ hS' rfl) (by rw [Array.toList_push, hacc, List.map_append]; rfl) (by rw [List.length_append, hal]; rfl) ⟨?_, ?_, ?_⟩ ?_⟩) (by rw [hsz]; omega) (by show (acc.push (Value.ref h.objs.size)).size ≤ sizeLine + 1; rw [Array.size_push, hsz]; omega)
    · have hb' : b ≠ S ∧ b ≠ z ∧ b ≠ TO ∧ b ≠ i1 ∧ b ≠ i2 := by simpa using hb
      exact up b o hb'.1 (hkp b o hb'.2.1 hb'.2.2.1 hb'.2.2.2.1 hb'.2.2.2.2 (hkeep b o hb e))
    · refine List.nodup_append.mpr ⟨hG.rise, List.nodup_cons.mpr ⟨List.not_mem_nil, List.nodup_nil⟩, fun a ha b hb => ?_⟩
      rw [List.mem_singleton.mp hb]
      exact Nat.ne_of_lt (hG.there ha)
    · intro a ha
      rcases List.mem_append.mp ha with ha | ha
      · exact hG.above a ha
      · rw [List.mem_singleton.mp ha]; exact hls
    · intro j b hj
      rcases Nat.lt_trichotomy j as.length with h1 | h1 | h1
      · rw [List.getElem?_append_left h1] at hj
        obtain ⟨x, y, e1, e2, e3⟩ := hG.pairs j b hj
        have q := nl (hG.above b (List.mem_of_getElem? hj))
        exact ⟨x, y, e1, e2, up b _ q.1 (hkp b _ q.2.1 q.2.2.1 q.2.2.2.1 q.2.2.2.2 e3)⟩
      · subst h1
        have hb : h.objs.size = b := by simpa using hj
        subst hb
        subst hal
        exact ⟨_, _, Array.getElem?_eq_getElem hi1, Array.getElem?_eq_getElem hi2, up _ _ (Nat.ne_of_gt hSl) ht⟩
      · have hnone : (as ++ [h.objs.size])[j]? = none := List.getElem?_eq_none (by rw [List.length_append, List.length_singleton]; omega)
        rw [hnone] at hj; cases hj
    · have e : (h'.update S (Obj.mapSeq (·.push (Value.ref h.objs.size)))).get? h.objs.size = _ := up _ _ (Nat.ne_of_gt hSl) ht
      exact Nat.lt_trans hls (Heap.lt_size e)
end
end BF
set_option Elab.async false
set_option linter.all false
set_option autoImplicit false
set_option maxRecDepth 100000
set_option maxHeartbeats 2000000
namespace BF
open PySem PySem.W PySem.Spec PyProof.Rows L2 RZ
theorem zip_no_len : typeLookup (.type "zip") "__len__" = pure none := am_miss_of_fast (by first | decide +kernel | rfl)
theorem zip_no_hint : typeLookup (.type "zip") "__length_hint__" = pure none := am_miss_of_fast (by first | decide +kernel | rfl)
section
variable {prog : Program} {w : World} {A : Around} {E : Value → Shared → Prop} {s : Shared} {xs ys : Array Value} {z TI TO i1 i2 l1 l2 : Addr}
theorem zp_lens (st : ZpSt s.heap z TI TO i1 i2 l1 l2 0) (hx : s.heap.IsTuple l1 xs) (hy : s.heap.IsTuple l2 ys) : ∀ b ∈ [z, TI, TO, i1, i2, l1, l2], b < s.heap.objs.size := by
  obtain ⟨⟨st, f, e, hz⟩, hTI, ⟨x, y, hTO⟩, ⟨o1, e1, _⟩, ⟨o2, e2, _⟩⟩ := st
  obtain ⟨o3, e3, _⟩ := hx
  obtain ⟨o4, e4, _⟩ := hy
  intro b hb
  simp only [List.mem_cons, List.not_mem_nil, or_false] at hb
  rcases hb with q | q | q | q | q | q | q <;> rw [q] <;> exact Heap.lt_size (by assumption)
theorem zp_extend {R : Result → Shared → Prop} (hh : A.handled = none) (D : ZipApart z TI TO i1 i2 l1 l2) (st : ZpSt s.heap z TI TO i1 i2 l1 l2 0) (hx : s.heap.IsTuple l1 xs) (hy : s.heap.IsTuple l2 ys) (S : Addr) (hS0 : S ∉ [z, TI, TO, i1, i2, l1, l2]) (res : Value) (c₀ : Nat) (hS : s.heap.get? S = some { cls := .type "list", data := .seq #[] c₀ })
    (lo : Addr) (hlo : ∀ b ∈ [S, z, TI, TO, i1, i2, l1, l2], b ≤ lo) (hlo2 : lo < s.heap.objs.size) (hn : min xs.size ys.size ≤ sizeLine)
    (hR : ∀ h' tk acc c as, (∀ b o, b ∉ [S, z, TO, i1, i2] → s.heap.get? b = some o → h'.get? b = some o) → h'.get? S = some { cls := .type "list", dict := none, data := .seq acc c, slots := #[] } → as.length = min xs.size ys.size → ZpMade xs ys lo h' as →
      acc.toList = as.map Value.ref → R (.ok (.ret res)) { s with heap := h', toks := tk }) :
    wpAny (model prog w) A.in1 (Builtin.List.listExtendWith (.ref S) (.ref z) res)
      (fun fin s' => match fin with | .done f => R (.ok f) s' | .again c' => c'.quiet = true ∧ codeAny (model prog w) A c' R s') (fun e s' => R (.error e) s') s := by
  have hT : s.TypeIs (.ref z) "zip" := by obtain ⟨⟨st, f, e, hz⟩, _⟩ := st; exact ⟨_, hz, rfl⟩
  have hSz : S ≠ z := fun e => hS0 (by rw [e]; exact List.mem_cons_self ..)
  unfold Builtin.List.listExtendWith
  refine wpAny_bind (wpAny_typeOf hT ?_)
  have q1 : Builtin.List.listSameRef (.ref S) (.ref z) = false := by simp [Builtin.List.listSameRef, hSz]
  have q2 : (Value.type "zip" == Value.type "list") = false := by decide
  have q3 : (Value.type "zip" == Value.type "tuple") = false := by decide
  simp only [q1, q2, q3, Bool.or_false, Bool.false_eq_true, if_false]
  obtain ⟨⟨st0, f, e, hz⟩, _⟩ := id st
  refine wpAny_bind (zp_self hz ?_); refine wpAny_bind (wpAny_holding ?_); unfold Builtin.List.listLengthHint
  refine wpAny_bind (wpAny_specialOf hT zip_no_len ?_); show wpAny _ A.in1 (specialOf (Value.ref z) (Str.ofString "__length_hint__") >>= _) _ _ _
  refine wpAny_bind (wpAny_specialOf hT zip_no_hint ?_); refine wpAny_pure ?_
  show wpAny _ A.in1 (rule "list.extend.makes-room" >>= fun _ => Builtin.List.listTouch (.ref S) >>= fun _ => again (.builtin "list.extend.loop" ⟨[.ref S, .ref z, res], []⟩)) _ _ _
  refine wpAny_bind (wpAny_rule ?_); refine wpAny_bind ?_; show wpAny _ A.in1 (updateSeq S (·.push .none) >>= fun _ => updateSeq S (·.pop)) _ _ _
  refine wpAny_bind (wpAny_updateSeq hS rfl ?_)
  have hS2 := Heap.get?_update_self (Obj.mapSeq (·.push Value.none)) hS rfl
  refine wpAny_updateSeq (hz := by seq_fits) hS2 rfl ?_
  have hS3 := Heap.get?_update_self (Obj.mapSeq (·.pop)) hS2 rfl
  have oth : ∀ b o, b ≠ S → s.heap.get? b = some o → ((s.heap.update S (Obj.mapSeq (·.push Value.none))).update S (Obj.mapSeq (·.pop))).get? b = some o := fun b o hb e => (Heap.get?_update_other _ _ (Ne.symm hb)).trans ((Heap.get?_update_other _ _ (Ne.symm hb)).trans e)
  have nS : ∀ b ∈ [z, TI, TO, i1, i2, l1, l2], b ≠ S := fun b hb e => hS0 (by rw [← e]; exact hb)
  have ns : l1 ≠ S ∧ l2 ≠ S := ⟨nS l1 (by simp), nS l2 (by simp)⟩
  refine wpAny_pure ⟨plainId_quiet PySem.F.plain_extend_loop _, zp_loop (h₁ := s.heap) hh D hS0 lo hlo _ rfl hn res hR (min xs.size ys.size) 0 _ s.toks _ #[] [] (Nat.sub_zero _) (Nat.zero_le _) (st.keep fun b hb o e => oth b o (nS b (by revert hb; simp; rintro (q | q | q | q | q) <;> simp [q])) e)
    (hx.at fun o e => oth l1 o ns.1 e) (hy.at fun o e => oth l2 o ns.2 e) (fun b o hb e => oth b o (fun q => hb (by rw [q]; exact List.mem_cons_self ..)) e) hS3 rfl rfl ⟨List.nodup_nil, (fun _ ha => nomatch ha), (fun j a hj => by simp at hj)⟩ ?_⟩
  have := Heap.lt_size (oth z _ (nS z (by simp)) hz)
  simpa using hlo2
theorem zp_call {Q : Value → Shared → Prop} (hh : A.handled = none) (D : ZipApart z TI TO i1 i2 l1 l2) (st : ZpSt s.heap z TI TO i1 i2 l1 l2 0) (hx : s.heap.IsTuple l1 xs) (hy : s.heap.IsTuple l2 ys) (hn : min xs.size ys.size ≤ sizeLine)
    (hQ : ∀ h' tk acc c as, (∀ b o, b ∉ [z, TO, i1, i2] → s.heap.get? b = some o → h'.get? b = some o) → h'.get? s.heap.objs.size = some { cls := .type "list", dict := none, data := .seq acc c, slots := #[] } → as.length = min xs.size ys.size → ZpMade xs ys s.heap.objs.size h' as →
      acc.toList = as.map Value.ref → Q (.ref s.heap.objs.size) { s with heap := h', toks := tk }) :
    wpAny (model prog w) A (call (.type "list") [.ref z]) Q E s := by
  have ln := zp_lens st hx hy
  have hS0 : s.heap.objs.size ∉ [z, TI, TO, i1, i2, l1, l2] := fun h => Nat.lt_irrefl _ (ln _ h)
  refine callType_codes (Q₁ := fun obj s₁ => obj = .ref s.heap.objs.size ∧ s₁ = { s with heap := s.heap.push { cls := .type "list", data := .seq #[] } }) PySem.F.called_list (PySem.F.typeCall_list_1 _) PySem.F.entry_list_init (code_list_new _ ⟨rfl, rfl⟩) fun obj s₁ h₁ => ?_
  obtain ⟨rfl, rfl⟩ := h₁
  have hS : (s.heap.push { cls := .type "list", data := .seq #[] }).get? s.heap.objs.size = some { cls := .type "list", data := .seq #[] } := Heap.get?_push_size _ rfl
  refine ⟨⟨_, hS, rfl⟩, PySem.F.args_list_init_2 _ _, ?_⟩
  show wpAny _ _ (do let old ← Builtin.List.listItems (.ref s.heap.objs.size); Builtin.List.listUpdate (.ref s.heap.objs.size) (fun _ => #[]); letGo old.toList.reverse; Builtin.List.listExtendWith (.ref s.heap.objs.size) (.ref z) .none) _ _ _
  refine wpAny_bind ?_; unfold Builtin.List.listItems; refine wpAny_bind (wpAny_seqItems hS rfl (wpAny_pure ?_))
  show wpAny _ _ (updateSeq s.heap.objs.size (fun _ => #[]) >>= fun _ => letGo (#[] : Array Value).toList.reverse >>= fun _ => Builtin.List.listExtendWith (.ref s.heap.objs.size) (.ref z) .none) _ _ _
  refine wpAny_bind (wpAny_updateSeq hS rfl ?_)
  have hS2 := Heap.get?_update_self (Obj.mapSeq (fun _ => (#[] : Array Value))) hS rfl
  have oth : ∀ b o, s.heap.get? b = some o → ((s.heap.push { cls := .type "list", data := .seq #[] }).update s.heap.objs.size (Obj.mapSeq (fun _ => (#[] : Array Value)))).get? b = some o :=
    fun b o e => (Heap.get?_update_other _ _ (Nat.ne_of_gt (Heap.lt_size e))).trans (Heap.get?_push_of_some _ e)
  refine wpAny_bind (wpAny_letGo ?_)
  have hsz : ((s.heap.push { cls := .type "list", data := .seq #[] }).update s.heap.objs.size (Obj.mapSeq (fun _ => (#[] : Array Value)))).objs.size = s.heap.objs.size + 1 := by
    have := Heap.size_push s.heap { cls := .type "list", data := .seq #[] }
    simpa using this
  refine zp_extend (A := A.in1) hh D (st.keep fun b _ o e => oth b o e) (hx.at fun o e => oth _ o e) (hy.at fun o e => oth _ o e) s.heap.objs.size hS0 .none _ hS2 s.heap.objs.size (fun b hb => ?_) (by show s.heap.objs.size < _; rw [hsz]; exact Nat.lt_succ_self _) hn fun h' tk acc c as hk hS' hl hG hacc => ⟨rfl, hQ h' tk acc c as (fun b o hb e => hk b o (fun q => ?_) (oth b o e)) hS' hl hG hacc⟩
  · rcases List.mem_cons.mp hb with q | q
    · exact Nat.le_of_eq q
    · exact Nat.le_of_lt (ln b q)
  · rcases List.mem_cons.mp q with q | q
    · exact Nat.lt_irrefl _ (q ▸ Heap.lt_size e)
    · exact hb q
end
/-- new tuples, one behind the other -/
inductive NewT : Hp → List (List V) → List Addr → Hp → Prop
  | nil {H : Hp} : NewT H [] [] H
  | cons {H H' : Hp} {q : Addr} {x : List V} {xs : List (List V)} {ps : List Addr} : H q = none → NewT (upd H q (.tup x)) xs ps H' → NewT H (x :: xs) (q :: ps) H'
theorem NewT.fresh {H H' : Hp} {xs : List (List V)} {ps : List Addr} (n : NewT H xs ps H') : ∀ {p}, p ∉ ps → H' p = H p := by
  induction n with
  | nil => intro p _; rfl
  | cons h _ ih =>
    intro p hp
    rw [ih fun z => hp (List.mem_cons_of_mem _ z), upd_ne fun z => hp (by rw [z]; exact List.mem_cons_self ..)]
theorem Inv.newT {X : Cx} {pins : List (Addr × Obj)} {σ : L2.St} : ∀ {ps : List Addr} {xs : List (List V)} {H : Hp} {s : Shared}, Inv X pins σ H s → ps.Nodup → (∀ p ∈ ps, FpOk X pins H p) → xs.length = ps.length →
    (∀ (j : Nat) p x, ps[j]? = some p → xs[j]? = some x → x.length ≤ sizeLine ∧ ∃ us : List Value, Vals x us ∧ s.heap.get? p = some { cls := .type "tuple", data := .seq us.toArray }) → ∃ H', NewT H xs ps H' ∧ Inv X pins σ H' s
  | [], [], H, s, I, _, _, _, _ => ⟨H, .nil, I⟩
  | [], _ :: _, _, _, _, _, _, l, _ => by simp at l
  | _ :: _, [], _, _, _, _, _, l, _ => by simp at l
  | p :: ps, x :: xs, H, s, I, nd, fp, l, ob => by
    obtain ⟨hz, us, rv, e⟩ := ob 0 p x rfl rfl
    rw [List.nodup_cons] at nd
    have I1 : Inv X pins σ (upd H p (.tup x)) s := by
      have := I.take (t' := s.toks) (h' := s.heap) (it := p) (o := .tup x) (fun b ob _ q => q) (fp p (List.mem_cons_self ..)) ⟨hz, us, rv, ⟨_, e, rfl, _, rfl⟩⟩
      exact this
    obtain ⟨H', n, I2⟩ := Inv.newT (ps := ps) (xs := xs) I1 nd.2 (fun q hq => by
      obtain ⟨f0, f1⟩ := fp q (List.mem_cons_of_mem _ hq)
      exact ⟨by rw [upd_ne fun z => nd.1 (by rw [← z]; exact hq)]; exact f0, f1⟩) (by simpa using l) fun j q y h1 h2 => ob (j + 1) q y (by simpa using h1) (by simpa using h2)
    exact ⟨H', .cons (fp p (List.mem_cons_self ..)).1 n, I2⟩
/-- list(zip(a, b)) -/
theorem pe_lzip {X : Cx} {e e2 : Expr} {ta : TA} {p p2 pos pos2 : Pos} (hc : X.calm = true) (hgl : Gl X "list") (hml : X.mg "list" = none) (hg : Gl X "zip") (hm : X.mg "zip" = none) (ha : PA X [e, e2] ta)
    (hs : starEach [e, e2] X.env = (false, eval e X.env) :: starEach [e2] X.env) (hpl : (backTo pos (starEach [e2] X.env)).any (·.1) = false) :
    PE X (.Call (.Name "list" p2) [.Call (.Name "zip" p) [e, e2] [] pos] [] pos2) (fun σ H Q => ta σ H fun vs H1 => ∃ a b xs ys, vs = [.ref a, .ref b] ∧ SqT X.K H1 a xs ∧ SqT X.K H1 b ys ∧ xs.length ≤ 1000 ∧
      ∀ ps H2 l, NewT H1 ((xs.zip ys).map fun q => [q.1, q.2]) ps H2 → H2 l = none → Q (.ref l) (upd H2 l (.lst (ps.map V.ref)))) := by
  refine ⟨fun pins s σ H Q I h => ?_⟩
  refine wpAny_Call_Name_kw (ld_blt I hgl hml (by decide +kernel : bootBuiltins "list" = some (.type "list")) ?_)
  refine PyProof.Rows.callWith_type1 (rest := []) (Calls.spliced_cons (Call_ (ld_blt I hg hm PyProof.Rows.boot_zip (PyProof.Rows.callWith_type1 (thn (ha.run pos pins s σ H _ I h) fun us s1 ⟨vs, H1, I1, r1, q1⟩ => ?_) hs hpl)))) rfl rfl
  obtain ⟨a, b, xs, ys, ex, hqx, hqy, hz0, q⟩ := q1
  subst ex
  cases r1 with
  | cons r rr =>
    cases rr with
    | cons r' rr =>
      cases rr
      cases r
      cases r'
      obtain ⟨its, rv, p1, _⟩ := I1.tuple hqx
      obtain ⟨its2, rv2, p2, _⟩ := I1.tuple hqy
      obtain ⟨o1, ho1, _⟩ := id p1
      obtain ⟨o2, ho2, _⟩ := id p2
      refine call_zipT (show s1.heap.IsTuple a its.toArray from p1) (show s1.heap.IsTuple b its2.toArray from p2) fun h' hz hTI hTO h1 h2 hsz hk => ?_
      have D := PySem.W.ktu_apart s1.heap.objs.size a b (Heap.lt_size ho1) (Heap.lt_size ho2)
      refine Calls.spliced_nil ?_
      have lx := rv.length
      have ly := rv2.length
      have hx' : h'.IsTuple a its.toArray := (show s1.heap.IsTuple a its.toArray from p1).at fun o e => hk a o e
      have hy' : h'.IsTuple b its2.toArray := (show s1.heap.IsTuple b its2.toArray from p2).at fun o e => hk b o e
      refine zp_call (s := { s1 with heap := h' }) (I1.ok.hd hc) D ⟨⟨_, _, .inl rfl, hz⟩, hTI, ⟨_, _, hTO⟩, h1, h2⟩ hx' hy' (by rw [sizeLine_eq]; simp; omega) fun h3 tk acc c as hk3 hS hl hG hacc => ?_
      have I2 : Inv X pins σ H1 { s1 with heap := h3, toks := tk } := I1.kept (t' := tk) fun b o e => hk3 b o (fun hb => by
        have lt := Heap.lt_size e
        simp only [List.mem_cons, List.not_mem_nil, or_false] at hb
        exact absurd lt (Nat.not_lt.mpr (by rcases hb with q | q | q | q <;> rw [q] <;> first | exact Nat.le_refl _ | exact Nat.le_add_right _ _))) (hk b o e)
      have hge : ∀ p ∈ as, s1.heap.objs.size ≤ p := fun p hp => by
        have q : h'.objs.size < p := hG.above p hp
        rw [hsz] at q
        exact Nat.le_of_lt (Nat.lt_of_le_of_lt (Nat.le_add_right _ _) q)
      have fps : ∀ p, s1.heap.objs.size ≤ p → FpOk X pins H1 p := fun p hp => I1.fpOk hp (I1.hok.fresh hp)
      obtain ⟨H2, n2, I3⟩ := Inv.newT (ps := as) (xs := (xs.zip ys).map fun q => [q.1, q.2]) I2 hG.rise (fun p hp => fps p (hge p hp)) (by rw [hl]; simp; omega) fun j p x e1 e2 => by
        obtain ⟨u, u2, g1, g2, g3⟩ := hG.pairs j p e1
        rw [List.getElem?_map] at e2
        cases q3 : (xs.zip ys)[j]? with
        | none => rw [q3] at e2; cases e2
        | some xy =>
          rw [q3] at e2
          cases e2
          obtain ⟨x, y⟩ := xy
          obtain ⟨ex, ey⟩ := List.getElem?_zip_eq_some.mp q3
          obtain ⟨v1, k1, k2⟩ := rv.get ex
          obtain ⟨v2, k3, k4⟩ := rv2.get ey
          have w1 : its[j]? = some u := by simpa using g1
          have w2 : its2[j]? = some u2 := by simpa using g2
          rw [w1] at k1; cases k1
          rw [w2] at k3; cases k3
          exact ⟨by show 2 ≤ sizeLine; decide +kernel, [u, u2], .cons k2 (.cons k4 .nil), g3⟩
      have hln : ({ s1 with heap := h' } : Shared).heap.objs.size ∉ as := fun hp => Nat.lt_irrefl _ (hG.above _ hp)
      have hge2 : s1.heap.objs.size ≤ h'.objs.size := by rw [hsz]; omega
      have fl := fps h'.objs.size hge2
      have hn2 : H2 h'.objs.size = none := by rw [n2.fresh hln]; exact fl.1
      have rvs : ∀ l : List Addr, Vals (l.map V.ref) (l.map Value.ref) := fun l => by
        induction l with
        | nil => exact .nil
        | cons a l ih => exact .cons rfl ih
      have I4 : Inv X pins σ (upd H2 h'.objs.size (.lst (as.map V.ref))) { s1 with heap := h3, toks := tk } :=
        I3.take (t' := tk) (h' := h3) (it := h'.objs.size) (o := .lst (as.map V.ref)) (fun b ob _ q => q) ⟨hn2, fl.2⟩ ⟨by simp; rw [hl, sizeLine_eq]; simp; omega, as.map Value.ref, c, rvs as, by
          have e : acc = (as.map Value.ref).toArray := by rw [← hacc]
          rw [← e]; exact hS⟩
      exact ⟨.ref h'.objs.size, _, I4, rfl, q as H2 h'.objs.size n2 hn2⟩
/-- for x in zip(a, b), x a name, a and b tuples -/
theorem pi_zipN {X : Cx} {e e2 : Expr} {ta : TA} {p pos tpos : Pos} {x0 : Str} (hg : Gl X "zip") (hm : X.mg "zip" = none) (ha : PA X [e, e2] ta)
    (hs : starEach [e, e2] X.env = (false, eval e X.env) :: starEach [e2] X.env) (hpl : (backTo pos (starEach [e2] X.env)).any (·.1) = false) :
    PI X (.Name x0 tpos) (.Call (.Name "zip" p) [e, e2] [] pos) (fun σ H R => ta σ H fun vs H1 => ∃ a b xs ys, vs = [.ref a, .ref b] ∧ SqT X.K H1 a xs ∧ SqT X.K H1 b ys ∧ R (ItzT X.K a b) H1) := by
  refine ⟨fun pins s σ H R I h => ?_⟩
  refine Call_ (ld_blt I hg hm PyProof.Rows.boot_zip (PyProof.Rows.callWith_type1 (thn (ha.run pos pins s σ H _ I h) fun us s1 ⟨vs, H1, I1, r1, q1⟩ => ?_) hs hpl))
  obtain ⟨a, b, xs, ys, ex, hqx, hqy, q⟩ := q1
  subst ex
  cases r1 with
  | cons r rr =>
    cases rr with
    | cons r' rr =>
      cases rr
      cases r
      cases r'
      obtain ⟨its, rv, p1, _⟩ := I1.tuple hqx
      obtain ⟨its2, rv2, p2, _⟩ := I1.tuple hqy
      obtain ⟨o1, ho1, _⟩ := id p1
      obtain ⟨o2, ho2, _⟩ := id p2
      refine call_zipT (show s1.heap.IsTuple a its.toArray from p1) (show s1.heap.IsTuple b its2.toArray from p2) fun h' hz hTI hTO h1 h2 hsz hk => wpAny_pyIter_zip hz ?_
      have I2 : Inv X pins σ H1 { s1 with heap := h' } := I1.kept (t' := s1.toks) hk
      refine ⟨s1.heap.objs.size + 4, [s1.heap.objs.size + 4, s1.heap.objs.size + 2, s1.heap.objs.size + 3, s1.heap.objs.size, s1.heap.objs.size + 1], _, _, H1, rfl, I2, turn_zipN (PySem.W.ktu_apart s1.heap.objs.size a b (Heap.lt_size ho1) (Heap.lt_size ho2)), ⟨⟨_, _, .inl rfl, hz⟩, hTI, ⟨_, _, hTO⟩, h1, h2⟩, fun c hcm => ?_, q⟩
      have hle : s1.heap.objs.size ≤ c := by
        simp only [List.mem_cons, List.not_mem_nil, or_false] at hcm
        rcases hcm with z | z | z | z | z <;> rw [z] <;> first | exact Nat.le_refl _ | exact Nat.le_add_right _ _
      exact I1.fpOk hle (I1.hok.fresh hle)
end BF
set_option Elab.async false
set_option linter.all false
set_option autoImplicit false
set_option maxRecDepth 100000
set_option maxHeartbeats 2000000
namespace BF
open PySem PySem.Spec PyProof.Rows L2
section
variable {G : Type}
def evDnew (s : Sg G) : Rs G Ov := .ok (.fr (.dct [])) s
/-- {k: v} -/
def evD1 (f : Sg G → Rs G (List Ov)) (s : Sg G) : Rs G Ov := (f s).bind fun xs s1 => (uses s1 xs).bind fun ds s2 => match ds with
  | [k, v] => if (leafK k || tupK k) = true then .ok (.fr (.dct [(k, v)])) s2 else .no
  | _ => .no
/-- d.get(k, x), d a slot -/
def isDct : D → Bool
  | .dct _ => true
  | _ => false
def getO : D → D → D → Option D
  | .dct kvs, k, x => if sortB (kvs.map (·.1)) k = true then some ((getK kvs k).getD x) else none
  | _, _, _ => none
theorem getO_inv {c k x d : D} (h : getO c k x = some d) : ∃ kvs, c = .dct kvs ∧ sortB (kvs.map (·.1)) k = true ∧ d = (getK kvs k).getD x := by
  cases c with
  | dct kvs =>
    simp only [getO] at h
    split at h
    · rename_i q; cases h; exact ⟨kvs, rfl, q, rfl⟩
    · cases h
  | _ => cases h
def evGet (i : Nat) (f : Sg G → Rs G (List Ov)) (s : Sg G) : Rs G Ov := match look s i with
  | some c0 => if isDct c0 = true then (f s).bind fun xs s1 => (uses s1 xs).bind fun ds s2 => (match ds, look s2 i with
    | [k, x], some c => (match getO c k x with
      | some d => .ok (.vl d) s2
      | none => .no)
    | _, _ => .no) else .no
  | none => .no
/-- x.pop(), x an own list -/
def evPop (i : Nat) (s : Sg G) : Rs G Ov := match s.sl[i]? with
  | some (some (true, .lst ds)) => (match ds.getLast? with
    | some d => .ok (.vl d) (setS s i (some (true, .lst ds.dropLast)))
    | none => .no)
  | _ => .no
end
section
variable {X : Cx} {pos : Pos} {k v : Expr} {tk tv : TE} {K : Env1}
theorem raw_new {P : Program} {w : World} {H : Hp} (h : Heap) (hb : sysModules < h.objs.size) : ObjOk P w H (h.push { cls := .type "dict", data := .dict #[] }) h.objs.size (rawD h.objs.size #[] 0) :=
  ⟨⟨⟨_, Heap.get?_push_size _ rfl, ⟨rfl, rfl, rfl⟩, rfl⟩, beq_eq_false_iff_ne.mpr (Ne.symm (Nat.ne_of_lt hb)), Nat.zero_le _⟩, ⟨_, Heap.get?_push_size _ rfl⟩, fun h1 h2 q e => ⟨q.1.at e, q.2⟩⟩
theorem pe_dnewR : PE X (.Dict [] [] pos) (fun _ H Q => ∀ p, H p = none → Q (.ref p) (upd H p (rawD p #[] 0))) := ⟨fun pins s σ H Q I h =>
  wpAny_Dict_empty ⟨.ref s.heap.objs.size, _, I.laid (a := s.heap.objs.size) (o := rawD s.heap.objs.size #[] 0) (t' := s.toks) (fun _ _ q => Heap.get?_push_of_some _ q) (Nat.le_refl _) (raw_new s.heap I.big), rfl, h _ (I.hok.fresh (Nat.le_refl _))⟩⟩
theorem pe_disp1 (hu : X.A.units + 65 < cLine) (hk : K.K = X.K) (hw : K.w = X.w) (pk : PE X k tk) (pv : PE X v tv) : PE X (.Dict [some k] [v] pos) (fun σ H Q => ∀ p, H p = none → tk σ (upd H p (rawD p #[] 0)) fun x H1 => tv σ H1 fun y H2 =>
    H2 p = some (rawD p #[] 0) ∧ ∃ F kd vd, Le F H2 ∧ Rep K F x kd ∧ Rep K F y vd ∧ (leafK kd || tupK kd) = true ∧ ∀ es' ep', RepK K F es'.toList [(kd, vd)] → Q (.ref p) (upd H2 p (rawD p es' ep'))) := by
  refine ⟨fun pins s σ H Q I q => ?_⟩
  have hn := I.hok.fresh (Nat.le_refl s.heap.objs.size)
  have I1 := I.laid (a := s.heap.objs.size) (o := rawD s.heap.objs.size #[] 0) (h' := s.heap.push { cls := .type "dict", data := .dict #[] }) (t' := s.toks) (fun _ _ q => Heap.get?_push_of_some _ q) (Nat.le_refl _) (raw_new s.heap I.big)
  rw [arm_eval_Dict, show (evalEachOpt [some k] X.env).zip ((evalEach [v] X.env).map fun v => do let x ← v; standAt pos; pure x) = (pairTrees [some k] [v] X.env pos).map (fun p => (some p.1, p.2)) from zip_pairTrees [some k] [v] X.env pos rfl rfl, dictDisplay_pairs (pairTrees [some k] [v] X.env pos) (by simp [pairTrees]) (by simp [pairTrees])]
  refine wpAny_bind (wpAny_standAt (wpAny_bind ?_))
  unfold subDict
  refine wpAny_bind (wpAny_alloc ?_)
  refine wpAny_bind (wpAny_holding ?_)
  rw [if_pos (by simp [pairTrees])]
  refine wpAny_bind ?_
  refine pairTrees_cons_walk (thn (pk.run pins _ σ _ _ I1 (q _ hn)) fun kv s1 ⟨x, H1, I2, rx, q1⟩ => thn (pv.run pins s1 σ H1 _ I2 q1) fun vv s2 ⟨y, H2, I3, ry, hp, F, kd, vd, l, rk, rv, hs, q2⟩ => pairTrees_nil_walk ?_)
  refine wpAny_holding ?_
  rw [List.forIn_cons]
  obtain ⟨h1, h2, h3⟩ := raw_at I3 hp
  have hs' : sortB (([] : List (D × D)).map (·.1)) kd = true := by simpa [sortB] using hs
  obtain ⟨n1, n2⟩ := nested_of I3 hk l 8 (sortB_keyN hs') rk rx
  have r0 : RepK K F (#[] : Array DictEntry).toList [] := .nil
  refine wpAny_bind (wpAny_bind (wpAny_bind (raw_set (A := X.A) (by omega) h1 (rawk_of I3 hk hw l r0 rfl) n1 n2 (sort_of r0 hs' rk rx) h3 fun h' ep' tk hd' sb => wpAny_pure (wpAny_pure (wpAny_pure (wpAny_pure (wpAny_pure ?_)))))))
  refine ⟨.ref _, _, ?_, rfl, q2 (putE #[] [] (nk kd) X.w kv vv) ep' ?_⟩
  · obtain ⟨o', g1, g2⟩ := id hd'
    exact d_write I3 (by rw [hp]; exact True.intro) sb ⟨o', g1⟩ ⟨⟨hd', h2, by simp [putE, sizeLine_eq]⟩, ⟨o', g1⟩, fun h1 h2 q e => ⟨q.1.at e, q.2⟩⟩
  · have := putE_of (k := kd) (d := vd) r0 rk rx rv ry
    simpa [putE, putK, hw] using this
end
section
variable {G : Type} {X : Cx} {K : Env1} {T : Gt G} {W : WX1} {a b c e : Expr} {es : List Expr} {fa fb fc : Sg G → Rs G Ov} {fl : Sg G → Rs G (List Ov)} {pos p1 p2 : Pos} {F H F1 H1 : Hp} {s s1 : Sg G} {σ : Sl}
theorem uses_no_er : ∀ (xs : List Ov) (s1 : Sg G) x g, uses s1 xs ≠ .er x g := by
  intro xs
  induction xs with
  | nil => intro s1 x g z; cases z
  | cons y ys ih =>
    intro s1 x g z
    simp only [uses] at z
    cases q3 : use s1 y with
    | no => rw [q3] at z; cases z
    | er x' g' => exact use_ok (s' := s1) x' g' q3
    | ok d s2 =>
      rw [q3] at z
      simp only [Rs.bind] at z
      cases q4 : uses s2 ys with
      | no => rw [q4] at z; cases z
      | er x' g' => exact ih s2 x' g' q4
      | ok ds s3 => rw [q4] at z; cases z
theorem se_dnew : SE X K T W (.Dict [] [] pos) (evDnew (G := G)) := fun F H σ s Q R h => wpE_of pe_dnewR fun p n => by
  obtain ⟨R1, S1⟩ := R.new (o := rawD p #[] 0) n
  obtain ⟨n1, nf, no⟩ := R.free n
  exact h (.ref p) F _ S1 R1 ⟨p, rfl, n, n1, nf, no, #[], 0, upd_same, .nil, rfl⟩
theorem keep_new {p : Addr} {o : HO} {F2 H2 : Hp} {s2 : Sg G} (R : Rl K T F H s σ) (n : H p = none) (S : Stp T F (upd H p o) s σ F2 H2 s2 σ) : H2 p = some o ∧ F2 p = none ∧ ¬ T.fp p ∧ ¬ Ownd s2 σ p := by
  obtain ⟨n1, nf, no⟩ := R.free n
  refine ⟨S.keep p o upd_same no nf, ?_, nf, fun z => ?_⟩
  · apply Classical.byContradiction
    intro q
    rcases S.new p q with z | z | z
    · exact z n1
    · rw [upd_same] at z; cases z
    · exact no z
  · rcases S.own p z with z | z
    · exact no z
    · rw [upd_same] at z; cases z
theorem se_d1 (hu : X.A.units + 65 < cLine) (hk : K.K = X.K) (hw : K.w = X.w) (hl : SL X K T W [a, b] fl) : SE X K T W (.Dict [some a] [b] pos) (evD1 fl) := by
  intro F H σ s Q R h
  refine wpE_of (pe_disp1 hu hk hw (pe_self X a) (pe_self X b)) fun p n => ?_
  obtain ⟨R1, S1⟩ := R.new (o := rawD p #[] 0) n
  have core : wpL X [a, b] σ (upd H p (rawD p #[] 0)) (fun vs H2 => ∀ x y, vs = [x, y] → H2 p = some (rawD p #[] 0) ∧ ∃ F kd vd, Le F H2 ∧ Rep K F x kd ∧ Rep K F y vd ∧ (leafK kd || tupK kd) = true ∧ ∀ es' ep', RepK K F es'.toList [(kd, vd)] → Q (.ref p) (upd H2 p (rawD p es' ep'))) := by
    refine hl F _ σ s _ R1 ?_
    unfold evD1 at h
    cases q : fl s with
    | no => rw [q] at h; exact h.elim
    | er x g => rw [q] at h; exact PstX.step S1 R R1 h
    | ok xs s1 =>
      rw [q] at h
      intro vs F2 H2 S2 R2 r2 x y ev
      simp only [Rs.bind] at h
      cases q2 : uses s1 xs with
      | no => rw [q2] at h; exact h.elim
      | er x g => exact (uses_no_er xs s1 x g q2).elim
      | ok ds s2 =>
        rw [q2] at h
        obtain ⟨F3, R3, S3, r3⟩ := r2.used S2 R1 R2 q2
        simp only [] at h
        split at h
        · rename_i k v
          split at h
          · rename_i hs
            obtain ⟨a1, a2, a3, a4⟩ := keep_new R n S3
            subst ev
            cases r3 with
            | cons r4 r5 => cases r5 with
              | cons r5 r6 =>
                refine ⟨a1, F3, k, v, R3.sub, r4, r5, hs, fun es' ep' rk => ?_⟩
                exact h (.ref p) F3 _ ((S1.trans S3 R R3).updN n) (R3.updN a2 a3 a4) ⟨p, rfl, n, a2, a3, a4, es', ep', upd_same, rk, by
                  simp only [List.map_cons, List.map_nil, dOk, List.all_cons, List.all_nil, Bool.and_true, nodupN, List.any_nil, Bool.not_false]
                  exact hs⟩
          · exact h.elim
        · exact h.elim
  exact wp_mono core fun x H1 q => wp_mono q fun y H2 q => q x y rfl
/-- x.pop() -/
theorem se_pop {i : Nat} {x : Str} {apos cpos : Pos} (hN : X.N[i]? = some x) (hv : Vis X.env.scope x) (hd : (x == ("__debug__" : Str)) = false) (hcd : (x == ("__classdict__" : Str)) = false) (hline : (apos.endLine == cpos.line) = true) :
    SE X K T W (.Call (.Attribute (.Name x p1) "pop" apos) [] [] cpos) (evPop (G := G) i) := by
  intro F H σ s Q R h
  unfold evPop at h
  split at h
  · rename_i ds e0
    cases q : ds.getLast? with
    | none => rw [q] at h; exact h.elim
    | some d =>
      rw [q] at h
      obtain ⟨p, h1, n, nf, vs, h2, h3⟩ := R.own i _ e0
      have q' := pe_bm0 (X := X) PySem.F.plainAttrs_list PySem.F.slot_list_pop PySem.F.type_list_pop mt_pop (pe_var (pos := p1) hN hv hd hcd) (cpos := cpos) (apos := apos) rfl hline
      have hlen := h3.length
      have hne : ds ≠ [] := by rintro rfl; simp at q
      have hd0 : ds[ds.length - 1]? = some d := by rw [← List.getLast?_eq_getElem?]; exact q
      obtain ⟨v, hv1, hv2⟩ := h3.get hd0
      refine wpE_of q' ⟨.ref p, h1, .inl ⟨rfl, vs, .inl (.inl h2)⟩, p, vs, v, rfl, rfl, h2, by rw [hlen]; exact hv1, ?_⟩
      have r' : Reps K F vs.dropLast ds.dropLast := by
        rw [List.dropLast_eq_take, List.dropLast_eq_take, hlen]
        exact h3.take _
      obtain ⟨R1, S1⟩ := R.mut e0 h1 r'
      exact h v F _ S1 R1 hv2
  · exact h.elim
/-- d.get(k, x) -/
theorem d_getR {pins : List (Addr × Obj)} {s0 : Shared} {a : Addr} {y z : V} {u r : Value} {A : Around} {E : Value → Shared → Prop} {kvs : List (D × D)} {k f : D} {Q : Value → Shared → Prop} (hu : A.units + 65 < cLine) (hk : K.K = X.K) (hw : K.w = X.w) (I : Inv X pins σ H s0) (l : Le F H) (dv : DcV K F H (.ref a) kvs) (rk : Rep K F y k) (ry : RelV y u) (rf : Rep K F z f) (rz : RelV z r) (hs : sortB (kvs.map (·.1)) k = true)
    (h : ∀ v w' s', Inv X pins σ H s' → RelV v w' → Rep K F v ((getK kvs k).getD f) → Q w' s') : wpAny (model X.prog X.w) A (call (.builtin "dict.get") [.ref a, u, r]) Q E s0 := by
  obtain ⟨a', es, ep, e, ha, rr, ok⟩ := dv
  cases e
  obtain ⟨h1, h2, h3⟩ := raw_at I ha
  obtain ⟨n1, n2⟩ := nested_of I hk l 8 (sortB_keyN hs) rk ry
  refine call_meetsIn PySem.F.slot_dict_get h1.typeIs PySem.F.entry_dict_get (PySem.F.args_dict_get_3 _ _ _) (raw_meets_get2 h2 u r) ⟨by omega, nk k, es, ep, _, h1, rawk_of I hk hw l rr ok, n1, n2, sort_of rr hs rk ry, fun tk => ?_⟩
  cases g : getK kvs k with
  | some d =>
    obtain ⟨w', v, e1, e2, e3⟩ := atK_val rr g
    rw [e1]
    exact h v w' _ (I.tok tk) e2 (by rw [g]; exact e3)
  | none =>
    have e1 := atK_some (k := k) rr
    rw [g] at e1
    have e2 : atK es (kvs.map fun kv => nk kv.1) (nk k) = none := by simpa using e1
    rw [e2]
    exact h z r _ (I.tok tk) rz (by rw [g]; exact rf)
theorem pe_getR {apos cpos : Pos} {i : Nat} {x : Str} (hu : X.A.units + 65 < cLine) (hk : K.K = X.K) (hw : K.w = X.w) (hN : X.N[i]? = some x) (hv : Vis X.env.scope x) (hd : (x == ("__debug__" : Str)) = false) (hcd : (x == ("__classdict__" : Str)) = false) (m : M2 X (.Name x p1) "get" apos b c cpos) :
    PE X (.Call (.Attribute (.Name x p1) "get" apos) [b, c] [] cpos) (fun σ H Q => ∃ a, σ[i]? = some (some (.ref a)) ∧ (∃ es ep, H a = some (rawD a es ep)) ∧ wpE X b σ H fun y H2 => wpE X c σ H2 fun z H3 => ∃ F kvs k f, Le F H3 ∧ DcV K F H3 (.ref a) kvs ∧ Rep K F y k ∧ Rep K F z f ∧ sortB (kvs.map (·.1)) k = true ∧ ∀ v, Rep K F v ((getK kvs k).getD f) → Q v H3) := by
  refine ⟨fun pins s σ H Q I h => ?_⟩
  obtain ⟨a, ha, ⟨es, ep, hr⟩, h⟩ := h
  refine wpAny_Call_method m.base m.few m.line PySem.F.plainAttrs_dict PySem.F.slot_dict_get PySem.F.type_dict_get (thn ((pe_var (pos := p1) hN hv hd hcd).run pins s σ H (fun v H1 => v = .ref a ∧ H1 = H) I ⟨_, ha, rfl, rfl⟩) fun u s1 ⟨x, H1, I1, rx, ex, eH⟩ => ?_)
  subst ex eH
  obtain rfl : u = Value.ref a := rx
  obtain ⟨r1, r2, r3⟩ := raw_at I1 hr
  refine ⟨r1.typeIs, fun b' q => ?_, ?_⟩
  · cases q
    obtain ⟨o, o1, o2, o3⟩ := r1
    exact ⟨o, o1, o2.2.1⟩
  rw [m.trees]
  refine Calls.callWith_builtin rfl (Calls.evalArgs_plain (Calls.spliced_cons (thn (h pins s1 I1) fun iv s2 ⟨y, H2, I2, ry, q2⟩ =>
    Calls.spliced_cons (thn (q2 pins s2 I2) fun fv s3 ⟨z, H3, I3, rz, F, kvs, k, f, l, dv, rk, rf, hs, q3⟩ => Calls.spliced_nil ?_))))
  exact d_getR hu hk hw I3 l dv rk ry rf rz hs fun v w' s4 I4 rw' rv => ⟨v, H3, I4, rw', q3 v rv⟩
theorem slot_val {i : Nat} {d : D} (R : Rl K T F H s σ) (h : look s i = some d) : ∃ v, σ[i]? = some (some v) ∧ RH K F H v d := by
  unfold look at h
  split at h
  · rename_i bb d' e
    cases h
    cases bb with
    | false => obtain ⟨v, h1, h2⟩ := R.val i _ e; exact ⟨v, h1, .inl h2⟩
    | true => obtain ⟨p, h1, _, _, h2⟩ := R.own i _ e; exact ⟨_, h1, .inr ⟨p, rfl, h2⟩⟩
  · cases h
theorem se_get {apos cpos : Pos} {i : Nat} {x : Str} (hu : X.A.units + 65 < cLine) (hk : K.K = X.K) (hw : K.w = X.w) (hN : X.N[i]? = some x) (hv : Vis X.env.scope x) (hd : (x == ("__debug__" : Str)) = false) (hcd : (x == ("__classdict__" : Str)) = false) (m : M2 X (.Name x p1) "get" apos b c cpos) (hl : SL X K T W [b, c] fl) :
    SE X K T W (.Call (.Attribute (.Name x p1) "get" apos) [b, c] [] cpos) (evGet i fl) := by
  intro F H σ s Q R h
  unfold evGet at h
  split at h
  · rename_i c0 e0
    split at h
    rotate_right
    · exact h.elim
    rename_i hc0
    obtain ⟨kvs0, rfl⟩ : ∃ kvs0, c0 = .dct kvs0 := by
      cases c0 <;> first | exact ⟨_, rfl⟩ | cases hc0
    obtain ⟨v, hv1, hv2⟩ := slot_val R e0
    obtain ⟨a, es, ep, rfl, ha, _, _⟩ := hv2.dct R.sub
    refine wpE_of (pe_getR hu hk hw hN hv hd hcd m) ⟨a, hv1, ⟨es, ep, ha⟩, ?_⟩
    have core : wpL X [b, c] σ H (fun vs H3 => ∀ y z, vs = [y, z] → ∃ F kvs k f, Le F H3 ∧ DcV K F H3 (.ref a) kvs ∧ Rep K F y k ∧ Rep K F z f ∧ sortB (kvs.map (·.1)) k = true ∧ ∀ v, Rep K F v ((getK kvs k).getD f) → Q v H3) := by
      refine hl F H σ s _ R ?_
      cases q : fl s with
      | no => rw [q] at h; exact h.elim
      | er x g => rw [q] at h; exact h
      | ok xs s1 =>
        rw [q] at h
        intro vs F1 H1 S1 R1 r1 y z ev
        simp only [Rs.bind] at h
        cases q2 : uses s1 xs with
        | no => rw [q2] at h; exact h.elim
        | er x g => exact (uses_no_er xs s1 x g q2).elim
        | ok ds s2 =>
          rw [q2] at h
          obtain ⟨F3, R3, S3, r3⟩ := r1.used S1 R R1 q2
          simp only [] at h
          split at h
          · rename_i k f cc e3
            split at h
            · rename_i d0 hd0
              obtain ⟨kvs, rfl, hs, rfl⟩ := getO_inv hd0
              subst ev
              cases r3 with
              | cons r4 r5 => cases r5 with
                | cons r5 r6 =>
                  obtain ⟨v', g1, g2⟩ := slot_val R3 e3
                  rw [hv1] at g1
                  cases g1
                  exact ⟨F3, kvs, k, f, R3.sub, g2.dct R3.sub, r4, r5, hs, fun v rv => h v F3 H1 S3 R3 rv⟩
            · exact h.elim
          · exact h.elim
    exact wp_mono core fun y H2 q => wp_mono q fun z H3 q => q y z rfl
  · exact h.elim
end
end BF
set_option Elab.async false
set_option linter.all false
set_option autoImplicit false
set_option maxRecDepth 100000
set_option maxHeartbeats 2000000
namespace BF
open PySem PySem.Spec PyProof.Rows L2 RZ
def zipD : List D → List D → List D
  | x :: xs, y :: ys => .tup [x, y] :: zipD xs ys
  | _, _ => []
theorem zipD_len : ∀ (xs ys : List D), (zipD xs ys).length = min xs.length ys.length
  | [], ys => by simp [zipD]
  | _ :: _, [] => by simp [zipD]
  | x :: xs, y :: ys => by simp only [zipD, List.length_cons, zipD_len xs ys]; omega
theorem zipD_get : ∀ {xs ys : List D} {i : Nat} {x y : D}, xs[i]? = some x → ys[i]? = some y → (zipD xs ys)[i]? = some (.tup [x, y])
  | [], _, i, x, y, h, _ => by simp at h
  | _ :: _, [], i, x, y, _, h => by simp at h
  | a :: xs, b :: ys, 0, x, y, h, h' => by simp at h h'; subst h h'; rfl
  | a :: xs, b :: ys, i + 1, x, y, h, h' => by
    simp only [List.getElem?_cons_succ] at h h'
    simp only [zipD, List.getElem?_cons_succ]
    exact zipD_get h h'
section
variable {G : Type}
def evZip (tp : Bool) (f : Sg G → Rs G (List Ov)) (s : Sg G) : Rs G (List D) := (f s).bind fun xs s1 => (uses s1 xs).bind fun ds s2 => match ds with
  | [.tup xs, .tup ys] => .ok (zipD xs ys) s2
  | [.lst xs, .lst ys] => if tp = true then .ok (zipD xs ys) s2 else .no
  | _ => .no
def evLzip (f : Sg G → Rs G (List Ov)) (s : Sg G) : Rs G Ov := (f s).bind fun xs s1 => (uses s1 xs).bind fun ds s2 => match ds with
  | [.tup xs, .tup ys] => if xs.length ≤ 1000 then .ok (.fr (.lst (zipD xs ys))) s2 else .no
  | _ => .no
end
section
variable {G : Type} {X : Cx} {K : Env1} {T : Gt G} {W : WX1} {tg a b c e : Expr} {es : List Expr} {fa fb fc : Sg G → Rs G Ov} {fl : Sg G → Rs G (List Ov)} {pos p2 p3 : Pos} {F H F1 H1 : Hp} {s s1 : Sg G} {σ : Sl}
/-- used operands, walked -/
theorem usedI_core {k : List D → Sg G → Rs G (List D)} {R' : It → Hp → Prop} (hf : SL X K T W es fl) (R : Rl K T F H s σ) (h : PstI K T W F H s σ ((fl s).bind fun xs s1 => (uses s1 xs).bind fun ds s2 => k ds s2) R') :
    wpL X es σ H (fun vs H1 => ∃ F1 s1 ds, Rl K T F1 H1 s1 σ ∧ Reps K F1 vs ds ∧ PstI K T W F1 H1 s1 σ (k ds s1) R') := by
  refine hf F H σ s _ R ?_
  cases q : fl s with
  | no => rw [q] at h; exact h.elim
  | er x g => rw [q] at h; exact h
  | ok xs s1 =>
    rw [q] at h
    intro vs F1 H1 S1 R1 r1
    have h : PstI K T W F H s σ ((uses s1 xs).bind fun ds s2 => k ds s2) R' := h
    cases q2 : uses s1 xs with
    | no => rw [q2] at h; exact h.elim
    | er y g => exact (uses_no_er xs s1 y g q2).elim
    | ok ds s2 =>
      rw [q2] at h
      obtain ⟨F2, R2, S2, p2⟩ := r1.used S1 R R1 q2
      exact ⟨F2, s2, ds, R2, p2, PstI.step S2 R R2 h⟩
theorem itd_zipT {a b : Addr} {vs ws : List V} {ds es : List D} (h : TupAt K.K F a vs) (r : Reps K F vs ds) (h' : TupAt K.K F b ws) (r' : Reps K F ws es) : ItD K F (zipD ds es) (ItzT K.K a b) := by
  unfold ItD
  rw [zipD_len, ← r.length, ← r'.length]
  refine ⟨fun i H hi l => ?_, fun H l => ⟨vs, ws, (l.sqT h).sq, (l.sqT h').sq, by omega⟩, fun i H x H' hi l y => ?_⟩
  · have h1 : i < vs.length := by omega
    have h2 : i < ws.length := by omega
    exact ⟨vs, ws, vs[i], ws[i], (l.sqT h).sq, (l.sqT h').sq, by simp [h1], by simp [h2]⟩
  · obtain ⟨t, x1, y1, e1, e2, e3, e4, e5⟩ := y
    have g1 := e4 vs (l.sqT h).sq
    have g2 := e5 ws (l.sqT h').sq
    have i1 : i < ds.length := by rw [← r.length]; omega
    have i2 : i < es.length := by rw [← r'.length]; omega
    obtain ⟨v1, k1, k2⟩ := r.get (List.getElem?_eq_getElem i1)
    obtain ⟨v2, k3, k4⟩ := r'.get (List.getElem?_eq_getElem i2)
    rw [g1] at k1; cases k1
    rw [g2] at k3; cases k3
    exact ⟨_, zipD_get (List.getElem?_eq_getElem i1) (List.getElem?_eq_getElem i2), .inr ⟨t, _, _, rfl, e1, e2, e3, .cons k2 (.cons k4 .nil)⟩⟩
theorem itd_zipL {a b : Addr} {vs ws : List V} {ds es : List D} (h : F a = some (.lst vs)) (r : Reps K F vs ds) (h' : F b = some (.lst ws)) (r' : Reps K F ws es) : ItD K F (zipD ds es) (Itz K.K a b) := by
  unfold ItD
  have q : ∀ {H}, Le F H → SqL K.K H a vs ∧ SqL K.K H b ws := fun l => ⟨.inl (.inl (l _ _ h)), .inl (.inl (l _ _ h'))⟩
  rw [zipD_len, ← r.length, ← r'.length]
  refine ⟨fun i H hi l => ?_, fun H l => ⟨vs, ws, (q l).1, (q l).2, by omega⟩, fun i H x H' hi l y => ?_⟩
  · have h1 : i < vs.length := by omega
    have h2 : i < ws.length := by omega
    exact ⟨vs, ws, vs[i], ws[i], (q l).1, (q l).2, by simp [h1], by simp [h2]⟩
  · obtain ⟨t, x1, y1, e1, e2, e3, e4, e5⟩ := y
    have g1 := e4 vs (q l).1
    have g2 := e5 ws (q l).2
    have i1 : i < ds.length := by rw [← r.length]; omega
    have i2 : i < es.length := by rw [← r'.length]; omega
    obtain ⟨v1, k1, k2⟩ := r.get (List.getElem?_eq_getElem i1)
    obtain ⟨v2, k3, k4⟩ := r'.get (List.getElem?_eq_getElem i2)
    rw [g1] at k1; cases k1
    rw [g2] at k3; cases k3
    exact ⟨_, zipD_get (List.getElem?_eq_getElem i1) (List.getElem?_eq_getElem i2), .inr ⟨t, _, _, rfl, e1, e2, e3, .cons k2 (.cons k4 .nil)⟩⟩
theorem Reps.two {vs : List V} {d e : D} (r : Reps K F vs [d, e]) : ∃ v w, vs = [v, w] ∧ Rep K F v d ∧ Rep K F w e := by
  cases r with
  | cons r1 r2 => cases r2 with
    | cons r2 r3 => cases r3; exact ⟨_, _, rfl, r1, r2⟩
theorem si_zipN {x0 : Str} {tpos : Pos} (hk : K.K = X.K) (hg : Gl X "zip") (hm : X.mg "zip" = none) (hst : [a, b].all noStar = true) (hl : SL X K T W [a, b] fl) : SI X K T W (.Name x0 tpos) (.Call (.Name "zip" p2) [a, b] [] pos) (evZip false fl) := by
  intro F H σ s R' R h
  have h' := Bool.and_eq_true_iff.mp (show (noStar a && (noStar b && true)) = true from hst)
  have h'' := Bool.and_eq_true_iff.mp h'.2
  refine wpI_of (pi_zipN hg hm (pa_self X hst) (by rw [starEach_of h'.1]) (by rw [starEach_of h''.1]; rfl)) (wpL_mono (Q := fun _ _ => True) (Q' := fun _ _ => True) (usedI_core hl R h) fun vs H1 ⟨F1, s1, ds, R1, r1, q⟩ => ?_)
  split at q
  · rename_i xs ys
    obtain ⟨v, w, rfl, k1, k2⟩ := r1.two
    cases k1 with
    | tup k1 k3 => cases k2 with
      | tup k2 k4 => exact ⟨_, _, _, _, rfl, hk ▸ (R1.sub.sqT k1).sq, hk ▸ (R1.sub.sqT k2).sq, q _ F1 H1 (Stp.refl ..) R1 (hk ▸ itd_zipT k1 k3 k2 k4)⟩
  · exact q.elim
  · exact q.elim
theorem si_zipT {elts : List Expr} {kk : Nat} {tpos : Pos} (hk : K.K = X.K) (hg : Gl X "zip") (hm : X.mg "zip" = none) (hst : [a, b].all noStar = true) (hl : SL X K T W [a, b] fl) : SI X K T W (.Tuple elts kk tpos) (.Call (.Name "zip" p2) [a, b] [] pos) (evZip true fl) := by
  intro F H σ s R' R h
  have h' := Bool.and_eq_true_iff.mp (show (noStar a && (noStar b && true)) = true from hst)
  have h'' := Bool.and_eq_true_iff.mp h'.2
  refine wpI_of (pi_zipA hg hm (pa_self X hst) (by rw [starEach_of h'.1]) (by rw [starEach_of h''.1]; rfl)) ?_
  refine wpL_mono (Q := fun _ _ => True) (Q' := fun _ _ => True) (usedI_core hl R h) fun vs H1 ⟨F1, s1, ds, R1, r1, q⟩ => ?_
  split at q
  · rename_i xs ys
    obtain ⟨v, w, rfl, k1, k2⟩ := r1.two
    cases k1 with
    | tup k1 k3 => cases k2 with
      | tup k2 k4 => exact ⟨_, _, _, _, rfl, .inr ⟨hk ▸ (R1.sub.sqT k1).sq, hk ▸ (R1.sub.sqT k2).sq, q _ F1 H1 (Stp.refl ..) R1 (hk ▸ itd_zipT k1 k3 k2 k4)⟩⟩
  · rename_i xs ys
    obtain ⟨v, w, rfl, k1, k2⟩ := r1.two
    cases k1 with
    | lst k1 k3 => cases k2 with
      | lst k2 k4 => exact ⟨_, _, _, _, rfl, .inl ⟨.inl (.inl (R1.sub _ _ k1)), .inl (.inl (R1.sub _ _ k2)), q _ F1 H1 (Stp.refl ..) R1 (hk ▸ itd_zipL k1 k3 k2 k4)⟩⟩
  · exact q.elim
theorem newT_rl : ∀ {xs : List (List V)} {ps : List Addr} {F H H' : Hp} {ds : List (List D)}, NewT H xs ps H' → Rl K T F H s σ → (xs.length = ds.length ∧ ∀ (i : Nat) x d, xs[i]? = some x → ds[i]? = some d → Reps K F x d) → ∃ F', Rl K T F' H' s σ ∧ Stp T F H s σ F' H' s σ ∧ Reps K F' (ps.map V.ref) (ds.map D.tup) := by
  intro xs ps F H H' ds n
  induction n generalizing F ds with
  | nil =>
    intro R h
    have : ds = [] := List.length_eq_zero_iff.mp h.1.symm
    subst this
    exact ⟨F, R, Stp.refl .., .nil⟩
  | @cons H H' q x xs ps h n ih =>
    intro R hd
    cases ds with
    | nil => simp at hd
    | cons d ds =>
      obtain ⟨R1, S1⟩ := R.newF (o := .tup x) h
      have r0 := hd.2 0 x d rfl rfl
      obtain ⟨F2, R2, S2, r2⟩ := ih (ds := ds) R1 ⟨by simpa using hd.1, fun i y e h1 h2 => (hd.2 (i + 1) y e (by simpa using h1) (by simpa using h2)).mono S1.le⟩
      exact ⟨F2, R2, S1.trans S2 R R2, .cons (.tup (.inl (S2.le _ _ upd_same)) ((r0.mono S1.le).mono S2.le)) r2⟩
theorem se_lzip {p p3 pos2 : Pos} (hc : X.calm = true) (hk : K.K = X.K) (hgl : Gl X "list") (hml : X.mg "list" = none) (hg : Gl X "zip") (hm : X.mg "zip" = none) (hst : [a, b].all noStar = true) (hl : SL X K T W [a, b] fl) :
    SE X K T W (.Call (.Name "list" p2) [.Call (.Name "zip" p) [a, b] [] pos] [] pos2) (evLzip fl) := by
  intro F H σ s Q R h
  have h' := Bool.and_eq_true_iff.mp (show (noStar a && (noStar b && true)) = true from hst)
  have h'' := Bool.and_eq_true_iff.mp h'.2
  refine wpE_of (pe_lzip hc hgl hml hg hm (pa_self X hst) (by rw [starEach_of h'.1]) (by rw [starEach_of h''.1]; rfl)) ?_
  refine hl F H σ s _ R ?_
  unfold evLzip at h
  cases q : fl s with
  | no => rw [q] at h; exact h.elim
  | er x g => rw [q] at h; exact h
  | ok xs s1 =>
    rw [q] at h
    intro vs F1 H1 S1 R1 r1
    simp only [Rs.bind] at h
    cases q2 : uses s1 xs with
    | no => rw [q2] at h; exact h.elim
    | er y g => exact (uses_no_er xs s1 y g q2).elim
    | ok ds s2 =>
      rw [q2] at h
      simp only [] at h
      obtain ⟨F2, R2, S2, p2⟩ := r1.used S1 R R1 q2
      split at h
      · rename_i xs ys
        split at h
        · rename_i hz
          obtain ⟨v, w, rfl, k1, k2⟩ := p2.two
          cases k1 with
          | @tup _ us _ k1 k3 => cases k2 with
            | @tup _ ws _ k2 k4 =>
              refine ⟨_, _, _, _, rfl, hk ▸ (R2.sub.sqT k1).sq, hk ▸ (R2.sub.sqT k2).sq, by rw [k3.length]; exact hz, fun ps H2 l n hn => ?_⟩
              obtain ⟨F3, R3, S3, r3⟩ := newT_rl (ds := List.zipWith (fun x y => [x, y]) xs ys) n R2 ⟨by simp [k3.length, k4.length], fun i x d e1 e2 => by
                rw [List.getElem?_map] at e1
                cases q3 : (us.zip ws)[i]? with
                | none => rw [q3] at e1; cases e1
                | some uw =>
                  rw [q3] at e1
                  cases e1
                  obtain ⟨u, w⟩ := uw
                  obtain ⟨g1, g2⟩ := List.getElem?_zip_eq_some.mp q3
                  rw [List.getElem?_zipWith] at e2
                  have i1 : i < xs.length := by rw [← k3.length]; exact lt_of_get g1
                  have i2 : i < ys.length := by rw [← k4.length]; exact lt_of_get g2
                  rw [List.getElem?_eq_getElem i1, List.getElem?_eq_getElem i2] at e2
                  cases e2
                  obtain ⟨v1, m1, m2⟩ := k3.get (List.getElem?_eq_getElem i1)
                  obtain ⟨v2, m3, m4⟩ := k4.get (List.getElem?_eq_getElem i2)
                  rw [g1] at m1; cases m1
                  rw [g2] at m3; cases m3
                  exact .cons m2 (.cons m4 .nil)⟩
              have ez : ∀ xs ys : List D, (List.zipWith (fun x y => [x, y]) xs ys).map D.tup = zipD xs ys := by
                intro xs
                induction xs with
                | nil => intro ys; simp [zipD]
                | cons x xs ih => intro ys; cases ys <;> simp [zipD, ih]
              rw [ez] at r3
              obtain ⟨R4, S4⟩ := R3.new (o := .lst (ps.map V.ref)) hn
              obtain ⟨n1, nf, no⟩ := R3.free hn
              have S23 := S2.trans S3 R R3
              exact h (.ref l) F3 _ (S23.trans S4 R R4) R4 ⟨l, rfl, S23.none l hn, n1, nf, no, _, upd_same, r3⟩
        · exact h.elim
      · exact h.elim
end
end BF
set_option Elab.async false
set_option linter.all false
set_option autoImplicit false
set_option maxRecDepth 100000
set_option maxHeartbeats 2000000
namespace BF
open PySem PySem.Spec PyProof.Rows L2
/-! ### a comprehension over an own list, which stays own -/
section
variable {G : Type}
def hidS (s : Sg G) (i : Nat) : Sg G := setS s i none
def evHid (i : Nat) (en : Bool) (t : Tg) (ft fe : Sg G → Rs G Ov) (own : List Nat) (s : Sg G) : Rs G Ov := match s.sl[i]? with
  | some (some (true, .lst ds)) => (evLcD (if en = true then enumL 0 ds else ds) t ft fe own (hidS s i)).bind fun x s' => .ok x (setS s' i (some (true, .lst ds)))
  | _ => .no
end
section
variable {G : Type} {X : Cx} {K : Env1} {T : Gt G} {W : WX1} {tg a b c e : Expr} {es : List Expr} {pos p2 p3 : Pos} {F H F1 H1 : Hp} {s s1 : Sg G} {σ : Sl}
theorem hid_get {i : Nat} {j : Nat} {y : Bool × D} (h : (hidS s i).sl[j]? = some (some y)) : j ≠ i ∧ s.sl[j]? = some (some y) := by
  have h : (s.sl.set i none)[j]? = some (some y) := h
  by_cases q : i = j
  · subst q
    by_cases hl : i < s.sl.length
    · rw [List.getElem?_set_self hl] at h; cases h
    · rw [List.getElem?_eq_none (by rw [List.length_set]; omega)] at h; cases h
  · rw [List.getElem?_set_ne q] at h
    exact ⟨fun z => q z.symm, h⟩
theorem hid_ownd {i : Nat} {a : Addr} (h : Ownd (hidS s i) σ a) : Ownd s σ a ∧ ∃ (j : Nat) (d : D), j ≠ i ∧ s.sl[j]? = some (some (true, d)) ∧ σ[j]? = some (some (.ref a)) := by
  obtain ⟨j, d, h1, h2⟩ := h
  obtain ⟨h3, h4⟩ := hid_get h1
  exact ⟨⟨j, d, h4, h2⟩, j, d, h3, h4, h2⟩
theorem Rl.hid (R : Rl K T F H s σ) (i : Nat) : Rl K T F H (hidS s i) σ := by
  refine ⟨R.sub, ?_, fun j d h => R.val j d (hid_get h).2, fun j d h => R.own j d (hid_get h).2, fun j k d e p h1 h2 => R.inj j k d e p (hid_get h1).2 (hid_get h2).2, R.gs, R.gf⟩
  show (s.sl.set i none).length = _
  rw [List.length_set]; exact R.len
theorem un_hide {i : Nat} {d : D} {p : Addr} {r : Rs G Ov} {Q : VK} (R : Rl K T F H s σ) (hi : s.sl[i]? = some (some (true, d))) (hp : σ[i]? = some (some (.ref p)))
    (h : PstE K T W F H s σ (r.bind fun x s' => .ok x (setS s' i (some (true, d)))) Q) : PstE K T W F H (hidS s i) σ r Q := by
  obtain ⟨p', e1, n, nf, sh⟩ := R.own i d hi
  rw [hp] at e1; cases e1
  have no : ¬ Ownd (hidS s i) σ p := fun z => by
    obtain ⟨_, j, d', m, q1, q2⟩ := hid_ownd z
    exact m (R.inj j i d' d p q1 hi q2 hp)
  cases r with
  | no => exact h.elim
  | er x g =>
    intro cls dd F' H' σ' q e
    exact h cls dd F' H' σ' ⟨q.le, q.sub, fun a o e n nf => q.keep a o e (fun z => n (hid_ownd z).1) nf, fun a n => (q.new a n).elim .inl fun z => z.elim (fun z => .inr (.inl z)) fun z => .inr (.inr (hid_ownd z).1), q.gs, q.gf⟩ e
  | ok x s' =>
    intro v F' H' S R' ro
    have il : i < s'.sl.length := by
      rw [R'.len]
      exact (List.getElem?_eq_some_iff.mp hp).1
    have gt : ∀ j, (setS s' i (some (true, d))).sl[j]? = if j = i then some (some (true, d)) else s'.sl[j]? := fun j => setS_get s' i j _ il
    have fp' : F' p = none := by
      apply Classical.byContradiction
      intro z
      rcases S.new p z with z | z | z
      · exact z n
      · exact sh.some z
      · exact no z
    have hp' : H' p = H p := by
      cases e : H p with
      | none => exact (sh.some e).elim
      | some o => exact S.keep p o e no nf
    have no' : ¬ Ownd s' σ p := fun z => by
      rcases S.own p z with z | z
      · exact no z
      · exact sh.some z
    have ow : ∀ a, Ownd (setS s' i (some (true, d))) σ a → a = p ∨ Ownd s' σ a := fun a ⟨j, d', h1, h2⟩ => by
      rw [gt] at h1
      by_cases m : j = i
      · subst m; rw [hp] at h2; cases h2; exact .inl rfl
      · rw [if_neg m] at h1; exact .inr ⟨j, d', h1, h2⟩
    have h : ∀ v F' H'', Stp T F H s σ F' H'' (setS s' i (some (true, d))) σ → Rl K T F' H'' (setS s' i (some (true, d))) σ → RO K T H F' H'' (setS s' i (some (true, d))) σ v x → Q v H'' := h
    refine h v F' H' ⟨S.le, fun a o e n nf => S.keep a o e (fun z => n (hid_ownd z).1) nf, fun a n => (S.new a n).elim .inl fun z => z.elim (fun z => .inr (.inl z)) fun z => .inr (.inr (hid_ownd z).1), fun a z => ?_, fun j y hj => ?_, S.grow⟩ ⟨R'.sub, ?_, fun j e hj => ?_, fun j e hj => ?_, fun j k e1 e2 q h1 h2 h3 h4 => ?_, R'.gs, R'.gf⟩ ?_
    · rcases ow a z with z | z
      · subst z; exact .inl ⟨i, d, hi, hp⟩
      · rcases S.own a z with z | z
        · exact .inl (hid_ownd z).1
        · exact .inr z
    · rw [gt]
      by_cases m : j = i
      · rw [if_pos m]; exact ⟨_, rfl⟩
      · rw [if_neg m]
        refine S.kp j y ?_
        show (s.sl.set i none)[j]? = _
        rw [List.getElem?_set_ne (fun z => m z.symm)]; exact hj
    · show (s'.sl.set i _).length = _
      rw [List.length_set]; exact R'.len
    · rw [gt] at hj
      by_cases m : j = i
      · rw [if_pos m] at hj; cases hj
      · rw [if_neg m] at hj; exact R'.val j e hj
    · rw [gt] at hj
      by_cases m : j = i
      · rw [if_pos m] at hj; cases hj
        subst m
        exact ⟨p, hp, fp', nf, sh.mono S.le hp'⟩
      · rw [if_neg m] at hj; exact R'.own j e hj
    · rw [gt] at h1 h2
      by_cases m1 : j = i
      · by_cases m2 : k = i
        · rw [m1, m2]
        · rw [if_neg m2] at h2
          subst m1; rw [hp] at h3; cases h3
          exact (no' ⟨k, e2, h2, h4⟩).elim
      · by_cases m2 : k = i
        · rw [if_neg m1] at h1
          subst m2; rw [hp] at h4; cases h4
          exact (no' ⟨j, e1, h1, h3⟩).elim
        · rw [if_neg m1] at h1
          rw [if_neg m2] at h2
          exact R'.inj j k e1 e2 q h1 h2 h3 h4
    · cases x with
      | vl e => exact ro
      | fr e =>
        obtain ⟨q, e1, e2, e3, e4, e5, e6⟩ := ro
        refine ⟨q, e1, e2, e3, e4, fun z => ?_, e6⟩
        rcases ow q z with z | z
        · subst z; exact sh.some e2
        · exact e5 z
      | pl j =>
        obtain ⟨e1, y, e2⟩ := ro
        refine ⟨e1, ?_⟩
        rw [gt]
        by_cases m : j = i
        · rw [if_pos m]; exact ⟨_, rfl⟩
        · rw [if_neg m]; exact ⟨y, e2⟩
/-- what is kept while the own list is hidden -/
def KG (T : Gt G) (F H : Hp) (s : Sg G) (σ : Sl) : Hp → Prop := fun H' => Le F H' ∧ ∀ a o, H a = some o → ¬ Ownd s σ a → ¬ T.fp a → H' a = some o
theorem hid_walk {i : Nat} {p : Addr} {vs : List V} {ds : List D} {en : Bool} (R : Rl K T F H s σ) (hi : s.sl[i]? = some (some (true, .lst ds))) (hp : σ[i]? = some (some (.ref p))) (hv : H p = some (.lst vs)) (r : Reps K F vs ds) :
    Walk (if en = true then IteL K.K p 0 else Itl K.K p) (if en = true then enumL 0 ds else ds).length (KG T F H (hidS s i) σ) (Yd K F (if en = true then enumL 0 ds else ds)) := by
  obtain ⟨p', e1, n, nf, sh⟩ := R.own i _ hi
  rw [hp] at e1; cases e1
  have no : ¬ Ownd (hidS s i) σ p := fun z => by
    obtain ⟨_, j, d', m, q1, q2⟩ := hid_ownd z
    exact m (R.inj j i d' _ p q1 hi q2 hp)
  cases en with
  | false =>
    rw [if_neg Bool.false_ne_true, if_neg Bool.false_ne_true, ← r.length]
    refine walk_list.mono (fun H l => .inl (.inl (l.2 _ _ hv no nf))) fun i H x H' hi l y => ?_
    obtain ⟨e, y⟩ := y
    have hd : i < ds.length := by rw [← r.length]; exact hi
    obtain ⟨v, e1, e2⟩ := r.get (List.getElem?_eq_getElem hd)
    rw [y] at e1; cases e1
    exact ⟨_, List.getElem?_eq_getElem hd, .inl ⟨e, e2⟩⟩
  | true =>
    rw [if_pos rfl, if_pos rfl, enumL_len, ← r.length]
    refine walk_enumL.mono (fun H l => .inl (.inl (l.2 _ _ hv no nf))) fun i H x H' hi l y => ?_
    obtain ⟨p, x1, x2, e1, e2, e3, e4, e5⟩ := y
    cases e4
    have hd : i < ds.length := by rw [← r.length]; exact hi
    obtain ⟨v, q1, q2⟩ := r.get (List.getElem?_eq_getElem hd)
    rw [show vs[i]? = some x2 from e5] at q1; cases q1
    refine ⟨_, by rw [enumL_get, List.getElem?_eq_getElem hd]; rfl, .inr ⟨p, _, _, rfl, e1, e2, e3, .cons (.int _) (.cons q2 .nil)⟩⟩
/-- the walked own list, as a reading of the text -/
def HidI (X : Cx) (K : Env1) (T : Gt G) (i : Nat) (en : Bool) (tg iter : Expr) : Prop := ∀ F H σ (s : Sg G) R ds, Rl K T F H s σ → s.sl[i]? = some (some (true, .lst ds)) →
  (∀ F1 H1 p vs, Stp T F H s σ F1 H1 s σ → Rl K T F1 H1 s σ → σ[i]? = some (some (.ref p)) → H1 p = some (.lst vs) → Reps K F1 vs ds → R (if en = true then IteL K.K p 0 else Itl K.K p) H1) → wpI X tg iter σ H R
theorem hidI_seq {i : Nat} (hk : K.K = X.K) (hf : SE X K T W0 e (evVar i)) : HidI X K T i false tg e := by
  intro F H σ s R' ds R hi h
  refine wpI_of (pi_seq (pe_self X e)) (hf F H σ s _ R ?_)
  unfold evVar
  rw [hi]
  intro v F1 H1 S1 R1 ro
  obtain ⟨e1, y, e2⟩ := ro
  obtain ⟨p, q1, n, nf, vs, q2, q3⟩ := R1.own i _ hi
  rw [e1] at q1; cases q1
  refine ⟨p, rfl, .inl ⟨⟨vs, .inl (.inl q2)⟩, ?_⟩⟩
  have := h F1 H1 p vs S1 R1 e1 q2 q3
  rw [if_neg Bool.false_ne_true, hk] at this
  exact this
theorem hidI_enum {i : Nat} {elts : List Expr} {kk : Nat} {tpos : Pos} (hk : K.K = X.K) (hg : Gl X "enumerate") (hm : X.mg "enumerate" = none) (hst : [e].all noStar = true) (hf : SE X K T W0 e (evVar i)) : HidI X K T i true (.Tuple elts kk tpos) (.Call (.Name "enumerate" p2) [e] [] pos) := by
  intro F H σ s R' ds R hi h
  have h' := Bool.and_eq_true_iff.mp (show (noStar e && true) = true from hst)
  refine wpI_of (pi_enumA hg hm (pa_self X hst) (by rw [starEach_of h'.1]; rfl)) ?_
  show wpE X e σ H fun v H1 => _
  refine hf F H σ s _ R ?_
  unfold evVar
  rw [hi]
  intro v F1 H1 S1 R1 ro
  obtain ⟨e1, y, e2⟩ := ro
  obtain ⟨p, q1, n, nf, vs, q2, q3⟩ := R1.own i _ hi
  rw [e1] at q1; cases q1
  refine ⟨p, rfl, .inl ⟨⟨vs, .inl (.inl q2)⟩, ?_⟩⟩
  have := h F1 H1 p vs S1 R1 e1 q2 q3
  rw [if_pos rfl, hk] at this
  exact this
end
end BF
set_option Elab.async false
set_option linter.all false
set_option autoImplicit false
set_option maxRecDepth 100000
set_option maxHeartbeats 2000000
namespace BF
open PySem PySem.Spec PyProof.Rows L2
def notSet : Expr → Bool
  | .Set _ _ _ => false
  | _ => true
theorem folded_of {e : Expr} (h : notSet e = true) (env : Env) (x : Value) : foldedSetIterable e env x = pure x := by
  cases e <;> first | rfl | cases h
section
variable {G : Type} {X : Cx} {K : Env1} {T : Gt G} {W : WX1} {tg a b c e elt iter : Expr} {es ifs : List Expr} {fa fb fc ft fe : Sg G → Rs G Ov} {fl : Sg G → Rs G (List Ov)} {fi : Sg G → Rs G (List D)} {pos p2 p3 : Pos} {F H F1 H1 : Hp} {s s1 : Sg G} {σ : Sl} {t : Tg} {scope : Scope} {own : List (Str × Nat)}
/-- a comprehension's parts, in its block -/
structure LcOk (X : Cx) (K : Env1) (T : Gt G) (W : WX1) (elt tg iter : Expr) (ifs : List Expr) (scope : Scope) (own : List (Str × Nat)) (fi : Sg G → Rs G (List D)) (t : Tg) (ft fe : Sg G → Rs G Ov) : Prop where
  kk : K.K = X.K
  calm : X.calm = true
  nd : X.N.Nodup
  it : SI X K T W tg iter fi
  ok : BlkOk X.N X.env.scope scope own
  tgt : ∀ (s : Shared) (H : Hp) (C : Addr) (cl : List (Str × Addr)) (fp : List Addr), PG (X.blk s H scope (compEnvC scope cl C X.env) fp) tg (gOf X.K t)
  ifl : ifs.length ≤ 1
  tst : ∀ (s : Shared) (H : Hp) (C : Addr) (cl : List (Str × Addr)) (fp : List Addr), STs (X.blk s H scope (compEnvC scope cl C X.env) fp) K T W0 ifs ft
  elt : ∀ (s : Shared) (H : Hp) (C : Addr) (cl : List (Str × Addr)) (fp : List Addr), SE (X.blk s H scope (compEnvC scope cl C X.env) fp) K T W0 elt fe
  ns : notSet iter = true
  tow : tgIn t (own.map (·.2))
/-- their readings, whatever the block -/
def bTs (X : Cx) (ifs : List Expr) (scope : Scope) : TT := fun σ H Q => ∀ (s : Shared) (H0 : Hp) (C : Addr) (cl : List (Str × Addr)) (fp : List Addr), wpTs (X.blk s H0 scope (compEnvC scope cl C X.env) fp) ifs σ H Q
def bE (X : Cx) (elt : Expr) (scope : Scope) : TE := fun σ H Q => ∀ (s : Shared) (H0 : Hp) (C : Addr) (cl : List (Str × Addr)) (fp : List Addr), wpE (X.blk s H0 scope (compEnvC scope cl C X.env) fp) elt σ H Q
theorem LcOk.pts (L : LcOk X K T W elt tg iter ifs scope own fi t ft fe) : ∀ (s : Shared) (H : Hp) (C : Addr) (cl : List (Str × Addr)) (fp : List Addr), PTs (X.blk s H scope (compEnvC scope cl C X.env) fp) ifs (bTs X ifs scope) := fun s H C cl fp => by
  refine ⟨fun pins s0 σ0 H0 Q0 I h => (pts_self (X.blk s H scope (compEnvC scope cl C X.env) fp) L.ifl).run pins s0 σ0 H0 Q0 I (h s H C cl fp)⟩
theorem LcOk.pe (L : LcOk X K T W elt tg iter ifs scope own fi t ft fe) : ∀ (s : Shared) (H : Hp) (C : Addr) (cl : List (Str × Addr)) (fp : List Addr), PE (X.blk s H scope (compEnvC scope cl C X.env) fp) elt (bE X elt scope) := fun s H C cl fp =>
  ⟨fun pins s0 σ0 H0 Q0 I h => h s H C cl fp pins s0 I⟩
theorem LcOk.core (L : LcOk X K T W elt tg iter ifs scope own fi t ft fe) {Q : VK} (R : Rl K T F H s σ) (h : PstE K T W F H s σ (evLc fi t ft fe (own.map (·.2)) s) Q) : tLc (wpI X tg iter) (gOf X.K t) (bTs X ifs scope) (bE X elt scope) (own.map (·.2)) σ H Q :=
  lc_core1 (fun F H σ s R' R h => L.it F H σ s R' R h) (fun F H σ s Q R h s0 H0 C cl fp => L.tst s0 H0 C cl fp F H σ s Q R h) (fun F H σ s Q R h s0 H0 C cl fp => L.elt s0 H0 C cl fp F H σ s Q R h) L.tow L.kk R h
theorem se_lc (L : LcOk X K T W elt tg iter ifs scope own fi t ft fe) : SE X K T W (.ListComp elt [⟨tg, iter, ifs, 0⟩] scope pos) (evLc fi t ft fe (own.map (·.2))) := fun F H σ s Q R h =>
  wpE_of (pe_lc L.calm L.nd (pi_self X tg iter) L.ok L.tgt L.pts L.pe (folded_of L.ns X.env)) (L.core R h)
theorem si_no : SI X K T W tg iter (fun _ => (.no : Rs G (List D))) := fun F H σ s R' R h => h.elim
/-- what a comprehension's reading asks -/
def LcCore (X : Cx) (K : Env1) (T : Gt G) (W : WX1) (elt tg iter : Expr) (ifs : List Expr) (scope : Scope) (own : List (Str × Nat)) (t : Tg) (f : Sg G → Rs G Ov) : Prop :=
  ∀ (F H : Hp) (s : Sg G) (σ : Sl) (Q : VK), Rl K T F H s σ → PstE K T W F H s σ (f s) Q → tLc (wpI X tg iter) (gOf X.K t) (bTs X ifs scope) (bE X elt scope) (own.map (·.2)) σ H Q
theorem LcOk.core' (L : LcOk X K T W elt tg iter ifs scope own fi t ft fe) : LcCore X K T W elt tg iter ifs scope own t (evLc fi t ft fe (own.map (·.2))) := fun F H s σ Q R h => L.core R h
theorem LcOk.hcore {i : Nat} {en : Bool} (L : LcOk X K T W elt tg iter ifs scope own (fun _ => .no) t ft fe) (hI : HidI X K T i en tg iter) : LcCore X K T W elt tg iter ifs scope own t (evHid i en t ft fe (own.map (·.2))) := fun F H s σ Q R h => by
  unfold evHid at h
  split at h
  · rename_i ds hi
    refine hI F H σ s _ ds R hi fun F1 H1 p vs S1 R1 hp hv r => ?_
    exact lc_core0 (fun F H σ s Q R h s0 H0 C cl fp => L.tst s0 H0 C cl fp F H σ s Q R h) (fun F H σ s Q R h s0 H0 C cl fp => L.elt s0 H0 C cl fp F H σ s Q R h) L.tow L.kk (R1.hid i) (hid_walk R1 hi hp hv r) (un_hide R1 hi hp (PstE.step S1 R R1 h))
  · exact h.elim
theorem se_hl {i : Nat} {en : Bool} (L : LcOk X K T W elt tg iter ifs scope own (fun _ => .no) t ft fe) (hI : HidI X K T i en tg iter) : SE X K T W (.ListComp elt [⟨tg, iter, ifs, 0⟩] scope pos) (evHid i en t ft fe (own.map (·.2))) := fun F H σ s Q R h =>
  wpE_of (pe_lc L.calm L.nd (pi_self X tg iter) L.ok L.tgt L.pts L.pe (folded_of L.ns X.env)) (L.hcore hI F H s σ Q R h)
end
/-! ### statements -/
inductive Ro (G : Type) where
  | nx (s : Sg G) | rt (d : D) (g : G) | bk (s : Sg G) | ct (s : Sg G) | er (x : Er) (g : G) | no
section
variable {G : Type}
def PstS (K : Env1) (T : Gt G) (W : WX1) (F H : Hp) (s : Sg G) (σ : Sl) (r : Ro G) (D : Ends) : Prop := match r with
  | .nx s' => ∀ F' H' σ', Stp T F H s σ F' H' s' σ' → Rl K T F' H' s' σ' → D.nx σ' H'
  | .bk s' => ∀ F' H' σ', Stp T F H s σ F' H' s' σ' → Rl K T F' H' s' σ' → D.bk σ' H'
  | .ct s' => ∀ F' H' σ', Stp T F H s σ F' H' s' σ' → Rl K T F' H' s' σ' → D.ct σ' H'
  | .rt d g => ∀ v F' H', Xst T F H s σ F' H' g → Rep K F' v d → D.rt v H'
  | .er x g => PstX K T W F H s σ x g
  | .no => False
def SS (X : Cx) (K : Env1) (T : Gt G) (W : WX1) (st : Stmt) (f : Sg G → Ro G) : Prop := ∀ F H σ s D, Rl K T F H s σ → PstS K T W F H s σ (f s) D → wpS X st D σ H
def SB (X : Cx) (K : Env1) (T : Gt G) (W : WX1) (st : List Stmt) (f : Sg G → Ro G) : Prop := ∀ F H σ s D, Rl K T F H s σ → PstS K T W F H s σ (f s) D → wpB X st D σ H
def exE (f : Sg G → Rs G Ov) (k : Ov → Sg G → Ro G) (s : Sg G) : Ro G := match f s with
  | .ok x s1 => k x s1
  | .er x g => .er x g
  | .no => .no
def exL (f : Sg G → Rs G (List Ov)) (k : List Ov → Sg G → Ro G) (s : Sg G) : Ro G := match f s with
  | .ok x s1 => k x s1
  | .er x g => .er x g
  | .no => .no
def exSeq (f g : Sg G → Ro G) (s : Sg G) : Ro G := match f s with
  | .nx s' => g s'
  | r => r
def exIf (c : Sg G → Rs G Ov) (a b : Sg G → Ro G) (s : Sg G) : Ro G := exE c (fun x s1 => match tst s1 x with
  | some q => if q = true then a s1 else b s1
  | none => .no) s
def exRet (f : Sg G → Rs G Ov) (s : Sg G) : Ro G := exE f (fun x s1 => match use s1 x with
  | .ok d s2 => .rt d s2.g
  | _ => .no) s
def asgO (s : Sg G) (i : Nat) (x : Ov) : Option (Sg G) := if i < s.sl.length then (match x with
    | .vl d => some (setS s i (some (false, d)))
    | .fr d => some (setS s i (some (true, d)))
    | .pl j => (match look s j with
      | some d => some (setS (frzS s j) i (some (false, d)))
      | none => none)) else none
def exAsg (i : Nat) (f : Sg G → Rs G Ov) (s : Sg G) : Ro G := exE f (fun x s1 => match asgO s1 i x with
  | some s2 => .nx s2
  | none => .no) s
/-- x.append(e), x an own list -/
def exApp (i : Nat) (f : Sg G → Rs G Ov) (s : Sg G) : Ro G := exE f (fun x s1 => match use s1 x with
  | .ok d s2 => (match s2.sl[i]? with
    | some (some (true, .lst ds)) => if ds.length < sizeLine then .nx (setS s2 i (some (true, .lst (ds ++ [d])))) else .no
    | _ => .no)
  | _ => .no) s
def forL (t : Tg) (body : Sg G → Ro G) : List D → Sg G → Ro G
  | [], s => .nx s
  | d :: ds, s => match asgT t d s with
    | none => .no
    | some s1 => (match body s1 with
      | .nx s2 => forL t body ds s2
      | .ct s2 => forL t body ds s2
      | .bk s2 => .nx s2
      | .rt d g => .rt d g
      | .er x g => .er x g
      | .no => .no)
def exFor (t : Tg) (fi : Sg G → Rs G (List D)) (body : Sg G → Ro G) (s : Sg G) : Ro G := match fi s with
  | .ok ds s1 => forL t body ds s1
  | .er x g => .er x g
  | .no => .no
def whL (c : Sg G → Rs G Ov) (body : Sg G → Ro G) : Nat → Sg G → Ro G
  | 0, _ => .no
  | n + 1, s => exE c (fun x s1 => match tst s1 x with
    | some true => (match body s1 with
      | .nx s2 => whL c body n s2
      | .ct s2 => whL c body n s2
      | .bk s2 => .nx s2
      | .rt d g => .rt d g
      | .er x g => .er x g
      | .no => .no)
    | some false => .nx s1
    | none => .no) s
end
section
variable {G : Type} {X : Cx} {K : Env1} {T : Gt G} {W : WX1} {tg a b c e elt iter : Expr} {es ifs : List Expr} {st : Stmt} {sts sts2 : List Stmt} {fa fb fc ft fe : Sg G → Rs G Ov} {f g : Sg G → Ro G} {fl : Sg G → Rs G (List Ov)} {fi : Sg G → Rs G (List D)} {pos p2 p3 : Pos} {F H F1 H1 : Hp} {s s1 : Sg G} {σ σ1 : Sl} {t : Tg} {scope : Scope} {own : List (Str × Nat)}
theorem Stp.xst {F' H' : Hp} {s' : Sg G} {σ' : Sl} (S : Stp T F H s σ F' H' s' σ') (R : Rl K T F' H' s' σ') : Xst T F H s σ F' H' s'.g := ⟨S.le, R.sub, S.keep, S.new, R.gs, R.gf⟩
theorem Xst.after {F' H' : Hp} {g' : G} (S : Stp T F H s σ F1 H1 s1 σ1) (R : Rl K T F H s σ) (q : Xst T F1 H1 s1 σ1 F' H' g') : Xst T F H s σ F' H' g' := by
  refine ⟨S.le.trans q.le, q.sub, fun a o e n nf => ?_, fun a n => ?_, q.gs, q.gf⟩
  · refine q.keep a o (S.keep a o e n nf) (fun z => ?_) nf
    rcases S.own a z with z | z
    · exact n z
    · rw [e] at z; cases z
  · rcases q.new a n with z | z | z
    · exact S.new a z
    · cases e : H a with
      | none => exact .inr (.inl rfl)
      | some o =>
        refine .inr (.inr ?_)
        apply Classical.byContradiction
        intro no
        by_cases nf : T.fp a
        · exact n (q.gf a nf)
        · rw [S.keep a o e no nf] at z; cases z
    · rcases S.own a z with z | z
      · exact .inr (.inr z)
      · exact .inr (.inl z)
theorem PstS.step {r : Ro G} {D : Ends} (S : Stp T F H s σ F1 H1 s1 σ1) (R : Rl K T F H s σ) (h : PstS K T W F H s σ r D) : PstS K T W F1 H1 s1 σ1 r D := by
  cases r with
  | no => exact h.elim
  | er x g => exact fun cls dd F' H' σ' q e => h cls dd F' H' σ' (q.after S R) e
  | nx s' => exact fun F' H' σ' S' R' => h F' H' σ' (S.trans S' R R') R'
  | bk s' => exact fun F' H' σ' S' R' => h F' H' σ' (S.trans S' R R') R'
  | ct s' => exact fun F' H' σ' S' R' => h F' H' σ' (S.trans S' R R') R'
  | rt d g => exact fun v F' H' q r => h v F' H' (q.after S R) r
/-- an expression, then what follows -/
theorem exE_core {k : Ov → Sg G → Ro G} {D : Ends} (hf : SE X K T W e fa) (R : Rl K T F H s σ) (h : PstS K T W F H s σ (exE fa k s) D) :
    wpE X e σ H (fun v H1 => ∃ F1 s1 x, Rl K T F1 H1 s1 σ ∧ Stp T F H s σ F1 H1 s1 σ ∧ RO K T H F1 H1 s1 σ v x ∧ PstS K T W F H s σ (k x s1) D) := by
  refine hf F H σ s _ R ?_
  unfold exE at h
  cases q : fa s with
  | no => rw [q] at h; exact h.elim
  | er x g => rw [q] at h; exact h
  | ok x s1 => rw [q] at h; exact fun v F1 H1 S1 R1 r1 => ⟨F1, s1, x, R1, S1, r1, h⟩
theorem exT_core {k : Bool → Sg G → Ro G} {D : Ends} (hf : ST X K T W e fa) (R : Rl K T F H s σ) (h : PstS K T W F H s σ (exE fa (fun x s1 => match tst s1 x with
    | some q => k q s1
    | none => .no) s) D) : wpT X e σ H (fun b H1 => ∃ F1 s1, Rl K T F1 H1 s1 σ ∧ Stp T F H s σ F1 H1 s1 σ ∧ PstS K T W F H s σ (k b s1) D) := by
  refine hf F H σ s _ R ?_
  unfold exE at h
  cases q : fa s with
  | no => rw [q] at h; exact h.elim
  | er x g => rw [q] at h; exact h
  | ok x s1 =>
    rw [q] at h
    show (match tst s1 x with
      | some b => ∀ F' H', Stp T F H s σ F' H' s1 σ → Rl K T F' H' s1 σ → _
      | none => False)
    simp only [] at h
    cases q2 : tst s1 x with
    | none => rw [q2] at h; exact h.elim
    | some b => rw [q2] at h; exact fun F' H' S' R' => ⟨F', s1, R', S', h⟩
theorem sb_nil : SB X K T W [] (fun s : Sg G => .nx s) := fun F H σ s D R h => wpB_of pss_nil (h F H σ (Stp.refl ..) R)
theorem sb_cons (h1 : SS X K T W st f) (h2 : SB X K T W sts g) : SB X K T W (st :: sts) (exSeq f g) := by
  intro F H σ s D R h
  refine wpB_of (pss_cons (ps_self X st) (pss_self X sts)) ?_
  refine h1 F H σ s _ R ?_
  unfold exSeq at h
  cases q : f s with
  | nx s' => rw [q] at h; exact fun F' H' σ' S' R' => h2 F' H' σ' s' D R' (PstS.step S' R h)
  | no => rw [q] at h; exact h
  | er x g => rw [q] at h; exact h
  | bk s' => rw [q] at h; exact h
  | ct s' => rw [q] at h; exact h
  | rt d g => rw [q] at h; exact h
theorem sb_one (h1 : SS X K T W st f) : SB X K T W [st] f := fun F H σ s D R h => wpB_of (pss_one (ps_self X st)) (h1 F H σ s D R h)
theorem ss_pass : SS X K T W (.Pass pos) (fun s : Sg G => .nx s) := fun F H σ s D R h => wpS_of ps_pass (h F H σ (Stp.refl ..) R)
theorem ss_break : SS X K T W (.Break pos) (fun s : Sg G => .bk s) := fun F H σ s D R h => wpS_of ps_break (h F H σ (Stp.refl ..) R)
theorem ss_if (hc : ST X K T W c fc) (ha : SB X K T W sts f) (hb : SB X K T W sts2 g) : SS X K T W (.If c sts sts2 pos) (exIf fc f g) := by
  intro F H σ s D R h
  refine wpS_of (ps_if (pt_self X c) (pss_self X sts) (pss_self X sts2)) ?_
  refine (show ∀ {Q Q' : Bool → Hp → Prop}, wpT X c σ H Q → (∀ b H, Q b H → Q' b H) → wpT X c σ H Q' from fun h i pins s I => thn (h pins s I) fun b s1 ⟨H1, I1, q⟩ => ⟨H1, I1, i b H1 q⟩) (exT_core (k := fun q s1 => if q = true then f s1 else g s1) hc R h) fun b H1 ⟨F1, s1, R1, S1, q⟩ => ?_
  cases b with
  | true => rw [if_pos rfl] at q ⊢; exact ha F1 H1 σ s1 D R1 (PstS.step S1 R q)
  | false => rw [if_neg Bool.false_ne_true] at q ⊢; exact hb F1 H1 σ s1 D R1 (PstS.step S1 R q)
theorem ss_ret (hf : SE X K T W e fa) : SS X K T W (.Return (some e) pos) (exRet fa) := by
  intro F H σ s D R h
  refine wpS_of (ps_ret (pe_self X e)) (wp_mono (exE_core hf R h) fun v H1 ⟨F1, s1, x, R1, S1, r1, q⟩ => ?_)
  cases q2 : use s1 x with
  | no => rw [q2] at q; exact q.elim
  | er y g => rw [q2] at q; exact q.elim
  | ok d s2 =>
    rw [q2] at q
    obtain ⟨F2, R2, S2, p2⟩ := r1.used S1 R R1 q2
    exact q v F2 H1 (S2.xst R2) p2
theorem ss_retN : SS X K T W (.Return none pos) (fun s : Sg G => .rt .non s.g) := fun F H σ s D R h => wpS_of ps_retN (h .non F H ((Stp.refl T F H s σ).xst R) .non)
/-- the value is dropped -/
def exDrop (f : Sg G → Rs G Ov) (s : Sg G) : Ro G := exE f (fun _ s1 => .nx s1) s
theorem ss_expr (hs : swapsWith e none pos.line X.env = pure false) (hf : SE X K T W e fa) : SS X K T W (.Expr e pos) (exDrop fa) := by
  intro F H σ s D R h
  exact wpS_of (ps_expr (pe_self X e) hs) (wp_mono (exE_core hf R h) fun v H1 ⟨F1, s1, x, R1, S1, r1, q⟩ => q F1 H1 σ S1 R1)
theorem asgO_ok {i : Nat} {v : V} {x : Ov} {s2 : Sg G} (S : Stp T F H s σ F1 H1 s1 σ) (R : Rl K T F H s σ) (R1 : Rl K T F1 H1 s1 σ) (r : RO K T H F1 H1 s1 σ v x) (h : asgO s1 i x = some s2) :
    ∃ F2, Rl K T F2 H1 s2 (σ.set i (some v)) ∧ Stp T F H s σ F2 H1 s2 (σ.set i (some v)) := by
  unfold asgO at h
  split at h
  · rename_i hi
    cases x with
    | vl d =>
      cases h
      obtain ⟨R2, S2⟩ := R1.setV hi r
      exact ⟨F1, R2, S.trans S2 R R2⟩
    | fr d =>
      cases h
      obtain ⟨p, rfl, n0, n, nf, no, sh⟩ := r
      obtain ⟨R2, S2⟩ := R1.setO hi n0 S n nf no sh
      exact ⟨F1, R2, S2⟩
    | pl j =>
      simp only [] at h
      cases q : look s1 j with
      | none => rw [q] at h; cases h
      | some d =>
        rw [q] at h
        cases h
        have hu : use s1 (.pl j) = .ok d (frzS s1 j) := by
          show (match look s1 j with
            | some d => Rs.ok d (frzS s1 j)
            | none => Rs.no) = _
          rw [q]
        obtain ⟨F2, R2, S2, p2⟩ := RO.used S R R1 r hu
        obtain ⟨R3, S3⟩ := R2.setV (i := i) (by rw [frzS_len]; exact hi) p2
        exact ⟨F2, R3, S2.trans S3 R R3⟩
  · cases h
theorem ss_asg {i : Nat} {x : Str} {pos' : Pos} (hN : X.N.Nodup) (hi : X.N[i]? = some x) (hx : Loc X.env.scope x) (hfn : X.fn x = true ∨ X.env.scope.names.lookup x = some .local) (hs : swapsWith e (some (.Name x pos')) pos.line X.env = pure false) (hf : SE X K T W e fa) :
    SS X K T W (.Assign [.Name x pos'] e pos) (exAsg i fa) := by
  intro F H σ s D R h
  refine wpS_of (ps_set hN hi hx (pe_self X e) hs hfn) (wp_mono (exE_core hf R h) fun v H1 ⟨F1, s1, x, R1, S1, r1, q⟩ => ?_)
  cases q2 : asgO s1 i x with
  | none => rw [q2] at q; exact q.elim
  | some s2 =>
    rw [q2] at q
    obtain ⟨F2, R2, S2⟩ := asgO_ok S1 R R1 r1 q2
    exact q F2 H1 _ S2 R2
theorem ss_asgLc {i : Nat} {y : Str} {py : Pos} (hy : X.N[i]? = some y) (hyl : X.env.scope.names.lookup y = some .local) (hsw : swapsWith (.ListComp elt [⟨tg, iter, ifs, 0⟩] scope p2) (some (.Name y py)) pos.line X.env = pure true)
    (L : LcOk X K T W elt tg iter ifs scope own fi t ft fe) {f : Sg G → Rs G Ov} (hc : LcCore X K T W elt tg iter ifs scope own t f) : SS X K T W (.Assign [.Name y py] (.ListComp elt [⟨tg, iter, ifs, 0⟩] scope p2) pos) (exAsg i f) := by
  intro F H σ s D R h
  refine wpS_of (ps_setLc L.calm L.nd hy hyl hsw (pi_self X tg iter) L.ok L.tgt L.pts L.pe (folded_of L.ns X.env)) ?_
  refine hc F H s σ _ R ?_
  unfold exAsg exE at h
  cases q : f s with
  | no => rw [q] at h; exact h.elim
  | er x g => rw [q] at h; exact h
  | ok x s1 =>
    rw [q] at h
    intro v F1 H1 S1 R1 r1
    simp only [] at h
    cases q2 : asgO s1 i x with
    | none => rw [q2] at h; exact h.elim
    | some s2 =>
      rw [q2] at h
      obtain ⟨F2, R2, S2⟩ := asgO_ok S1 R R1 r1 q2
      exact h F2 H1 _ S2 R2
/-! loops -/
theorem ss_for (hp : PassesOwn (model X.prog X.w) X.A X.env X.xe) (hc : X.calm = true) (hk : K.K = X.K) (hi : SI X K T W tg iter fi) (hg : PG X tg (gOf X.K t)) (hb : SB X K T W sts f) (hns : notSet iter = true) : SS X K T W (.For tg iter sts [] pos) (exFor t fi f) := by
  intro F H σ s D R h
  refine wpS_of (ps_for hp hc (pi_self X tg iter) hg (pss_self X sts) (folded_of hns X.env)) (hi F H σ s _ R ?_)
  unfold exFor at h
  cases q : fi s with
  | no => rw [q] at h; exact h.elim
  | er x g => rw [q] at h; exact h
  | ok ds s1 =>
    rw [q] at h
    intro J F1 H1 S1 R1 hJ
    refine for_it hJ (fun i σi Hi => ∃ Fi si, Rl K T Fi Hi si σi ∧ Le F1 Fi ∧ PstS K T W Fi Hi si σi (forL t f (ds.drop i) si) D) ⟨F1, s1, R1, Le.refl _, by rw [List.drop_zero]; exact PstS.step S1 R h⟩ (fun i σi Hi _ ⟨Fi, si, Ri, l, _⟩ => l.trans Ri.sub) (fun i x σi Hi H' hlt p y => ?_) (fun σi Hi p => ?_)
    · obtain ⟨Fi, si, Ri, l, hp⟩ := p
      have hd : ds[i]? = some ds[i] := List.getElem?_eq_getElem hlt
      rw [List.drop_eq_getElem_cons hlt] at hp
      have y' : Yd K Fi ds i Hi x H' := by
        obtain ⟨d, e1, y⟩ := y
        refine ⟨d, e1, ?_⟩
        rcases y with ⟨e2, r⟩ | ⟨p, vs, es, e2, e3, e4, e5, r⟩
        · exact .inl ⟨e2, r.mono l⟩
        · exact .inr ⟨p, vs, es, e2, e3, e4, e5, r.mono l⟩
      unfold forL at hp
      cases q1 : asgT t ds[i] si with
      | none => rw [q1] at hp; exact hp.elim
      | some s2 =>
        rw [q1] at hp
        simp only [] at hp
        rw [← hk]
        refine asgT_ok Ri hd y' q1 fun F2 σ2 R2 S2 l2 _ => hb F2 H' σ2 s2 _ R2 ?_
        have hp2 := hp
        cases q2 : f s2 with
        | no => rw [q2] at hp; exact hp.elim
        | er x g => rw [q2] at hp; exact PstS.step S2 Ri hp
        | rt d g => rw [q2] at hp; exact PstS.step S2 Ri hp
        | bk s3 => rw [q2] at hp; exact PstS.step S2 Ri hp
        | nx s3 =>
          rw [q2] at hp
          exact fun F3 H3 σ3 S3 R3 => ⟨F3, s3, R3, (l.trans l2).trans S3.le, PstS.step (S2.trans S3 Ri R3) Ri hp⟩
        | ct s3 =>
          rw [q2] at hp
          exact fun F3 H3 σ3 S3 R3 => ⟨F3, s3, R3, (l.trans l2).trans S3.le, PstS.step (S2.trans S3 Ri R3) Ri hp⟩
    · obtain ⟨Fi, si, Ri, l, hp⟩ := p
      rw [List.drop_length] at hp
      exact hp Fi Hi σi (Stp.refl ..) Ri
theorem ss_while {n : Nat} (hp : PassesOwn (model X.prog X.w) X.A X.env X.xe) (hc : ST X K T W c fc) (hb : SB X K T W sts f) : SS X K T W (.While c sts [] pos) (whL fc f n) := by
  intro F H σ s D R h
  refine wpS_of (ps_while hp (pt_self X c) (pss_self X sts)) ⟨fun m σi Hi => ∃ Fi si, Rl K T Fi Hi si σi ∧ PstS K T W Fi Hi si σi (whL fc f m si) D, ⟨n, F, s, R, h⟩, fun m σi Hi p => ?_⟩
  obtain ⟨Fi, si, Ri, hq⟩ := p
  cases m with
  | zero => exact hq.elim
  | succ m =>
    have hq : PstS K T W Fi Hi si σi (exE fc (fun x s1 => match tst s1 x with
      | some b => (if b = true then (match f s1 with
        | .nx s2 => whL fc f m s2
        | .ct s2 => whL fc f m s2
        | .bk s2 => .nx s2
        | .rt d g => .rt d g
        | .er x g => .er x g
        | .no => .no) else .nx s1)
      | none => .no) si) D := by
      have e : whL fc f (m + 1) si = exE fc (fun x s1 => match tst s1 x with
        | some b => (if b = true then (match f s1 with
          | .nx s2 => whL fc f m s2
          | .ct s2 => whL fc f m s2
          | .bk s2 => .nx s2
          | .rt d g => .rt d g
          | .er x g => .er x g
          | .no => .no) else .nx s1)
        | none => .no) si := by
        show exE fc _ si = _
        congr 1
        funext x s1
        cases tst s1 x with
        | none => rfl
        | some b => cases b <;> rfl
      rw [← e]; exact hq
    refine (show ∀ {Q Q' : Bool → Hp → Prop}, wpT X c σi Hi Q → (∀ b H, Q b H → Q' b H) → wpT X c σi Hi Q' from fun h i pins s I => thn (h pins s I) fun b s1 ⟨H1, I1, q⟩ => ⟨H1, I1, i b H1 q⟩) (exT_core (k := fun b s1 => if b = true then (match f s1 with
        | .nx s2 => whL fc f m s2
        | .ct s2 => whL fc f m s2
        | .bk s2 => .nx s2
        | .rt d g => .rt d g
        | .er x g => .er x g
        | .no => .no) else .nx s1) hc Ri hq) fun b H1 ⟨F1, s1, R1, S1, q⟩ => ?_
    cases b with
    | false => rw [if_neg Bool.false_ne_true] at q ⊢; exact q F1 H1 σi S1 R1
    | true =>
      rw [if_pos rfl] at q ⊢
      refine ⟨fun σ' H' => ∃ F' s', Rl K T F' H' s' σ' ∧ PstS K T W F' H' s' σ' (whL fc f m s') D, fun σ' H' p => ⟨m, Nat.lt_succ_self m, p⟩, hb F1 H1 σi s1 _ R1 ?_⟩
      cases q2 : f s1 with
      | no => rw [q2] at q; exact q.elim
      | er x g => rw [q2] at q; exact PstS.step S1 Ri q
      | rt d g => rw [q2] at q; exact PstS.step S1 Ri q
      | bk s3 => rw [q2] at q; exact PstS.step S1 Ri q
      | nx s3 => rw [q2] at q; exact fun F3 H3 σ3 S3 R3 => ⟨F3, s3, R3, PstS.step (S1.trans S3 Ri R3) Ri q⟩
      | ct s3 => rw [q2] at q; exact fun F3 H3 σ3 S3 R3 => ⟨F3, s3, R3, PstS.step (S1.trans S3 Ri R3) Ri q⟩
end
end BF
set_option Elab.async false
set_option linter.all false
set_option autoImplicit false
set_option maxRecDepth 100000
set_option maxHeartbeats 2000000
namespace BF
open PySem PySem.Spec PyProof.Rows L2
section
variable {G : Type}
/-- slots among operands are used -/
def nrms (s : Sg G) : List Ov → Option (List Ov × Sg G)
  | [] => some ([], s)
  | .pl j :: xs => (look s j).bind fun d => (nrms (frzS s j) xs).map fun q => (.vl d :: q.1, q.2)
  | .vl d :: xs => (nrms s xs).map fun q => (.vl d :: q.1, q.2)
  | .fr d :: xs => (nrms s xs).map fun q => (.fr d :: q.1, q.2)
def asgsO : List Nat → List Ov → Sg G → Option (Sg G)
  | [], [], s => some s
  | i :: ix, x :: xs, s => (asgO s i x).bind fun s1 => asgsO ix xs s1
  | _, _, _ => none
/-- a, b = x, y -/
def exPar (ix : List Nat) (f : Sg G → Rs G (List Ov)) (s : Sg G) : Ro G := exL f (fun xs s1 => match nrms s1 xs with
  | some (ys, s2) => (match asgsO ix ys s2 with
    | some s3 => .nx s3
    | none => .no)
  | none => .no) s
/-- a, b = x, a tuple -/
def exUnp (t : Tg) (f : Sg G → Rs G Ov) (s : Sg G) : Ro G := exE f (fun x s1 => match use s1 x with
  | .ok d s2 => (match asgT t d s2 with
    | some s3 => .nx s3
    | none => .no)
  | _ => .no) s
end
def setAll : Sl → List Nat → List V → Sl
  | σ, i :: ix, v :: vs => setAll (σ.set i (some v)) ix vs
  | σ, _, _ => σ
section
variable {G : Type} {X : Cx} {K : Env1} {T : Gt G} {W : WX1} {tg a b c e elt iter : Expr} {es ifs : List Expr} {st : Stmt} {sts sts2 : List Stmt} {fa fb fc ft fe : Sg G → Rs G Ov} {f g : Sg G → Ro G} {fl : Sg G → Rs G (List Ov)} {fi : Sg G → Rs G (List D)} {pos p2 p3 : Pos} {F H F0 H0 F1 H1 : Hp} {s s0 s1 : Sg G} {σ σ0 σ1 : Sl} {t : Tg}
theorem ROs.step {F2 H2 : Hp} {s2 : Sg G} (S : Stp T F1 H1 s1 σ F2 H2 s2 σ) {vs : List V} {xs : List Ov} (r : ROs K T H0 F1 H1 s1 σ vs xs) : ROs K T H0 F2 H2 s2 σ vs xs := by
  induction r with
  | nil => exact .nil
  | cons a1 a2 a3 ih => exact .cons (a1.step S) a2 ih
theorem nrm_tag : ∀ {xs ys : List Ov} {s s' : Sg G}, nrms s xs = some (ys, s') → ys.length = xs.length ∧ (∀ y ∈ ys, ∀ j, y ≠ .pl j) ∧ ∀ (vs : List V) q, q ∈ vs.zip ys → ∀ e, q.2 = .fr e → (q.1, .fr e) ∈ vs.zip xs := by
  intro xs
  induction xs with
  | nil => intro ys s s' h; cases h; exact ⟨rfl, (fun y hy => by cases hy), fun vs q hq => by rw [List.zip_nil_right] at hq; cases hq⟩
  | cons x xs ih =>
    intro ys s s' h
    have fin : ∀ {z : Ov} {zs : List Ov} {s0 : Sg G} {w : Option (List Ov × Sg G)}, w = nrms s0 xs → (w.map fun q => (z :: q.1, q.2)) = some (ys, s') → (∀ j, z ≠ .pl j) → (∀ e, z = .fr e → x = .fr e) →
        ys.length = (x :: xs).length ∧ (∀ y ∈ ys, ∀ j, y ≠ .pl j) ∧ ∀ (vs : List V) q, q ∈ vs.zip ys → ∀ e, q.2 = .fr e → (q.1, .fr e) ∈ vs.zip (x :: xs) := by
      intro z zs s0 w hw hm hz hf
      cases q : w with
      | none => rw [q] at hm; cases hm
      | some r =>
        obtain ⟨r1, r2⟩ := r
        rw [q] at hm
        cases hm
        rw [q] at hw
        obtain ⟨h1, h2, h3⟩ := ih hw.symm
        refine ⟨by simp [h1], fun y hy j => ?_, fun vs q hq e he => ?_⟩
        · rcases List.mem_cons.mp hy with rfl | hy
          · exact hz j
          · exact h2 y hy j
        · cases vs with
          | nil => simp at hq
          | cons v vs =>
            rw [List.zip_cons_cons] at hq ⊢
            rcases List.mem_cons.mp hq with rfl | hq
            · rw [hf e he]; exact List.mem_cons_self ..
            · exact List.mem_cons_of_mem _ (h3 vs q hq e he)
    cases x with
    | vl d => exact fin (zs := []) rfl h (fun j z => nomatch z) fun e z => nomatch z
    | fr d => exact fin (zs := []) rfl h (fun j z => nomatch z) fun e z => by cases z; rfl
    | pl j =>
      have h : ((look s j).bind fun d => (nrms (frzS s j) xs).map fun q => (.vl d :: q.1, q.2)) = some (ys, s') := h
      cases q : look s j with
      | none => rw [q] at h; cases h
      | some d => rw [q] at h; exact fin (zs := []) rfl h (fun j z => nomatch z) fun e z => nomatch z
theorem ROs.nrm {xs : List Ov} : ∀ {vs : List V} {ys : List Ov} {F : Hp} {s s' : Sg G}, Rl K T F H s σ → ROs K T H0 F H s σ vs xs → nrms s xs = some (ys, s') → ∃ F', Rl K T F' H s' σ ∧ Stp T F H s σ F' H s' σ ∧ ROs K T H0 F' H s' σ vs ys := by
  induction xs with
  | nil => intro vs ys F s s' R r h; cases r; cases h; exact ⟨F, R, Stp.refl .., .nil⟩
  | cons x xs ih =>
    intro vs ys F s s' R r h
    have tag := nrm_tag h
    cases r with
    | @cons v vs _ _ h1 h2 h3 =>
      cases x with
      | vl d =>
        have h : (nrms s xs).map (fun q => (Ov.vl d :: q.1, q.2)) = some (ys, s') := h
        cases q : nrms s xs with
        | none => rw [q] at h; cases h
        | some r =>
          obtain ⟨r1, r2⟩ := r
          rw [q] at h
          cases h
          obtain ⟨F', R', S', r'⟩ := ih R h3 q
          exact ⟨F', R', S', .cons (h1.step S') (fun d e => nomatch e) r'⟩
      | fr d =>
        have h : (nrms s xs).map (fun q => (Ov.fr d :: q.1, q.2)) = some (ys, s') := h
        cases q : nrms s xs with
        | none => rw [q] at h; cases h
        | some r =>
          obtain ⟨r1, r2⟩ := r
          rw [q] at h
          cases h
          obtain ⟨F', R', S', r'⟩ := ih R h3 q
          refine ⟨F', R', S', .cons (h1.step S') (fun d' e' z hz e2 he2 => ?_) r'⟩
          cases e'
          exact h2 d rfl (z.1, .fr e2) ((nrm_tag q).2.2 vs z hz e2 he2) e2 rfl
      | pl j =>
        have h : ((look s j).bind fun d => (nrms (frzS s j) xs).map fun q => (.vl d :: q.1, q.2)) = some (ys, s') := h
        cases q0 : look s j with
        | none => rw [q0] at h; cases h
        | some d =>
          rw [q0] at h
          have h : (nrms (frzS s j) xs).map (fun q => (Ov.vl d :: q.1, q.2)) = some (ys, s') := h
          have hu : use s (.pl j) = .ok d (frzS s j) := by
            show (match look s j with
              | some d => Rs.ok d (frzS s j)
              | none => Rs.no) = _
            rw [q0]
          obtain ⟨F1, R1, S1, p1⟩ := RO.used (Stp.refl T F H s σ) R R (show RO K T H F H s σ v (.pl j) from h1) hu
          cases q : nrms (frzS s j) xs with
          | none => rw [q] at h; cases h
          | some r =>
            obtain ⟨r1, r2⟩ := r
            rw [q] at h
            cases h
            obtain ⟨F', R', S', r'⟩ := ih R1 (h3.step S1) q
            exact ⟨F', R', S1.trans S' R R', .cons (p1.mono S'.le) (fun d e => nomatch e) r'⟩
theorem ownd_set {i : Nat} {bb : Bool} {d : D} {v : V} {a : Addr} (hi : i < s.sl.length) (hl : s.sl.length = σ.length) (h : Ownd (setS s i (some (bb, d))) (σ.set i (some v)) a) : Ownd s σ a ∨ (bb = true ∧ v = .ref a) := by
  obtain ⟨j, x, h1, h2⟩ := h
  rw [setS_get _ _ _ _ hi] at h1
  by_cases q : j = i
  · subst q
    rw [if_pos rfl] at h1
    rw [List.getElem?_set_self (by omega)] at h2
    cases h1; cases h2
    exact .inr ⟨rfl, rfl⟩
  · rw [if_neg q] at h1
    rw [List.getElem?_set_ne (Ne.symm q)] at h2
    exact .inl ⟨j, x, h1, h2⟩
theorem asgsO_ok {ix : List Nat} : ∀ {vs : List V} {ys : List Ov} {s s' : Sg G} {σ : Sl}, Stp T F0 H0 s0 σ0 F H s σ → Rl K T F H s σ → ROs K T H0 F H s σ vs ys → (∀ y ∈ ys, ∀ j, y ≠ .pl j) → asgsO ix ys s = some s' →
    Rl K T F H s' (setAll σ ix vs) ∧ Stp T F0 H0 s0 σ0 F H s' (setAll σ ix vs) ∧ ix.length = vs.length := by
  induction ix with
  | nil =>
    intro vs ys s s' σ S R r hy h
    cases ys with
    | nil => cases r; cases h; exact ⟨R, S, rfl⟩
    | cons y ys => cases h
  | cons i ix ih =>
    intro vs ys s s' σ S R r hy h
    cases ys with
    | nil => cases h
    | cons y ys =>
      cases r with
      | @cons v vs _ _ h1 h2 h3 =>
        have h : ((asgO s i y).bind fun s1 => asgsO ix ys s1) = some s' := h
        cases q : asgO s i y with
        | none => rw [q] at h; cases h
        | some s1 =>
          rw [q] at h
          have main : ∃ bb d, i < s.sl.length ∧ s1 = setS s i (some (bb, d)) ∧ (bb = true → ∃ d, y = .fr d) ∧ Rl K T F H s1 (σ.set i (some v)) ∧ Stp T F0 H0 s0 σ0 F H s1 (σ.set i (some v)) := by
            unfold asgO at q
            split at q
            · rename_i hi
              cases y with
              | vl d =>
                cases q
                obtain ⟨R2, S2⟩ := R.setV hi h1
                refine ⟨false, d, hi, rfl, (fun z => nomatch z), R2, ⟨S.le, S.keep, S.new, fun a z => ?_, fun j y hj => ?_, S.grow⟩⟩
                · rcases ownd_set hi R.len z with z | ⟨z, _⟩
                  · exact S.own a z
                  · cases z
                · obtain ⟨z, hz⟩ := S.kp j y hj
                  exact S2.kp j z hz
              | fr d =>
                cases q
                obtain ⟨p, rfl, n0, n, nf, no, sh⟩ := h1
                obtain ⟨R2, S2⟩ := R.setO hi n0 S n nf no sh
                exact ⟨true, d, hi, rfl, fun _ => ⟨d, rfl⟩, R2, S2⟩
              | pl j => exact (hy _ (List.mem_cons_self ..) j rfl).elim
            · cases q
          obtain ⟨bb, d, hi, e1, hb, R2, S2⟩ := main
          have r2 : ROs K T H0 F H s1 (σ.set i (some v)) vs ys := by
            have go : ∀ {vs : List V} {ys : List Ov}, (∀ q ∈ vs.zip ys, ∀ e, q.2 = .fr e → bb = true → q.1 ≠ v) → (∀ y ∈ ys, ∀ j, y ≠ .pl j) → ROs K T H0 F H s σ vs ys → ROs K T H0 F H s1 (σ.set i (some v)) vs ys := by
              intro vs ys hd hp r
              induction r with
              | nil => exact .nil
              | @cons w ws z zs a1 a2 a3 ih2 =>
                refine .cons ?_ a2 (ih2 (fun q hq => hd q (List.mem_cons_of_mem _ hq)) fun y hy => hp y (List.mem_cons_of_mem _ hy))
                cases z with
                | vl d => exact a1
                | pl j => exact (hp _ (List.mem_cons_self ..) j rfl).elim
                | fr d' =>
                  obtain ⟨p, e2, n0, n, nf, no, sh⟩ := a1
                  refine ⟨p, e2, n0, n, nf, fun z => ?_, sh⟩
                  rw [e1] at z
                  rcases ownd_set hi R.len z with z | ⟨z1, z2⟩
                  · exact no z
                  · exact hd (w, .fr d') (List.mem_cons_self ..) d' rfl z1 (by rw [z2]; exact e2)
            refine go (fun q hq e he hbb => ?_) (fun y hy' => hy y (List.mem_cons_of_mem _ hy')) h3
            obtain ⟨d', e3⟩ := hb hbb
            exact h2 d' e3 q hq e he
          obtain ⟨k1, k2, k3⟩ := ih S2 R2 r2 (fun y hy' => hy y (List.mem_cons_of_mem _ hy')) h
          exact ⟨k1, k2, by simp [k3]⟩
/-- what the parts of a written tuple are stored into -/
theorem par_core {ix : List Nat} {D : Ends} (hl : SL X K T W es fl) (R : Rl K T F H s σ) (h : PstS K T W F H s σ (exPar ix fl s) D) :
    wpL X es σ H (fun vs H1 => ix.length = vs.length ∧ D.nx (setAll σ ix vs) H1 ∧ ∀ p, H1 p = none → D.nx (setAll σ ix vs) (upd H1 p (.tup vs))) := by
  refine hl F H σ s _ R ?_
  unfold exPar exL at h
  cases q : fl s with
  | no => rw [q] at h; exact h.elim
  | er x g => rw [q] at h; exact h
  | ok xs s1 =>
    rw [q] at h
    intro vs F1 H1 S1 R1 r1
    simp only [] at h
    cases q2 : nrms s1 xs with
    | none => rw [q2] at h; exact h.elim
    | some r =>
      obtain ⟨ys, s2⟩ := r
      rw [q2] at h
      simp only [] at h
      cases q3 : asgsO ix ys s2 with
      | none => rw [q3] at h; exact h.elim
      | some s3 =>
        rw [q3] at h
        obtain ⟨F2, R2, S2, r2⟩ := r1.nrm R1 q2
        have S12 := S1.trans S2 R R2
        obtain ⟨R3, S3, hl3⟩ := asgsO_ok S12 R2 r2 (nrm_tag q2).2.1 q3
        refine ⟨hl3, h F2 H1 _ S3 R3, fun p n => ?_⟩
        obtain ⟨R4, S4⟩ := R3.new (o := .tup vs) n
        exact h F2 _ _ (S3.trans S4 R R4) R4
theorem gNames_all : ∀ {ix : List Nat} {vs : List V} {σ : Sl} {H : Hp} {k : Sl → Hp → Prop}, ix.length = vs.length → k (setAll σ ix vs) H → gNames ix vs σ H k := by
  intro ix
  induction ix with
  | nil =>
    intro vs σ H k hl h
    cases vs with
    | nil => exact ⟨rfl, h⟩
    | cons v vs => cases hl
  | cons i ix ih =>
    intro vs σ H k hl h
    cases vs with
    | nil => cases hl
    | cons v vs => exact ⟨v, vs, rfl, ih (by simpa using hl) h⟩
/-- a, b = x, y: by a tuple -/
theorem ss_parT {ix : List Nat} {kt k2 : Nat} {tes : List Expr} (hst : es.all noStar = true) (hz : es.length ≤ sizeLine) (hg : PG X (.Tuple tes kt p2) (gOf X.K (.tp ix))) (hw : swappedStores [.Tuple tes kt p2] (.Tuple es k2 p3) X.env = pure none) (hl : SL X K T W es fl) :
    SS X K T W (.Assign [.Tuple tes kt p2] (.Tuple es k2 p3) pos) (exPar ix fl) := by
  intro F H σ s D R h
  refine wpS_of (ps_asg (pe_tup (pa_self X hst)) hg rfl hw) ?_
  show wpL X es σ H fun xs H1 => xs.length ≤ sizeLine ∧ ∀ p, H1 p = none → gOf X.K (.tp ix) (.ref p) σ (upd H1 p (.tup xs)) D.nx
  refine wpL_mono (Q := fun _ _ => True) (Q' := fun _ _ => True) (wpL_len (par_core hl R h)) fun vs H1 q => ⟨by rw [q.1]; exact hz, fun p n => ?_⟩
  exact ⟨p, vs, rfl, .inl (.inl upd_same), q.2.1.symm, gNames_all q.2.1 (q.2.2.2 p n)⟩
/-- a, b = x, y: plain local names -/
theorem ss_par2 {i j : Nat} {x y : Str} {px py : Pos} {kt k2 : Nat} (hc : X.calm = true) (hN : X.N.Nodup) (hi : X.N[i]? = some x) (hj : X.N[j]? = some y) (hij : i ≠ j) (hx : X.env.scope.names.lookup x = some .local) (hy : X.env.scope.names.lookup y = some .local) (hst : [a, b].all noStar = true)
    (hw : swappedStores [.Tuple [.Name x px, .Name y py] kt p2] (.Tuple [a, b] k2 p3) X.env = pure (some [x, y])) (hl : SL X K T W [a, b] fl) : SS X K T W (.Assign [.Tuple [.Name x px, .Name y py] kt p2] (.Tuple [a, b] k2 p3) pos) (exPar [i, j] fl) := by
  intro F H σ s D R h
  refine wpS_of (ps_par hc hN hi hj hij hx hy (pa_self X hst) hw rfl) ?_
  refine wpL_mono (Q := fun _ _ => True) (Q' := fun _ _ => True) (par_core hl R h) fun vs H1 q => ?_
  obtain ⟨q1, q2, _⟩ := q
  match vs, q1, q2 with
  | [v, w], _, q2 => exact ⟨v, w, rfl, q2⟩
theorem ss_par3 {i j l : Nat} {x y z : Str} {px py pz : Pos} {kt k2 : Nat} (hc : X.calm = true) (hN : X.N.Nodup) (hi : X.N[i]? = some x) (hj : X.N[j]? = some y) (hl' : X.N[l]? = some z) (hij : i ≠ j) (hil : i ≠ l) (hjl : j ≠ l)
    (hx : X.env.scope.names.lookup x = some .local) (hy : X.env.scope.names.lookup y = some .local) (hz : X.env.scope.names.lookup z = some .local) (hst : [a, b, c].all noStar = true)
    (hw : swappedStores [.Tuple [.Name x px, .Name y py, .Name z pz] kt p2] (.Tuple [a, b, c] k2 p3) X.env = pure (some [x, y, z])) (hl : SL X K T W [a, b, c] fl) :
    SS X K T W (.Assign [.Tuple [.Name x px, .Name y py, .Name z pz] kt p2] (.Tuple [a, b, c] k2 p3) pos) (exPar [i, j, l] fl) := by
  intro F H σ s D R h
  refine wpS_of (ps_par3 hc hN hi hj hl' hij hil hjl hx hy hz (pa_self X hst) hw rfl) ?_
  refine wpL_mono (Q := fun _ _ => True) (Q' := fun _ _ => True) (par_core hl R h) fun vs H1 q => ?_
  obtain ⟨q1, q2, _⟩ := q
  match vs, q1, q2 with
  | [u, v, w], _, q2 => exact ⟨u, v, w, rfl, q2⟩
/-- a, b = e -/
theorem ss_unp {tgt : Expr} (hk : K.K = X.K) (hg : PG X tgt (gOf X.K t)) (h1 : (assignEach [tgt] X.env).map (·.2) = [assign tgt X.env]) (hs : swapsWithSole [tgt] e pos.line X.env = pure false) (hw : swappedStores [tgt] e X.env = pure none) (hf : SE X K T W e fa) : SS X K T W (.Assign [tgt] e pos) (exUnp t fa) := by
  intro F H σ s D R h
  refine wpS_of (ps_asg (pe_self X e) hg hs hw h1) (wp_mono (exE_core hf R h) fun v H1 ⟨F1, s1, x, R1, S1, r1, q⟩ => ?_)
  cases q2 : use s1 x with
  | no => rw [q2] at q; exact q.elim
  | er y g => rw [q2] at q; exact q.elim
  | ok d s2 =>
    rw [q2] at q
    simp only [] at q
    cases q3 : asgT t d s2 with
    | none => rw [q3] at q; exact q.elim
    | some s3 =>
      rw [q3] at q
      obtain ⟨F2, R2, S2, p2⟩ := r1.used S1 R R1 q2
      rw [← hk]
      exact asgT_ok (ds := [d]) (i := 0) R2 rfl ⟨d, rfl, .inl ⟨rfl, p2⟩⟩ q3 fun F3 σ3 R3 S3 _ _ => q F3 H1 σ3 (S2.trans S3 R R3) R3
end
end BF
set_option Elab.async false
set_option linter.all false
set_option autoImplicit false
set_option maxRecDepth 100000
set_option maxHeartbeats 2000000
namespace BF
open PySem PySem.Spec PyProof.Rows L2
section
variable {G : Type}
def isOwnL (s : Sg G) (i : Nat) : Bool := match s.sl[i]? with
  | some (some (true, .lst _)) => true
  | _ => false
/-- x.append(e), x an own list -/
def exAppend (i : Nat) (f : Sg G → Rs G Ov) (s : Sg G) : Ro G := if isOwnL s i then exApp i f s else .no
def isOwnC (s : Sg G) (i : Nat) : Bool := match s.sl[i]? with
  | some (some (true, _)) => true
  | _ => false
/-- a container with a value stored at a key -/
def stO : D → D → D → Option D
  | .lst ds, .int k, d => (ixN ds.length k).map fun j => .lst (ds.set j d)
  | .dct kvs, k, d => if sortB (kvs.map (·.1)) k = true ∧ kvs.length < sizeLine then some (.dct (putK kvs k d)) else none
  | _, _, _ => none
theorem stO_inv {c k d c' : D} (h : stO c k d = some c') : (∃ ds i j, c = .lst ds ∧ k = .int i ∧ ixN ds.length i = some j ∧ c' = .lst (ds.set j d)) ∨ ∃ kvs, c = .dct kvs ∧ sortB (kvs.map (·.1)) k = true ∧ kvs.length < sizeLine ∧ c' = .dct (putK kvs k d) := by
  cases c with
  | lst ds =>
    cases k with
    | int i =>
      simp only [stO] at h
      cases q : ixN ds.length i with
      | none => rw [q] at h; cases h
      | some j => rw [q] at h; cases h; exact .inl ⟨ds, i, j, rfl, rfl, q, rfl⟩
    | _ => cases h
  | dct kvs =>
    simp only [stO] at h
    split at h
    · rename_i q; cases h; exact .inr ⟨kvs, rfl, q.1, q.2, rfl⟩
    · cases h
  | _ => cases h
/-- x[k] = e, x an own list or dict -/
def exStore (i : Nat) (fe fk : Sg G → Rs G Ov) (s : Sg G) : Ro G := exE fe (fun x s1 => match use s1 x with
  | .ok d s2 => if isOwnC s2 i then exE fk (fun y s3 => match use s3 y with
    | .ok kd s4 => (match s4.sl[i]? with
      | some (some (true, c)) => (match stO c kd d with
        | some c' => .nx (setS s4 i (some (true, c')))
        | none => .no)
      | _ => .no)
    | _ => .no) s2 else .no
  | _ => .no) s
/-- x += e, x -= e: ints -/
def exAug (op : Int → Int → Int) (i : Nat) (f : Sg G → Rs G Ov) (s : Sg G) : Ro G := match look s i with
  | some (.int a) => exE f (fun x s1 => match pk s1 x with
    | some (.int b) => if i < s1.sl.length then .nx (setS s1 i (some (false, .int (op a b)))) else .no
    | _ => .no) s
  | _ => .no
/-- a def runs -/
def runF (n : Nat) (code : Sg G → Ro G) : Mir G := fun ds g => match code ⟨ds.map (fun d => some (false, d)) ++ List.replicate (n - ds.length) none, g⟩ with
  | .nx s' => .ok .non s'.g
  | .rt d g' => .ok d g'
  | .er x g' => .er x g'
  | _ => .no
/-- x[k] += e, x an own list of ints -/
def exAugS (i : Nat) (fk fe : Sg G → Rs G Ov) (s : Sg G) : Ro G := if isOwnL s i then exE fk (fun y s1 => match pk s1 y with
  | some (.int k) => (match s1.sl[i]? with
    | some (some (true, .lst ds)) => (match L2.atI ds k with
      | some (.int a) => if 0 ≤ k then exE fe (fun z s2 => match pk s2 z with
        | some (.int b) => (match s2.sl[i]? with
          | some (some (true, .lst ds')) => (match ixN ds'.length k with
            | some j => .nx (setS s2 i (some (true, .lst (ds'.set j (.int (a + b))))))
            | none => .no)
          | _ => .no)
        | _ => .no) s1 else .no
      | _ => .no)
    | _ => .no)
  | _ => .no) s else .no
end
section
variable {G : Type} {X : Cx} {K : Env1} {T : Gt G} {W : WX1} {tg a b c e elt iter : Expr} {es ifs : List Expr} {st : Stmt} {sts sts2 : List Stmt} {fa fb fc ft fe fk : Sg G → Rs G Ov} {f g : Sg G → Ro G} {fl : Sg G → Rs G (List Ov)} {fi : Sg G → Rs G (List D)} {pos p2 p3 : Pos} {F H F0 H0 F1 H1 : Hp} {s s0 s1 : Sg G} {σ σ0 σ1 : Sl} {t : Tg}
theorem ss_append {i : Nat} {x : Str} {p1 apos cpos : Pos} (hN : X.N[i]? = some x) (hv : Vis X.env.scope x) (hd : (x == ("__debug__" : Str)) = false) (hcd : (x == ("__classdict__" : Str)) = false) (hst : noStar e = true) (hline : (apos.endLine == cpos.line) = true) (hf : SE X K T W e fa) :
    SS X K T W (.Expr (.Call (.Attribute (.Name x p1) "append" apos) [e] [] cpos) pos) (exAppend i fa) := by
  intro F H σ s D R h
  unfold exAppend at h
  split at h
  · rename_i hown
    have hst2 : [e].all noStar = true := by simp [hst]
    have q := pe_bm (X := X) PySem.F.plainAttrs_list PySem.F.slot_list_append PySem.F.type_list_append mt_append (pe_var (pos := p1) hN hv hd hcd) (pa_self X hst2) (cpos := cpos) (apos := apos) rfl (by rw [starEach_of hst]; rfl) hline (starEach_of hst) rfl
    refine wpS_of (ps_expr q rfl) ?_
    unfold isOwnL at hown
    split at hown
    · rename_i ds0 e0
      obtain ⟨p, h1, n, nf, vs0, h2, h3⟩ := R.own i _ e0
      refine ⟨.ref p, h1, .inl ⟨rfl, vs0, .inl (.inl h2)⟩, ?_⟩
      show wpE X e σ H fun y H1 => rAppend (.ref p) [y] H1 fun _ H' => D.nx σ H'
      refine wp_mono (exE_core hf R h) fun v H1 ⟨F1, s1, x, R1, S1, r1, q⟩ => ?_
      cases q2 : use s1 x with
      | no => rw [q2] at q; exact q.elim
      | er y g => rw [q2] at q; exact q.elim
      | ok d s2 =>
        rw [q2] at q
        simp only [] at q
        obtain ⟨F2, R2, S2, p2⟩ := r1.used S1 R R1 q2
        split at q
        · rename_i ds e2
          split at q
          · rename_i hz
            obtain ⟨p', k1, k2, k3, vs, k4, k5⟩ := R2.own i _ e2
            rw [h1] at k1; cases k1
            obtain ⟨R3, S3⟩ := R2.mut e2 h1 (k5.append (.cons p2 .nil))
            exact ⟨p, vs, v, rfl, rfl, k4, by rw [k5.length]; exact hz, q F2 _ σ (S2.trans S3 R R3) R3⟩
          · exact q.elim
        · exact q.elim
    · cases hown
  · exact h.elim
theorem ss_store {i : Nat} {x : Str} {k : Expr} {p1 : Pos} (hu : X.A.units + 65 < cLine) (hkk : K.K = X.K) (hkw : K.w = X.w) (hN : X.N[i]? = some x) (hv : Vis X.env.scope x) (hd : (x == ("__debug__" : Str)) = false) (hcd : (x == ("__classdict__" : Str)) = false) (hs : swapsWithSole [.Subscript (.Name x p1) k p2] e pos.line X.env = pure false) (hw : swappedStores [.Subscript (.Name x p1) k p2] e X.env = pure none)
    (ha : ∀ v, assign (.Subscript (.Name x p1) k p2) X.env v = (do
      let ov ← holding [v] (eval (.Name x p1) X.env)
      let iv ← holding [v, ov] (eval k X.env)
      standAt p2
      holding [v, ov, iv] (setItem ov iv v)
      release [v, ov, iv] [])) (hf : SE X K T W e fe) (hk : SE X K T W k fk) : SS X K T W (.Assign [.Subscript (.Name x p1) k p2] e pos) (exStore i fe fk) := by
  intro F H σ s D R h
  refine wpS_of (ps_asg (pe_self X e) (pg_sub (pe_var (pos := p1) hN hv hd hcd) (pe_self X k) (PSet.or set_list (set_dict (K := K) hu hkk hkw)) ha) hs hw) (wp_mono (exE_core hf R h) fun v H1 ⟨F1, s1, x, R1, S1, r1, q⟩ => ?_)
  cases q2 : use s1 x with
  | no => rw [q2] at q; exact q.elim
  | er y g => rw [q2] at q; exact q.elim
  | ok d s2 =>
    rw [q2] at q
    simp only [] at q
    obtain ⟨F2, R2, S2, p2⟩ := r1.used S1 R R1 q2
    split at q
    · rename_i hown
      unfold isOwnC at hown
      split at hown
      · rename_i ds0 e0
        obtain ⟨p, h1, n, nf, h2⟩ := R2.own i _ e0
        refine ⟨.ref p, h1, ?_⟩
        refine wp_mono (exE_core hk R2 (PstS.step S2 R q)) fun w H3 ⟨F3, s3, y, R3, S3, r3, q⟩ => ?_
        cases q6 : use s3 y with
        | no => rw [q6] at q; exact q.elim
        | er y' g' => rw [q6] at q; exact q.elim
        | ok kd s4 =>
          rw [q6] at q
          obtain ⟨F4, R4, S4, p4⟩ := r3.used S3 R2 R3 q6
          simp only [] at q
          split at q
          · rename_i c e4
            split at q
            · rename_i c' hc
              rcases stO_inv hc with ⟨ds, kk, j, rfl, rfl, q5, rfl⟩ | ⟨kvs, rfl, hs1, hs2, rfl⟩
              · obtain ⟨p', k1, k2, k3, vs, k4, k5⟩ := R4.own i _ e4
                rw [h1] at k1; cases k1
                cases p4
                obtain ⟨R5, S5⟩ := R4.mut e4 h1 (k5.set j (p2.mono S4.le))
                exact .inl ⟨p, vs, kk, j, rfl, rfl, k4, by rw [k5.length]; exact q5, q F4 _ σ (S4.trans S5 R2 R5) R5⟩
              · obtain ⟨p', k1, k2, k3, es, ep, k4, k5, k6⟩ := R4.own i _ e4
                rw [h1] at k1; cases k1
                refine .inr ⟨F4, p, es, ep, kvs, kd, d, R4.sub, k2, rfl, k4, k5, k6, p4, p2.mono S4.le, hs1, hs2, fun es' ep' rk => ?_⟩
                obtain ⟨R5, S5⟩ := R4.mutO e4 h1 (d' := .dct (putK kvs kd d)) (ob := rawD p es' ep') ⟨es', ep', upd_same, rk, dOk_put k6 hs1⟩
                exact q F4 _ σ (S4.trans S5 R2 R5) R5
            · exact q.elim
          · exact q.elim
      · cases hown
    · exact q.elim
theorem ps_augL {o i value : Expr} {to ti tv : TE} {op : Operator} {tp : TIp} {tpos : Pos} (ho : PE X o to) (hi : PE X i ti) (hv : PE X value tv) (hop : PIp X op tp) (hst : ∀ ov iv new, augStore i ov iv new = (do holding [new, ov, iv] (setItem ov iv new); release [new, ov, iv] []; pure .next)) :
    PS X (.AugAssign (.Subscript o i tpos) op value pos) (fun D σ H => to σ H fun ov H1 => ti σ H1 fun iv H2 => ∃ p xs k old, ov = .ref p ∧ iv = .int k ∧ 0 ≤ k ∧ SqL X.K H2 p xs ∧ atI xs k = some old ∧ tv σ H2 fun v H3 => tp old v H3 fun new H4 => rSetL (.ref p) (.int k) new H4 fun H5 => D.nx σ H5) := by
  refine ⟨fun pins s σ H D I h => ?_⟩
  refine wpAny_AugAssign_SubscriptAny (thn (ho.run pins s σ H _ I h) fun ov s1 ⟨x, H1, I1, r1, q1⟩ => thn (hi.run pins s1 σ H1 _ I1 q1) fun iv s2 ⟨y, H2, I2, r2, q2⟩ => ?_) hst
  obtain ⟨p, xs, k, old, rfl, rfl, k0, hq, ha, q⟩ := q2
  have r1' := r1
  have r2' := r2
  cases r1
  obtain ⟨t, rfl⟩ := r2
  obtain ⟨its, r, pl, hz⟩ := I2.list hq
  obtain ⟨j, h1, h2, h3, h4, h5⟩ := atI_get ha
  obtain ⟨w, ew, rw'⟩ := r.get h2
  have hl := r.length
  have hn := line63
  have hj : k.toNat = j := by
    rw [seqIndex_of k0 h5] at h1
    exact Option.some.inj h1
  refine wpAny_getItem_list pl.isList k0 (by omega) (by rw [hj]; simpa using ew) ?_
  exact thn (hv.run pins s2 σ H2 _ I2 q) fun v s3 ⟨vv, H3, I3, r3, q3⟩ => thn (hop pins s3 σ H3 old vv w v _ I3 rw' r3 q3) fun nw s4 ⟨nv, H4, I4, r4, q4⟩ => thn (set_list pins s4 σ H4 _ _ _ _ _ _ _ I4 r1' r2' r4 q4) fun _ s5 ⟨H5, I5, q5⟩ => ⟨σ, H5, I5, q5⟩
theorem ss_augS {i : Nat} {x : Str} {k : Expr} {p1 tpos : Pos} (hkk : K.K = X.K) (hN : X.N[i]? = some x) (hv : Vis X.env.scope x) (hd : (x == ("__debug__" : Str)) = false) (hcd : (x == ("__classdict__" : Str)) = false)
    (hst : ∀ ov iv new, augStore k ov iv new = (do holding [new, ov, iv] (setItem ov iv new); release [new, ov, iv] []; pure .next)) (hk : SE X K T W k fk) (hf : SE X K T W e fe) : SS X K T W (.AugAssign (.Subscript (.Name x p1) k tpos) .Add e pos) (exAugS i fk fe) := by
  intro F H σ s D R h
  refine wpS_of (ps_augL (pe_var (pos := p1) hN hv hd hcd) (pe_self X k) (pe_self X e) ip_add hst) ?_
  unfold exAugS at h
  split at h
  · rename_i hown
    unfold isOwnL at hown
    split at hown
    · rename_i ds0 e0
      obtain ⟨p, h1, n, nf, vs0, h2, h3⟩ := R.own i _ e0
      refine ⟨.ref p, h1, ?_⟩
      refine wp_mono (exE_core hk R h) fun v H1 ⟨F1, s1, y, R1, S1, r1, q⟩ => ?_
      split at q
      · rename_i kk qk
        cases (r1.rh R1 qk).int
        split at q
        · rename_i ds e1
          obtain ⟨p', k1, k2, k3, vs, k4, k5⟩ := R1.own i _ e1
          rw [h1] at k1; cases k1
          split at q
          · rename_i av ha
            split at q
            · rename_i k0
              obtain ⟨j, j1, j2, j3, j4, j5⟩ := atI_get ha
              obtain ⟨w, ew, rw'⟩ := k5.get j2
              cases rw'
              refine ⟨p, vs, kk, .int av, rfl, rfl, k0, .inl (.inl k4), ?_, ?_⟩
              · rw [← Int.toNat_of_nonneg k0]
                have hj : kk.toNat = j := by
                  rw [seqIndex_of k0 j5] at j1
                  exact Option.some.inj j1
                exact atI_nat (by rw [hj]; exact ew)
              · refine wp_mono (exE_core hf R1 (PstS.step S1 R q)) fun v H3 ⟨F3, s3, z, R3, S3, r3, q⟩ => ?_
                split at q
                · rename_i bv qb
                  cases (r3.rh R3 qb).int
                  split at q
                  · rename_i ds' e4
                    obtain ⟨p', k1, k2, k3, vs', k4', k5'⟩ := R3.own i _ e4
                    rw [h1] at k1; cases k1
                    split at q
                    · rename_i jj hj
                      obtain ⟨R5, S5⟩ := R3.mut e4 h1 (k5'.set jj (Rep.int (av + bv)))
                      exact ⟨av, bv, rfl, rfl, p, vs', kk, jj, rfl, rfl, k4', by rw [k5'.length]; exact hj, q F3 _ σ (S3.trans S5 R1 R5) R5⟩
                    · exact q.elim
                  · exact q.elim
                · exact q.elim
            · exact q.elim
          · exact q.elim
        · exact q.elim
      · exact q.elim
    · cases hown
  · exact h.elim
theorem ss_aug {op : Operator} {o : Int → Int → Int} {i : Nat} {x : Str} {p1 : Pos} (hNd : X.N.Nodup) (hN : X.N[i]? = some x) (hx : Loc X.env.scope x) (hfn : X.fn x = true ∨ X.env.scope.names.lookup x = some .local) (ho : PIp X op (ipI o)) (hf : SE X K T W e fe) : SS X K T W (.AugAssign (.Name x p1) op e pos) (exAug o i fe) := by
  intro F H σ s D R h
  unfold exAug at h
  split at h
  · rename_i av hl
    have hv : σ[i]? = some (some (.int av)) := by
      unfold look at hl
      split at hl
      · rename_i bb d e0
        cases hl
        cases bb with
        | false =>
          obtain ⟨v, h1, h2⟩ := R.val i _ e0
          cases h2
          exact h1
        | true =>
          obtain ⟨p, _, _, _, h⟩ := R.own i _ e0
          exact h.elim
      · cases hl
    refine wpS_of (ps_aug hNd hN hx (pe_self X e) ho hfn) ⟨_, hv, wp_mono (exE_core hf R h) fun v H1 ⟨F1, s1, x, R1, S1, r1, q⟩ => ?_⟩
    split at q
    · rename_i bv q2
      cases (r1.rh R1 q2).int
      split at q
      · rename_i hi
        obtain ⟨R2, S2⟩ := R1.setV hi (Rep.int (o av bv))
        exact ⟨av, bv, rfl, rfl, q F1 H1 _ (S1.trans S2 R R2) R2⟩
      · exact q.elim
    · exact q.elim
  · exact h.elim
theorem Reps.len2 {vs : List V} {ds : List D} (r : Reps K F vs ds) : ds.length = vs.length := r.length.symm
/-- the state at a def's entry -/
theorem Rl.start {N : List Str} {vs : List V} {ds : List D} {g0 : G} (hle : Le F H) (r : Reps K F vs ds) (hg : T.gr g0 H) (hf : ∀ a, T.fp a → F a = none) :
    Rl K T F H ⟨ds.map (fun d => some (false, d)) ++ List.replicate (N.length - ds.length) none, g0⟩ (L2.start N vs) := by
  have gets : ∀ (i : Nat) y, (ds.map (fun d => some (false, d)) ++ List.replicate (N.length - ds.length) none : List (Option (Bool × D)))[i]? = some (some y) → ∃ d, ds[i]? = some d ∧ y = (false, d) := fun i y h => by
    by_cases hi : i < ds.length
    · rw [List.getElem?_append_left (by simpa using hi), List.getElem?_map, List.getElem?_eq_getElem hi] at h
      cases h
      exact ⟨_, List.getElem?_eq_getElem hi, rfl⟩
    · rw [List.getElem?_append_right (by simpa using hi)] at h
      rw [List.getElem?_replicate] at h
      split at h <;> cases h
  refine ⟨hle, ?_, fun i d h => ?_, fun i d h => ?_, fun i j d e p h1 => ?_, hg, hf⟩
  · show (ds.map _ ++ _).length = (vs.map some ++ List.replicate (N.length - vs.length) none).length
    simp [r.length]
  · obtain ⟨d', h1, h2⟩ := gets i _ h
    cases h2
    obtain ⟨v, h3, h4⟩ := r.get h1
    refine ⟨v, ?_, h4⟩
    show (vs.map some ++ _)[i]? = _
    have hi := lt_of_get h3
    rw [List.getElem?_append_left (by simpa using hi), List.getElem?_map, h3]; rfl
  · obtain ⟨d', _, h2⟩ := gets i _ h
    cases h2
  · obtain ⟨d', _, h2⟩ := gets i _ h1
    cases h2
theorem start_noown {N : List Str} {vs : List V} {ds : List D} {g0 : G} {a : Addr} : ¬ Ownd (⟨ds.map (fun d => some (false, d)) ++ List.replicate (N.length - ds.length) none, g0⟩ : Sg G) (L2.start N vs) a := fun ⟨i, d, h, _⟩ => by
  have h : (ds.map (fun d => some (false, d)) ++ List.replicate (N.length - ds.length) none : List (Option (Bool × D)))[i]? = some (some (true, d)) := h
  by_cases hi : i < ds.length
  · rw [List.getElem?_append_left (by simpa using hi), List.getElem?_map, List.getElem?_eq_getElem hi] at h
    cases h
  · rw [List.getElem?_append_right (by simpa using hi)] at h
    rw [List.getElem?_replicate] at h
    split at h <;> cases h
end
/-- a def of the text does what its code says -/
theorem fn_okD {G : Type} {P : Program} {w : World} {K : Env1} {T : Gt G} {mg : Str → Option Value} {base : Heap} {x qual : Str} {params : Arguments} {body : List Stmt} {scope : Scope} {f : Addr} {fd : FuncData} {N ps : List Str} {k : Nat} {code : Sg G → Ro G}
    (Fn : FunD K.K x qual params body scope [] [] f fd) (S : FnScope N ps scope)
    (hb : ∀ (cdv : Value) (A : Around) (outer : List Env) (s : Shared) (H : Hp) (E : XK), Room k (A.deeper (envOfC qual scope s.heap.objs.size f cdv)) →
      SB (cxOf (L2.CX P w) P w K.K mg base N qual scope f cdv A outer s H E) K T (fun cls dd _ H => E cls dd H) body code) :
    FnOk P w K.K mg base (L2.CX P w) (k + 1) f fd ps (spD K T ps.length (runF N.length code)) := by
  refine Fn.ok S (fun vs H Q E h => ?_) (fun cdv A outer s H vs Q E hr h => ⟨_, pss_self _ _, ?_⟩)
  · obtain ⟨F, ds, g, h1, _⟩ := h
    exact h1
  · obtain ⟨F, ds, g, h1, h2, h3, h4, h5, h6⟩ := h
    refine hb cdv A outer s H E hr F H _ _ _ (Rl.start (N := N) h2 h3 h4 h5) ?_
    unfold runF at h6
    have fst : ∀ {F' H' : Hp} {g' : G}, Xst T F H (⟨ds.map (fun d => some (false, d)) ++ List.replicate (N.length - ds.length) none, g⟩ : Sg G) (L2.start N vs) F' H' g' → Fst T F H F' H' g' := fun {F' H' g'} q =>
      ⟨q.le, q.sub, fun a o e nf => q.keep a o e start_noown nf, fun a n => (q.new a n).elim .inl fun z => .inr (z.elim id fun z => (start_noown z).elim), q.gs, q.gf⟩
    cases q : code ⟨ds.map (fun d => some (false, d)) ++ List.replicate (N.length - ds.length) none, g⟩ with
    | nx s' =>
      rw [q] at h6
      intro F' H' σ' S' R'
      exact h6 .non F' H' (fst (S'.xst R')) .non
    | rt d g' =>
      rw [q] at h6
      intro v F' H' xs r
      exact h6 v F' H' (fst xs) r
    | er x g' =>
      rw [q] at h6
      intro cls dd F' H' σ' xs r
      exact h6 cls dd F' H' (fst xs) r
    | bk s' => rw [q] at h6; exact h6.elim
    | ct s' => rw [q] at h6; exact h6.elim
    | no => rw [q] at h6; exact h6.elim
/-- the context of a def's body -/
theorem ctx_fn {P : Program} {w : World} {K : Env1} {mg : Str → Option Value} {base : Heap} {qual : Str} {scope : Scope} {f : Addr} {N ps : List Str} {k : Nat} {cdv : Value} {A : Around} {outer : List Env} {s : Shared} {H : Hp} {E : XK} (hw : K.w = w) (S : FnScope N ps scope) (hr : Room k (A.deeper (envOfC qual scope s.heap.objs.size f cdv))) :
    Ctx (cxOf (L2.CX P w) P w K.K mg base N qual scope f cdv A outer s H E) K (fun cls dd _ H => E cls dd H) k where
  kk := rfl
  kw := hw
  calm := rfl
  nd := S.nd
  room := hr
  pass := passes_call (takes_of rfl rfl rfl rfl) (fun cls d σ H h => h σ)
  own := passes_of rfl
  take := takes_of rfl rfl rfl rfl
/-- the context of a comprehension's block -/
theorem Ctx.blk {X : Cx} {K : Env1} {W : WX1} {k : Nat} (C : Ctx X K W k) (s : Shared) (H : Hp) (scope : Scope) (cenv : Env) (fp : List Addr) : Ctx (X.blk s H scope cenv fp) K W0 k where
  kk := C.kk
  kw := C.kw
  calm := C.calm
  nd := C.nd
  room := C.room
  pass := fun _ _ _ _ _ _ _ h => by
    obtain ⟨_, _, _, _, _, _, _, _, _, _, _, _, z⟩ := h
    exact (z []).elim
  own := PassesOwn.never
  take := takes0
end BF
set_option Elab.async false
set_option linter.all false
set_option autoImplicit false
set_option maxRecDepth 100000
set_option maxHeartbeats 2000000
namespace BF
open PySem PySem.Spec PyProof.Rows L2
/-! ### x = [{}]; for t in it: x[0][k] = e -/
def tgSl : Tg → List Nat
  | .nm i => [i]
  | .tp ix => ix
theorem tgIn_sl (t : Tg) : tgIn t (tgSl t) := by
  cases t with
  | nm i => exact List.mem_singleton.mpr rfl
  | tp ix => exact fun i h => h
section
variable {G : Type}
def nstL (t : Tg) (fk fe : Sg G → Rs G Ov) : List D → List (D × D) → Sg G → Option (List (D × D) × Sg G)
  | [], kvs, s => some (kvs, s)
  | d :: ds, kvs, s => match asgT t d s with
    | none => none
    | some s1 => (match fe s1 with
      | .ok x s2 => (match use s2 x with
        | .ok v s3 => (match fk s3 with
          | .ok y s4 => (match use s4 y with
            | .ok k s5 => if sortB (kvs.map (·.1)) k = true ∧ kvs.length < sizeLine then nstL t fk fe ds (putK kvs k v) s5 else none
            | _ => none)
          | _ => none)
        | _ => none)
      | _ => none)
def exNst (i : Nat) (t : Tg) (fi : Sg G → Rs G (List D)) (fk fe : Sg G → Rs G Ov) (s : Sg G) : Ro G := if i < s.sl.length ∧ (tgSl t).contains i = false then (match fi (hidS s i) with
  | .ok ds s1 => (match nstL t fk fe ds [] s1 with
    | some (kvs, s2) => (match s2.sl[i]? with
      | some none => .nx (setS s2 i (some (true, .lst [.dct kvs])))
      | _ => .no)
    | none => .no)
  | _ => .no) else .no
end
section
variable {G : Type} {X : Cx} {K : Env1} {T : Gt G} {W : WX1} {tg a b c e elt iter : Expr} {es ifs : List Expr} {st : Stmt} {sts sts2 : List Stmt} {fa fb fc ft fe fk : Sg G → Rs G Ov} {f g : Sg G → Ro G} {fl : Sg G → Rs G (List Ov)} {fi : Sg G → Rs G (List D)} {pos p2 p3 : Pos} {F H F0 H0 F1 H1 : Hp} {s s0 s1 : Sg G} {σ σ0 σ1 : Sl} {t : Tg}
/-- a hidden slot's value does not matter -/
theorem Rl.hidSet (R : Rl K T F H s σ) (i : Nat) (v : Option V) : Rl K T F H (hidS s i) (σ.set i v) := by
  have R := R.hid i
  have ne : ∀ {j : Nat} {y : Bool × D}, (hidS s i).sl[j]? = some (some y) → (σ.set i v)[j]? = σ[j]? := fun {j y} h => by
    rw [List.getElem?_set_ne (fun z => (hid_get h).1 z.symm)]
  refine ⟨R.sub, by rw [List.length_set]; exact R.len, fun j d h => ?_, fun j d h => ?_, fun j k d e p h1 h2 h3 h4 => ?_, R.gs, R.gf⟩
  · rw [ne h]; exact R.val j d h
  · rw [ne h]; exact R.own j d h
  · rw [ne h1] at h3
    rw [ne h2] at h4
    exact R.inj j k d e p h1 h2 h3 h4
theorem hidSet_ownd {i : Nat} {v : Option V} {a : Addr} (h : Ownd (hidS s i) (σ.set i v) a) : Ownd s σ a := by
  obtain ⟨j, d, h1, h2⟩ := h
  obtain ⟨h3, h4⟩ := hid_get h1
  rw [List.getElem?_set_ne (fun z => h3 z.symm)] at h2
  exact ⟨j, d, h4, h2⟩
/-- the end: the hidden slot has its list -/
theorem Rl.unhid {i : Nat} {d : D} {q : Addr} {F' H' : Hp} {s2 : Sg G} {σ2 : Sl} {v : Option V} (R2 : Rl K T F' H' s2 σ2) (S : Stp T F H (hidS s i) (σ.set i v) F' H' s2 σ2) (hi : s2.sl[i]? = some none) (hq : σ2[i]? = some (some (.ref q))) (n : F' q = none) (nf : ¬ T.fp q) (no : ¬ Ownd s2 σ2 q) (hn : H q = none) (sh : Shl K F' H' q d) :
    Rl K T F' H' (setS s2 i (some (true, d))) σ2 ∧ Stp T F H s σ F' H' (setS s2 i (some (true, d))) σ2 := by
  have il : i < s2.sl.length := (List.getElem?_eq_some_iff.mp hi).1
  have gt : ∀ j, (setS s2 i (some (true, d))).sl[j]? = if j = i then some (some (true, d)) else s2.sl[j]? := fun j => setS_get s2 i j _ il
  have ow : ∀ a, Ownd (setS s2 i (some (true, d))) σ2 a → a = q ∨ Ownd s2 σ2 a := fun a ⟨j, d', h1, h2⟩ => by
    rw [gt] at h1
    by_cases m : j = i
    · subst m; rw [hq] at h2; cases h2; exact .inl rfl
    · rw [if_neg m] at h1; exact .inr ⟨j, d', h1, h2⟩
  refine ⟨⟨R2.sub, ?_, fun j e hj => ?_, fun j e hj => ?_, fun j k e1 e2 p h1 h2 h3 h4 => ?_, R2.gs, R2.gf⟩, ⟨S.le, fun a o e n nf => S.keep a o e (fun z => n (hidSet_ownd z)) nf, fun a n => (S.new a n).elim .inl fun z => z.elim (fun z => .inr (.inl z)) fun z => .inr (.inr (hidSet_ownd z)), fun a z => ?_, fun j y hj => ?_, S.grow⟩⟩
  · show (s2.sl.set i _).length = _
    rw [List.length_set]; exact R2.len
  · rw [gt] at hj
    by_cases m : j = i
    · rw [if_pos m] at hj; cases hj
    · rw [if_neg m] at hj; exact R2.val j e hj
  · rw [gt] at hj
    by_cases m : j = i
    · rw [if_pos m] at hj; cases hj
      subst m
      exact ⟨q, hq, n, nf, sh⟩
    · rw [if_neg m] at hj; exact R2.own j e hj
  · rw [gt] at h1 h2
    by_cases m1 : j = i
    · by_cases m2 : k = i
      · rw [m1, m2]
      · rw [if_neg m2] at h2
        subst m1; rw [hq] at h3; cases h3
        exact (no ⟨k, e2, h2, h4⟩).elim
    · by_cases m2 : k = i
      · rw [if_neg m1] at h1
        subst m2; rw [hq] at h4; cases h4
        exact (no ⟨j, e1, h1, h3⟩).elim
      · rw [if_neg m1] at h1
        rw [if_neg m2] at h2
        exact R2.inj j k e1 e2 p h1 h2 h3 h4
  · rcases ow a z with z | z
    · subst z; exact .inr hn
    · rcases S.own a z with z | z
      · exact .inl (hidSet_ownd z)
      · exact .inr z
  · rw [gt]
    by_cases m : j = i
    · rw [if_pos m]; exact ⟨_, rfl⟩
    · rw [if_neg m]
      refine S.kp j y ?_
      show (s.sl.set i none)[j]? = _
      rw [List.getElem?_set_ne (fun z => m z.symm)]; exact hj
theorem Stp.frzN {p : Addr} {F' H' : Hp} {s' : Sg G} {σ' : Sl} (S : Stp T F H s σ F' H' s' σ') (n : F' p = Option.none) (hn : H p = Option.none) : Stp T F H s σ (put F' H' p) H' s' σ' := by
  refine ⟨S.le.trans (put_le n), S.keep, fun a h => ?_, S.own, S.kp, S.grow⟩
  by_cases c : a = p
  · subst c; exact .inr (.inl hn)
  · refine S.new a fun z => h ?_
    rw [put_ne c]; exact z
theorem keep_obj {a : Addr} {o : HO} {F' H' : Hp} {s' : Sg G} {σ' : Sl} (S : Stp T F H s σ F' H' s' σ') (h : H a = some o) (n : F a = none) (nf : ¬ T.fp a) (no : ¬ Ownd s σ a) : H' a = some o ∧ F' a = none ∧ ¬ Ownd s' σ' a := by
  have nn : H a ≠ none := by rw [h]; exact fun z => nomatch z
  refine ⟨S.keep a o h no nf, ?_, fun z => ?_⟩
  · apply Classical.byContradiction
    intro z
    rcases S.new a z with z | z | z
    · exact z n
    · exact nn z
    · exact no z
  · rcases S.own a z with z | z
    · exact no z
    · exact nn z
def nstE (i : Nat) (g : Sg G → Ro G) : Option (List (D × D) × Sg G) → Ro G
  | some (kvs, s2) => (match s2.sl[i]? with
    | some none => g (setS s2 i (some (true, .lst [.dct kvs])))
    | _ => .no)
  | none => .no
theorem sb_nst {i : Nat} {x : Str} {k : Expr} {kz : Nat} {p1 pd pl pa p4 pz p5 p6 p7 pf : Pos} (hu : X.A.units + 65 < cLine) (hkk : K.K = X.K) (hkw : K.w = X.w) (hNd : X.N.Nodup) (hN : X.N[i]? = some x) (hx : Loc X.env.scope x) (hfn : X.fn x = true ∨ X.env.scope.names.lookup x = some .local) (hv : Vis X.env.scope x) (hd : (x == ("__debug__" : Str)) = false) (hcd : (x == ("__classdict__" : Str)) = false)
    (hp : PassesOwn (model X.prog X.w) X.A X.env X.xe) (hc : X.calm = true) (hI : SI X K T W tg iter fi) (hg : PG X tg (gOf X.K t)) (hns : notSet iter = true)
    (hs1 : swapsWith (.List [.Dict [] [] pd] pl) (some (.Name x p1)) pa.line X.env = pure false)
    (hs2 : swapsWithSole [.Subscript (.Subscript (.Name x p4) (.Constant (.int 0) kz pz) p5) k p6] e p7.line X.env = pure false) (hw2 : swappedStores [.Subscript (.Subscript (.Name x p4) (.Constant (.int 0) kz pz) p5) k p6] e X.env = pure none)
    (ha : ∀ v, assign (.Subscript (.Subscript (.Name x p4) (.Constant (.int 0) kz pz) p5) k p6) X.env v = (do
      let ov ← holding [v] (eval (.Subscript (.Name x p4) (.Constant (.int 0) kz pz) p5) X.env)
      let iv ← holding [v, ov] (eval k X.env)
      standAt p6
      holding [v, ov, iv] (setItem ov iv v)
      release [v, ov, iv] []))
    (hk : SE X K T W k fk) (he : SE X K T W e fe) (hr : SB X K T W sts g) :
    SB X K T W (.Assign [.Name x p1] (.List [.Dict [] [] pd] pl) pa :: .For tg iter [.Assign [.Subscript (.Subscript (.Name x p4) (.Constant (.int 0) kz pz) p5) k p6] e p7] [] pf :: sts) (exSeq (exNst i t fi fk fe) g) := by
  intro F H σ s D R h
  have P1 := ps_set (pos := pa) (pos' := p1) hNd hN hx (pe_lst (pos := pl) (pa_cons (pe_dnewR (X := X) (pos := pd)) pa_nil rfl)) hs1 hfn
  have Pb := pss_cons (ps_asg (pos := p7) (pe_self X e) (pg_sub (pe_ix (pos := p5) ix_list (pe_var (pos := p4) hN hv hd hcd) (pe_int (j := kz) (pos := pz)) (fun _ _ => rfl)) (pe_self X k) (set_dict (K := K) hu hkk hkw) ha) hs2 hw2) pss_nil
  have P2 := ps_for (pos := pf) hp hc (pi_self X tg iter) hg Pb (folded_of hns X.env)
  refine wpB_of (pss_cons P1 (pss_cons P2 (pss_self X sts))) ?_
  have h : ∃ ds s1, (i < s.sl.length ∧ (tgSl t).contains i = false) ∧ fi (hidS s i) = .ok ds s1 ∧ PstS K T W F H s σ (nstE i g (nstL t fk fe ds [] s1)) D := by
    unfold exSeq exNst at h
    by_cases c : i < s.sl.length ∧ (tgSl t).contains i = false
    · rw [if_pos c] at h
      cases q : fi (hidS s i) with
      | no => rw [q] at h; exact h.elim
      | er x g => rw [q] at h; exact h.elim
      | ok ds s1 =>
        rw [q] at h
        refine ⟨ds, s1, c, rfl, ?_⟩
        simp only [] at h
        cases q2 : nstL t fk fe ds [] s1 with
        | none => rw [q2] at h; exact h
        | some r =>
          obtain ⟨kvs, s2⟩ := r
          rw [q2] at h
          simp only [] at h
          unfold nstE
          simp only []
          cases q3 : s2.sl[i]? with
          | none => rw [q3] at h; exact h
          | some z =>
            cases z with
            | none => rw [q3] at h; exact h
            | some z => rw [q3] at h; exact h
    · rw [if_neg c] at h; exact h.elim
  obtain ⟨ds, s1, ⟨hil, hti⟩, qf, h⟩ := h
  have hni : i ∉ tgSl t := fun z => by
    have := List.contains_iff_mem.mpr z
    rw [hti] at this; cases this
  intro p hp0
  have sz1 : 1 ≤ sizeLine := by decide +kernel
  refine ⟨sz1, fun q hq => ?_⟩
  have Rh := R.hidSet i (some (.ref q))
  obtain ⟨Ra, Sa⟩ := Rh.new (o := rawD p #[] 0) hp0
  obtain ⟨Rb, Sb⟩ := Ra.new (o := .lst [.ref p]) hq
  obtain ⟨fp1, fp2, fp3⟩ := Rh.free hp0
  obtain ⟨fq1, fq2, fq3⟩ := Ra.free hq
  have hqp : q ≠ p := fun z => by rw [z, upd_same] at hq; cases hq
  have hq0 : H q = none := by rw [upd_ne hqp] at hq; exact hq
  have S0 := Sa.trans Sb Rh Rb
  refine hI F _ _ (hidS s i) _ Rb ?_
  rw [qf]
  intro J F1 H1 S1 R1 hJ
  have S01 := S0.trans S1 Rh R1
  obtain ⟨a1, a2, a3⟩ := keep_obj S1 (a := q) upd_same fq1 fq2 fq3
  obtain ⟨c1, c2, c3⟩ := keep_obj S1 (a := p) (o := rawD p #[] 0) (by rw [upd_ne hqp.symm]; exact upd_same) fp1 fp2 fp3
  refine for_it hJ (fun n σi Hi => ∃ Fi si kvs es ep, Rl K T Fi Hi si σi ∧ Stp T F H (hidS s i) (σ.set i (some (.ref q))) Fi Hi si σi ∧ Le F1 Fi ∧ σi[i]? = some (some (.ref q)) ∧ Hi q = some (.lst [.ref p]) ∧ Fi q = none ∧ ¬ Ownd si σi q ∧ Hi p = some (rawD p es ep) ∧ Fi p = none ∧ ¬ Ownd si σi p ∧ RepK K Fi es.toList kvs ∧ dOk (kvs.map (·.1)) = true ∧ PstS K T W F H s σ (nstE i g (nstL t fk fe (ds.drop n) kvs si)) D)
    ⟨F1, s1, [], #[], 0, R1, S01, Le.refl _, List.getElem?_set_self (by rw [← R.len]; exact hil), a1, a2, a3, c1, c2, c3, .nil, rfl, by rw [List.drop_zero]; exact h⟩ (fun n σi Hi _ ⟨Fi, si, kvs, es, ep, Ri, Si, l, _⟩ => l.trans Ri.sub) (fun n xv σi Hi H' hlt pv y => ?_) (fun σi Hi pv => ?_)
  · obtain ⟨Fi, si, kvs, es, ep, Ri, Si, l, hσ, q1, q2, q3, d1, d2, d3, rk, ok, hp⟩ := pv
    have hdn : ds[n]? = some ds[n] := List.getElem?_eq_getElem hlt
    rw [List.drop_eq_getElem_cons hlt] at hp
    have y' : Yd K Fi ds n Hi xv H' := by
      obtain ⟨d, e1, y⟩ := y
      refine ⟨d, e1, ?_⟩
      rcases y with ⟨e2, r⟩ | ⟨p, vs, es, e2, e3, e4, e5, r⟩
      · exact .inl ⟨e2, r.mono l⟩
      · exact .inr ⟨p, vs, es, e2, e3, e4, e5, r.mono l⟩
    unfold nstL at hp
    cases k1 : asgT t ds[n] si with
    | none => rw [k1] at hp; exact hp.elim
    | some s2 =>
      rw [k1] at hp
      simp only [] at hp
      rw [← hkk]
      refine asgT_ok Ri hdn y' k1 fun F2 σ2 R2 S2 l2 hw => ?_
      have hσ2 : σ2[i]? = some (some (.ref q)) := by
        have e := congrArg (fun z : Sl => z[i]?) (hw (tgSl t) (tgIn_sl t))
        simp only [wipe_eq, wipeO_get, if_neg hni] at e
        rw [e]; exact hσ
      show wpE X e σ2 H' fun v H3 => _
      refine he F2 H' σ2 s2 _ R2 ?_
      cases k2 : fe s2 with
      | no => rw [k2] at hp; exact hp.elim
      | er x g => rw [k2] at hp; exact hp.elim
      | ok xe s3 =>
        rw [k2] at hp
        simp only [] at hp
        intro v F3 H3 S3 R3 r3
        cases k3 : use s3 xe with
        | no => rw [k3] at hp; exact hp.elim
        | er x g => rw [k3] at hp; exact hp.elim
        | ok vd s4 =>
          rw [k3] at hp
          simp only [] at hp
          obtain ⟨F4, R4, S4, rv⟩ := r3.used S3 R2 R3 k3
          have S24 := S2.trans S4 Ri R4
          obtain ⟨q1', q2', q3'⟩ := keep_obj S24 q1 q2 fq2 q3
          refine ⟨.ref q, hσ2, q, [.ref p], 0, .ref p, rfl, rfl, .inl (.inl q1'), rfl, ?_⟩
          show wpE X k σ2 H3 fun w H5 => _
          refine hk F4 H3 σ2 s4 _ R4 ?_
          cases k4 : fk s4 with
          | no => rw [k4] at hp; exact hp.elim
          | er x g => rw [k4] at hp; exact hp.elim
          | ok xk s5 =>
            rw [k4] at hp
            simp only [] at hp
            intro w F5 H5 S5 R5 r5
            cases k5 : use s5 xk with
            | no => rw [k5] at hp; exact hp.elim
            | er x g => rw [k5] at hp; exact hp.elim
            | ok kd s6 =>
              rw [k5] at hp
              simp only [] at hp
              obtain ⟨F6, R6, S6, rw'⟩ := r5.used S5 R4 R5 k5
              have S26 := S24.trans S6 Ri R6
              obtain ⟨q1', q2', q3'⟩ := keep_obj S26 q1 q2 fq2 q3
              obtain ⟨d1', d2', d3'⟩ := keep_obj S26 d1 d2 fp2 d3
              by_cases cc : sortB (kvs.map (·.1)) kd = true ∧ kvs.length < sizeLine
              · rw [if_pos cc] at hp
                refine ⟨F6, p, es, ep, kvs, kd, vd, R6.sub, d2', rfl, d1', rk.mono S26.le, ok, rw', rv.mono S6.le, cc.1, cc.2, fun es' ep' rk' => ?_⟩
                exact ⟨F6, s6, putK kvs kd vd, es', ep', R6.updN d2' fp2 d3', (Si.trans S26 Rh R6).updN hp0, l.trans S26.le, hσ2, by rw [upd_ne hqp]; exact q1', q2', q3', upd_same, d2', d3', rk', dOk_put ok cc.1, hp⟩
              · rw [if_neg cc] at hp; exact hp.elim
  · obtain ⟨Fi, si, kvs, es, ep, Ri, Si, l, hσ, q1, q2, q3, d1, d2, d3, rk, ok, hp⟩ := pv
    rw [List.drop_length] at hp
    unfold nstL nstE at hp
    simp only [] at hp
    split at hp
    · rename_i z
      have sh : Shl K Fi Hi p (.dct kvs) := ⟨es, ep, d1, rk, ok⟩
      have Rf := Ri.freeze d2 fp2 d3 sh
      have Sf := Si.frzN (p := p) d2 hp0
      obtain ⟨R', S'⟩ := Rl.unhid Rf Sf z hσ (by rw [put_ne hqp]; exact q2) fq2 q3 hq0 (d := .lst [.dct kvs]) ⟨[.ref p], q1, .cons (sh.rep d2) .nil⟩
      exact hr _ Hi σi _ D R' (PstS.step S' R hp)
    · exact hp.elim
end
end BF
set_option Elab.async false
set_option linter.all false
set_option autoImplicit false
set_option maxRecDepth 100000
set_option maxHeartbeats 2000000
namespace BF
open PySem PySem.Spec PyProof.Rows L2 PySem.SeqAt PySem.W
/-! ### min of a list of data -/
def isNoP : PyData → Bool
  | .none => true
  | _ => false
def alikeB (xs : List PyData) : Bool := (xs.all fun x => xs.all fun y => alike x y) && xs.all fun x => !isNoP x
theorem alikeB_ok {xs : List PyData} (h : alikeB xs = true) : PySem.W.AlikeAll xs := by
  obtain ⟨h1, h2⟩ := Bool.and_eq_true_iff.mp h
  refine ⟨fun x hx y hy => List.all_eq_true.mp (List.all_eq_true.mp h1 x hx) y hy, fun x hx e => ?_⟩
  have := List.all_eq_true.mp h2 x hx
  rw [e] at this
  cases this
def minDD (d : D) (ds : List D) : D := ds.foldl (fun a y => if dataLt (toPy y) (toPy a) then y else a) d
theorem toPy_minDD : ∀ (ds : List D) (d : D), toPy (minDD d ds) = PySem.W.minD (toPy d) (ds.map toPy)
  | [], d => rfl
  | y :: ds, d => by
    show toPy (minDD (if dataLt (toPy y) (toPy d) then y else d) ds) = PySem.W.minD (if dataLt (toPy y) (toPy d) then toPy y else toPy d) (ds.map toPy)
    rw [toPy_minDD ds]
    congr 1
    split <;> rfl
theorem minDD_mem : ∀ (ds : List D) (d : D), minDD d ds ∈ d :: ds
  | [], d => List.mem_cons_self
  | y :: ds, d => by
    have := minDD_mem ds (if dataLt (toPy y) (toPy d) then y else d)
    show minDD (if dataLt (toPy y) (toPy d) then y else d) ds ∈ d :: y :: ds
    rcases List.mem_cons.mp this with h | h
    · rw [h]
      split
      · exact List.mem_cons_of_mem _ List.mem_cons_self
      · exact List.mem_cons_self
    · exact List.mem_cons_of_mem _ (List.mem_cons_of_mem _ h)
theorem toPy_inj : ∀ {n : Nat} {a b : D}, plain n a = true → plain n b = true → toPy a = toPy b → a = b := by
  intro n
  induction n with
  | zero =>
    intro a b ha hb h
    cases a <;> first | (cases ha; done) | skip
    all_goals (cases b <;> first | (cases hb; done) | skip)
    all_goals (simp [toPy] at h)
    all_goals first | rfl | (subst h; rfl)
  | succ n ih =>
    have all : ∀ (xs ys : List D), xs.all (plain n) = true → ys.all (plain n) = true → toPys xs = toPys ys → xs = ys := by
      intro xs
      induction xs with
      | nil => intro ys _ _ h; cases ys with
        | nil => rfl
        | cons y ys => simp [toPys] at h
      | cons x xs ihx =>
        intro ys hx hy h
        cases ys with
        | nil => simp [toPys] at h
        | cons y ys =>
          simp only [toPys, List.cons.injEq] at h
          simp only [List.all_cons, Bool.and_eq_true] at hx hy
          rw [ih hx.1 hy.1 h.1, ihx ys hx.2 hy.2 h.2]
    intro a b ha hb h
    cases a <;> first | (cases ha; done) | skip
    all_goals (cases b <;> first | (cases hb; done) | skip)
    all_goals (simp [toPy] at h)
    all_goals first | rfl | (subst h; rfl) | (rw [all _ _ ha hb h])
def minO2 : D → Option Ov
  | .lst (d :: ds) => if (d :: ds).all (plain 20) = true ∧ alikeB (toPys (d :: ds)) = true then some (.vl (minDD d ds)) else none
  | _ => none
def rMinP (K : PySem.W.Frag) : List V → Hp → VK → Prop := fun vs H Q => ∃ (a : Addr) (xs : List V) (x : PyData) (ds : List PyData), vs = [V.ref a] ∧ SqL K H a xs ∧ DpAll K H xs (x :: ds) ∧ PySem.W.AlikeAll (x :: ds) ∧ PyData.depthAll (x :: ds) ≤ 30 ∧
  ∀ (i : Nat) v, xs[i]? = some v → (x :: ds)[i]? = some (PySem.W.minD x ds) → Q v H
section
variable {X : Cx} {K : Env1}
theorem cr_minP (hc : X.calm = true) (hu : X.A.units + 65 < cLine) : CallR X (.builtin "min") (rMinP X.K) := by
  intro pins s σ H vs us Q I r h
  obtain ⟨a, xs, x, ds, rfl, hs, hd, ha, hp, q⟩ := h
  obtain ⟨its, rv, hl, _⟩ := I.list hs
  rw [Vals.ref1 r]
  obtain ⟨as, ra⟩ := Dp.readsAll I (x :: ds) xs its hd rv
  refine PySem.W.min_list_data (I.ok.hd hc) hl.isList (show ReadsAll s.heap its.toArray.toList (x :: ds) as from ra) ha (by omega) fun i v h' tk bs hv hr hk => ?_
  have hv' : its[i]? = some v := by simpa using hv
  have hi : i < its.length := (List.getElem?_eq_some_iff.mp hv').1
  obtain ⟨cs, r1, r2, _⟩ := PySem.W.readsAll_at ra i v hv'
  obtain ⟨z, hz, rz⟩ : ∃ z, xs[i]? = some z ∧ RelV z v := by
    have hlen := rv.length
    have hx : xs[i]? = some (xs[i]'(by omega)) := List.getElem?_eq_getElem (by omega)
    obtain ⟨w, e1, e2⟩ := rv.get hx
    rw [hv'] at e1; cases e1
    exact ⟨_, hx, e2⟩
  refine ⟨z, H, I.kept hk, rz, q i z hz ?_⟩
  have r1' := reads_keeps hk r1
  have e := (Reads.unique r1' _ _ hr).1
  rw [← e, List.getD_eq_getElem?_getD, List.getElem?_eq_getElem r2]
  rfl
theorem opn_minP : Opn K (one minO2) (rMinP K.K) := opn_one fun F H v d res Q l hd ho hc => by
  cases d <;> first | (cases ho; done) | skip
  rename_i ds
  cases ds with
  | nil => cases ho
  | cons d ds =>
    obtain ⟨a, vs, rfl, h1, r1⟩ := hd.lst l
    simp only [minO2] at ho
    split at ho
    · rename_i c
      cases ho
      have dp := r1.dp l c.1
      have dep : PyData.depthAll (toPys (d :: ds)) ≤ 30 := by
        have := (plain_can (n := 21) (d := .lst (d :: ds)) c.1).2
        simp only [toPy, PyData.depth] at this
        omega
      have et : toPys (d :: ds) = toPy d :: ds.map toPy := by rw [toPys, toPys_eq]
      rw [et] at dp dep
      have al := alikeB_ok c.2
      rw [et] at al
      refine ⟨a, vs, toPy d, ds.map toPy, rfl, .inl (.inl h1), dp, al, dep, fun i v hv hm => ?_⟩
      have hlen := r1.length
      have hi : i < (d :: ds).length := by
        have := (List.getElem?_eq_some_iff.mp hv).1
        omega
      obtain ⟨w, e1, e2⟩ := r1.get (List.getElem?_eq_getElem hi)
      rw [hv] at e1; cases e1
      have e3 : (toPy d :: ds.map toPy)[i]? = some (toPy (d :: ds)[i]) := by
        rw [← List.map_cons, List.getElem?_map, List.getElem?_eq_getElem hi]; rfl
      rw [e3] at hm
      have e4 : toPy (d :: ds)[i] = toPy (minDD d ds) := by rw [toPy_minDD]; exact Option.some.inj hm
      have e5 := toPy_inj (List.all_eq_true.mp c.1 _ (List.getElem_mem hi)) (List.all_eq_true.mp c.1 _ (minDD_mem ds d)) e4
      rw [e5] at e2
      exact hc.1 _ e2
    · cases ho
end
end BF
set_option Elab.async false
set_option linter.all false
set_option autoImplicit false
set_option maxRecDepth 100000
set_option maxHeartbeats 4000000
namespace BF
open PySem PySem.Spec PyProof.Rows L2
/-! ## new instances: one attribute, set last -/
section
variable {G : Type}
/-- behind __init__ of the instance at x -/
structure Fst1 (T : Gt G) (x : Addr) (F H F' H' : Hp) (g' : G) : Prop where
  le : Le F F'
  sub : Le F' H'
  keep : ∀ a o, H a = some o → ¬ T.fp a → a ≠ x → H' a = some o
  new : ∀ a, F' a ≠ none → F a ≠ none ∨ H a = none
  gs : T.gr g' H'
  gf : ∀ a, T.fp a → F' a = none
def spI (K : Env1) (T : Gt G) (c f : Str) (n : Nat) (m : Mir G) : Sp := fun vs H Q E => ∃ (F : Hp) (x dx : Addr) (us : List V) (ds : List D) (g : G), vs = .ref x :: us ∧ us.length = n ∧ Le F H ∧ Reps K F us ds ∧ T.gr g H ∧ (∀ a, T.fp a → F a = none) ∧ H x = some (.ins (K.co c) dx []) ∧ F x = none ∧ ¬ T.fp x ∧ (match m ds g with
  | .ok d g' => ∀ v F' H', Fst1 T x F H F' H' g' → H' x = some (.ins (K.co c) dx [(f, v)]) → F' x = none → Rep K F' v d → Q .non H'
  | .er e g' => ∀ cls dd F' H', Fst1 T x F H F' H' g' → ErR K e cls dd F' H' → E cls dd H'
  | .no => False)
def mkM (c f : Str) (m : Mir G) : Mir G := fun ds g => match m ds g with
  | .ok d g' => .ok (.obj c [(f, d)]) g'
  | .er x g' => .er x g'
  | .no => .no
end
section
variable {G : Type} {X : Cx} {K : Env1} {T : Gt G} {W : WX1} {a b c e : Expr} {es : List Expr} {fa fb fc fe : Sg G → Rs G Ov} {fl : Sg G → Rs G (List Ov)} {pos : Pos} {F H F1 H1 : Hp} {s s1 : Sg G} {σ : Sl}
theorem spI_of {n : Nat} {m : Mir G} {vs : List V} {ds : List D} {Q : VK} {cn f : Str} {x dx : Addr} (hn : vs.length = n) (R : Rl K T F H s σ) (r : Reps K F vs ds) (hx : H x = none) (hdx : H dx = none) (hne : dx ≠ x) (h : PstE K T W F H s σ (match mkM cn f m ds s.g with
    | .ok d g' => .ok (.vl d) { s with g := g' }
    | .er x g' => .er x g'
    | .no => .no) Q) : spI K T cn f n m (.ref x :: vs) (upd (upd H dx (.own x)) x (.ins (K.co cn) dx [])) (fun v H2 => v = .non ∧ Q (.ref x) H2) (fun cls dd H => ∀ σ, W cls dd σ H) := by
  have live : ∀ a, T.fp a → H a ≠ none := fun a h => T.live _ _ _ R.gs h
  have nfx : ¬ T.fp x := fun z => live x z hx
  have nfd : ¬ T.fp dx := fun z => live dx z hdx
  have hs : ∀ a o, H a = some o → upd (upd H dx (.own x)) x (.ins (K.co cn) dx []) a = some o := fun a o e => by
    rw [upd_ne (fun z => by rw [z, hx] at e; cases e), upd_ne (fun z => by rw [z, hdx] at e; cases e), e]
  have hno : ∀ a, upd (upd H dx (.own x)) x (.ins (K.co cn) dx []) a = none → H a = none := fun a e => by
    cases q : H a with
    | none => rfl
    | some o => rw [hs a o q] at e; cases e
  have Fx : F x = none := by
    cases q : F x with
    | none => rfl
    | some o => rw [R.sub x o q] at hx; cases hx
  refine ⟨F, x, dx, vs, ds, s.g, rfl, hn, fun a o e => hs a o (R.sub a o e), r, ?_, R.gf, upd_same, Fx, nfx, ?_⟩
  · refine T.dep _ _ _ R.gs fun a ha => ?_
    rw [upd_ne (fun z : a = x => nfx (z ▸ ha)), upd_ne (fun z : a = dx => nfd (z ▸ ha))]
  unfold mkM at h
  cases q : m ds s.g with
  | no => rw [q] at h; exact h.elim
  | er e g' =>
    rw [q] at h
    intro cls dd F' H' fs er σ'
    refine h cls dd F' H' σ' ⟨fs.le, fs.sub, fun a o e _ nf => fs.keep a o (hs a o e) nf (fun z => by rw [z, hx] at e; cases e), fun a n => ?_, fs.gs, fs.gf⟩ er
    rcases fs.new a n with z | z
    · exact .inl z
    · exact .inr (.inl (hno a z))
  | ok d g' =>
    rw [q] at h
    intro v F' H' fs hx' Fx' rv
    refine ⟨rfl, ?_⟩
    have fst : Fst T F H (upd F' x (.ins (K.co cn) dx [(f, v)])) H' g' := by
      refine ⟨fun a o e => ?_, fun a o e => ?_, fun a o e nf => fs.keep a o (hs a o e) nf (fun z => by rw [z, hx] at e; cases e), fun a n => ?_, fs.gs, fun a ha => ?_⟩
      · rw [upd_ne (fun z => by rw [z, Fx] at e; cases e)]; exact fs.le a o e
      · by_cases z : a = x
        · subst z; rw [upd_same] at e; cases e; exact hx'
        · rw [upd_ne z] at e; exact fs.sub a o e
      · by_cases z : a = x
        · subst z; exact .inr hx
        · rw [upd_ne z] at n
          rcases fs.new a n with z | z
          · exact .inl z
          · exact .inr (hno a z)
      · rw [upd_ne (fun z : a = x => nfx (z ▸ ha))]; exact fs.gf a ha
    obtain ⟨R', S'⟩ := R.after fst
    refine h (.ref x) _ H' S' R' (Rep.obj upd_same rfl (.cons (rv.mono fun a o e => ?_) .nil))
    rw [upd_ne (fun z => by rw [z, Fx'] at e; cases e)]; exact e
theorem se_make {x : Str} {p : Pos} {k k0 n : Nat} {fi : Addr} {fd : FuncData} {ps : List Str} {m : Mir G} {cn f : Str} (C : Ctx X K W k0) (M : Mk X.K (K.co cn) fi) (Fn : FnOk X.prog X.w X.K X.mg X.base (L2.CX X.prog X.w) k fi fd ps (spI K T cn f n m)) (hk0 : k + 1 ≤ k0) (hg : Gl X x) (hm : X.mg x = some (.ref (K.co cn))) (hb : Binds X.K fd ps [])
    (hdb : (x == ("__debug__" : Str)) = false) (hst : (e :: es).all noStar = true) (hn : (e :: es).length = n) (hl : SL X K T W (e :: es) fl) : SE X K T W (.Call (.Name x p) (e :: es) [] pos) (evCall (mkM cn f m) fl) := by
  intro F H σ s Q R h
  have h' := Bool.and_eq_true_iff.mp (show (noStar e && es.all noStar) = true from hst)
  refine wpE_of (pe_make M Fn (C.room.mono hk0) hg hm hb .nil C.pass (pa_self X hst) hdb (starEach_of h'.1) (back_of X pos h'.2)) ?_
  refine wpL_mono (Q := fun _ _ => True) (Q' := fun _ _ => True) (wpL_len (sl_used (P := fun vs H1 Q => vs.length = n → ∀ x dx, H1 x = none → H1 dx = none → dx ≠ x → spI K T cn f n m (.ref x :: vs) (upd (upd H1 dx (.own x)) x (.ins (K.co cn) dx [])) (fun v H2 => v = .non ∧ Q (.ref x) H2) (fun cls dd H => ∀ σ, W cls dd σ H)) hl R (fun F1 H1 s1 vs ds R1 S1 r hq hl x dx hx hdx hne => spI_of hl R1 r hx hdx hne hq) h)) fun vs H1 q => ?_
  rw [List.append_nil]
  exact q.2 (q.1.trans hn)
end
end BF
set_option Elab.async false
set_option linter.all false
set_option autoImplicit false
set_option maxRecDepth 100000
set_option maxHeartbeats 2000000
namespace BF
open PySem PySem.Spec PyProof.Rows L2
/-! ## code -/
inductive Bo where
  | add | sub | mul | fdiv | mod | pow
inductive Co where
  | eq | ne | lt | le | gt | ge | isin | nin | is | isn
inductive Bl where
  | len | int | tuple | list | str | sum | max | min | max2 | min2 | all | any | minD
mutual
inductive Ce where
  | var (i : Nat) | cst (d : D) | glo (k : Nat)
  | bin (o : Bo) (a b : Ce) | cmp (o : Co) (a b : Ce) | chain (o o' : Co) (a b c : Ce)
  | neg (a : Ce) | not (a : Ce) | bop (isAnd : Bool) (es : Ca) | ife (c a b : Ce)
  | tup (es : Ca) | lst (es : Ca)
  | ix (a b : Ce) | slLo (a b : Ce) | slHi (a b : Ce) | slBo (a b c : Ce)
  | blt (o : Bl) (es : Ca) | call (k : Nat) (es : Ca)
  | isi (q : Cl) (a : Ce) | isiT (n1 n2 : String) (a : Ce)
  | attr (c f : Str) (a : Ce)
  | dnew | d1 (a b : Ce) | get (i : Nat) (a b : Ce) | pop (i : Nat) | lzip (a b : Ce)
  | lc0 (elt : Ce) (t : Tg) (it : Ci) (own : List Nat)
  | lc1 (elt : Ce) (t : Tg) (it : Ci) (cond : Ce) (own : List Nat)
  | hl0 (elt : Ce) (t : Tg) (i : Nat) (en : Bool) (own : List Nat)
  | hl1 (elt : Ce) (t : Tg) (i : Nat) (en : Bool) (cond : Ce) (own : List Nat)
inductive Ca where
  | nil | cons (a : Ce) (r : Ca)
inductive Ci where
  | seq (a : Ce) | rg1 (a : Ce) | rg2 (a b : Ce) | enum (a : Ce) | zip (tp : Bool) (a b : Ce)
end
inductive Cs where
  | nil | cons (s r : Cs) | nst (i : Nat) (t : Tg) (it : Ci) (k e : Ce) (r : Cs)
  | pass | brk | ret (e : Ce) | retN | expr (e : Ce)
  | asg (i : Nat) (e : Ce) | par (ix : List Nat) (es : Ca) | unp (t : Tg) (e : Ce)
  | app (i : Nat) (e : Ce) | store (i : Nat) (k e : Ce) | aug (isSub : Bool) (i : Nat) (e : Ce) | augs (i : Nat) (k e : Ce)
  | ife (c : Ce) (a b : Cs) | for_ (t : Tg) (it : Ci) (b : Cs) | whl (n : Nat) (c : Ce) (b : Cs)
  | raise (x : Str) (fs : List Str) (es : Ca) | stuck
/-- what a global is -/
inductive Gd (G : Type) where
  | cst (d : D) | fn (n : Nat) (m : Mir G) | mk (c f : Str) (n : Nat) (m : Mir G)
abbrev Gam (G : Type) := List (Str × Gd G)
def boF : Bo → D → D → Option Ov
  | .add => addO | .sub => subO | .mul => mulO | .fdiv => fdivO | .mod => modO | .pow => powO
def coF : Co → D → D → Option Ov
  | .eq => eqO | .ne => neO | .lt => ltO | .le => leO | .gt => gtO | .ge => geO | .isin => inO2 | .nin => ninO2 | .is => isO | .isn => isnO
def blF : Bl → List D → Option Ov
  | .len => one lenO2 | .int => one intO | .tuple => one tupleO | .list => one listO | .str => one strO | .sum => one sumO | .max => one maxO | .min => one minO | .max2 => two max2O | .min2 => two min2O | .all => one allO | .any => one anyO | .minD => one minO2
section
variable {G : Type}
/-- the class's value, as it is read by its name -/
def clD (K : Env1) : Cl → D
  | .bty n => .ty n
  | .own c => .ref (K.co c)
mutual
def ev (K : Env1) (Γ : Gam G) : Ce → Sg G → Rs G Ov
  | .var i => evVar i
  | .cst d => evC d
  | .glo k => (match Γ[k]? with
    | some (_, .cst d) => evC d
    | _ => fun _ => .no)
  | .bin o a b => evOp (evCons (ev K Γ a) (evCons (ev K Γ b) evNil)) (two (boF o))
  | .cmp o a b => evOp (evCons (ev K Γ a) (evCons (ev K Γ b) evNil)) (two (coF o))
  | .chain o o' a b c => evChain (coF o) (coF o') (evCons (ev K Γ a) (evCons (ev K Γ b) evNil)) (ev K Γ c)
  | .neg a => evOp (evCons (ev K Γ a) evNil) (one negO)
  | .not a => evNot (ev K Γ a)
  | .bop q es => evB K Γ q es
  | .ife c a b => evIf (ev K Γ c) (ev K Γ a) (ev K Γ b)
  | .tup es => evTup (evA K Γ es)
  | .lst es => evLst (evA K Γ es)
  | .ix a b => evOp (evCons (ev K Γ a) (evCons (ev K Γ b) evNil)) (two ixO2)
  | .slLo a b => evOp (evCons (ev K Γ a) (evCons (ev K Γ b) evNil)) (two slLo)
  | .slHi a b => evOp (evCons (ev K Γ a) (evCons (ev K Γ b) evNil)) (two slHi)
  | .slBo a b c => evSlBo (evCons (ev K Γ a) (evCons (ev K Γ b) evNil)) (ev K Γ c)
  | .blt o es => evOp (evA K Γ es) (blF o)
  | .call k es => (match Γ[k]? with
    | some (_, .fn _ m) => evCall m (evA K Γ es)
    | some (_, .mk c f _ m) => evCall (mkM c f m) (evA K Γ es)
    | _ => fun _ => .no)
  | .isi q a => evOp (evCons (ev K Γ a) (evCons (evC (clD K q)) evNil)) (isiO K q)
  | .isiT n1 n2 a => evOp (evCons (ev K Γ a) (evCons (evTup (evCons (evC (.ty n1)) (evCons (evC (.ty n2)) evNil))) evNil)) (isiTO K n1 n2)
  | .attr c f a => evOp (evCons (ev K Γ a) evNil) (one (attrO c f))
  | .dnew => evDnew
  | .d1 a b => evD1 (evCons (ev K Γ a) (evCons (ev K Γ b) evNil))
  | .get i a b => evGet i (evCons (ev K Γ a) (evCons (ev K Γ b) evNil))
  | .pop i => evPop i
  | .lzip a b => evLzip (evCons (ev K Γ a) (evCons (ev K Γ b) evNil))
  | .lc0 elt t it own => evLc (evI K Γ it) t (evC (.bl true)) (ev K Γ elt) own
  | .lc1 elt t it cond own => evLc (evI K Γ it) t (ev K Γ cond) (ev K Γ elt) own
  | .hl0 elt t i en own => evHid i en t (evC (.bl true)) (ev K Γ elt) own
  | .hl1 elt t i en cond own => evHid i en t (ev K Γ cond) (ev K Γ elt) own
def evA (K : Env1) (Γ : Gam G) : Ca → Sg G → Rs G (List Ov)
  | .nil => evNil
  | .cons a r => evCons (ev K Γ a) (evA K Γ r)
def evB (K : Env1) (Γ : Gam G) (q : Bool) : Ca → Sg G → Rs G Ov
  | .nil => fun _ => .no
  | .cons a .nil => ev K Γ a
  | .cons a (.cons b r) => (if q = true then evAnd else evOr) (ev K Γ a) (evB K Γ q (.cons b r))
def evI (K : Env1) (Γ : Gam G) : Ci → Sg G → Rs G (List D)
  | .seq a => evSeq (ev K Γ a)
  | .rg1 a => evRg1 (evCons (ev K Γ a) evNil)
  | .rg2 a b => evRg2 (evCons (ev K Γ a) (evCons (ev K Γ b) evNil))
  | .enum a => evEnum 0 (ev K Γ a)
  | .zip tp a b => evZip tp (evCons (ev K Γ a) (evCons (ev K Γ b) evNil))
end
def ex (K : Env1) (Γ : Gam G) : Cs → Sg G → Ro G
  | .nil => fun s => .nx s
  | .cons s r => exSeq (ex K Γ s) (ex K Γ r)
  | .nst i t it k e r => exSeq (exNst i t (evI K Γ it) (ev K Γ k) (ev K Γ e)) (ex K Γ r)
  | .pass => fun s => .nx s
  | .brk => fun s => .bk s
  | .ret e => exRet (ev K Γ e)
  | .retN => fun s => .rt .non s.g
  | .expr e => exDrop (ev K Γ e)
  | .asg i e => exAsg i (ev K Γ e)
  | .par ix es => exPar ix (evA K Γ es)
  | .unp t e => exUnp t (ev K Γ e)
  | .app i e => exAppend i (ev K Γ e)
  | .store i k e => exStore i (ev K Γ e) (ev K Γ k)
  | .augs i k e => exAugS i (ev K Γ k) (ev K Γ e)
  | .aug q i e => exAug (if q = true then (fun a b => a - b) else fun a b => a + b) i (ev K Γ e)
  | .ife c a b => exIf (ev K Γ c) (ex K Γ a) (ex K Γ b)
  | .for_ t it b => exFor t (evI K Γ it) (ex K Γ b)
  | .whl n c b => whL (ev K Γ c) (ex K Γ b) n
  | .raise x fs es => fun s => (match evA K Γ es s with
    | .ok xs s1 => (match uses s1 xs with
      | .ok ds s2 => .er ⟨x, fs.zip ds⟩ s2.g
      | _ => .no)
    | .er x g => .er x g
    | .no => .no)
  | .stuck => fun _ => .no
end
end BF
set_option Elab.async false
set_option linter.all false
set_option autoImplicit false
set_option maxRecDepth 100000
set_option maxHeartbeats 4000000
namespace BF
open PySem PySem.Spec PyProof.Rows L2
/-! ## the check of code against the text -/
inductive Gk where
  | cst | fn (n : Nat)
def kindG {G : Type} : Gd G → Gk
  | .cst _ => .cst
  | .fn n _ => .fn n
  | .mk _ _ n _ => .fn n
/-- what is fixed in a def: its names, the globals by place, own classes, their fields, built-ins that are not hidden -/
structure Pm where
  N : List Str
  gn : List (Str × Gk)
  cs : List Str
  ats : List (Str × Str)
  bl : List Str
def isVis (sc : Scope) (x : Str) : Bool := match sc.names.lookup x with
  | some .local => true
  | some .cell => true
  | some .free => true
  | _ => false
def isGl (sc : Scope) (x : Str) : Bool := match sc.names.lookup x with
  | some .globalImplicit => true
  | _ => false
theorem vis_of {sc : Scope} {x : Str} (h : isVis sc x = true) : Vis sc x := by
  unfold isVis at h
  split at h
  · rename_i e; exact .inl e
  · rename_i e; exact .inr (.inl e)
  · rename_i e; exact .inr (.inr e)
  · cases h
theorem gl_of {sc : Scope} {x : Str} (h : isGl sc x = true) : sc.names.lookup x = some .globalImplicit := by
  unfold isGl at h
  split at h
  · rename_i e; exact e
  · cases h
def okName (x : Str) : Bool := !(x == ("__debug__" : Str)) && (!(x == ("__classdict__" : Str)) && decide (x ≠ "__name__"))
def boIs : Bo → Operator → Bool
  | .add, .Add => true | .sub, .Sub => true | .mul, .Mult => true | .fdiv, .FloorDiv => true | .mod, .Mod => true | .pow, .Pow => true
  | _, _ => false
def coIs : Co → CmpOp → Bool
  | .eq, .Eq => true | .ne, .NotEq => true | .lt, .Lt => true | .le, .LtE => true | .gt, .Gt => true | .ge, .GtE => true | .isin, .In => true | .nin, .NotIn => true | .is, .Is => true | .isn, .IsNot => true
  | _, _ => false
def blName : Bl → Str
  | .len => "len" | .int => "int" | .tuple => "tuple" | .list => "list" | .str => "str" | .sum => "sum" | .max => "max" | .min => "min" | .max2 => "max" | .min2 => "min" | .all => "all" | .any => "any" | .minD => "min"
def noSlice : Expr → Bool
  | .Slice _ _ _ _ => false
  | _ => true
theorem plainIx_of {b : Expr} (h : noSlice b = true) : PlainIx b := by
  intro o i
  cases b <;> first | rfl | cases h
def noCall : Expr → Bool
  | .Call _ _ _ _ => false
  | _ => true
theorem base_of {e : Expr} {f : Str} {env : Env} (h : noCall e = true) : attributeBase e f env (eval e env) = eval e env := by
  cases e <;> first | rfl | cases h
def notIf : Expr → Bool
  | .IfExp _ _ _ _ => false
  | _ => true
def tyNames : List String := ["int", "bool", "tuple", "list", "str"]
def cstIs : D → Const → Bool
  | .int i, .int j => decide (i = j)
  | .bl i, .bool j => decide (i = j)
  | .str i, .str j => decide (i = j)
  | .non, .none => true
  | _, _ => false
def fnIs (g : Option (Str × Gk)) (x : Str) (n : Nat) : Bool := match g with
  | some (y, .fn m) => decide (y = x) && decide (m = n)
  | _ => false
def gcIs (g : Option (Str × Gk)) (x : Str) : Bool := match g with
  | some (y, .cst) => decide (y = x)
  | _ => false
def tgInB : Tg → List Nat → Bool
  | .nm i, l => l.contains i
  | .tp ix, l => ix.all fun i => l.contains i
/-- targets in a block: plain local names -/
def tgLoc (N : List Str) (sc : Scope) : Tg → Expr → Bool
  | .nm i, .Name x _ => decide (N[i]? = some x) && decide (sc.names.lookup x = some .local)
  | .tp ix, .Tuple es _ _ => go ix es
  | _, _ => false
where
  go : List Nat → List Expr → Bool
    | [], [] => true
    | i :: ix, .Name x _ :: es => (decide (N[i]? = some x) && decide (sc.names.lookup x = some .local)) && go ix es
    | _, _ => false
def ownOf (N : List Str) (ix : List Nat) : List (Str × Nat) := ix.map fun i => (N.getD i "", i)
theorem ownOf_snd (N : List Str) (ix : List Nat) : (ownOf N ix).map (·.2) = ix := by
  unfold ownOf; rw [List.map_map]; exact List.map_id ix
def isTup : Expr → Bool
  | .Tuple _ _ _ => true
  | _ => false
/-! views of the text -/
def vName : Expr → Option Str
  | .Name x _ => some x
  | _ => none
theorem vName_ok {e : Expr} {x : Str} (h : vName e = some x) : ∃ p, e = .Name x p := by
  unfold vName at h; split at h <;> first | (cases h; exact ⟨_, rfl⟩) | cases h
def vCst : Expr → Option Const
  | .Constant c _ _ => some c
  | _ => none
theorem vCst_ok {e : Expr} {x : Const} (h : vCst e = some x) : ∃ k p, e = .Constant x k p := by
  unfold vCst at h; split at h <;> first | (cases h; exact ⟨_, _, rfl⟩) | cases h
def vBin : Expr → Option (Expr × Operator × Expr)
  | .BinOp l o r _ => some (l, o, r)
  | _ => none
theorem vBin_ok {e : Expr} {l r : Expr} {o : Operator} (h : vBin e = some (l, o, r)) : ∃ p, e = .BinOp l o r p := by
  unfold vBin at h; split at h <;> first | (cases h; exact ⟨_, rfl⟩) | cases h
def vCmp : Expr → Option (Expr × CmpOp × Expr)
  | .Compare l [o] [r] _ => some (l, o, r)
  | _ => none
theorem vCmp_ok {e : Expr} {l r : Expr} {o : CmpOp} (h : vCmp e = some (l, o, r)) : ∃ p, e = .Compare l [o] [r] p := by
  unfold vCmp at h; split at h <;> first | (cases h; exact ⟨_, rfl⟩) | cases h
def vCh : Expr → Option (Expr × CmpOp × Expr × CmpOp × Expr)
  | .Compare l [o, o'] [m, r] _ => some (l, o, m, o', r)
  | _ => none
theorem vCh_ok {e : Expr} {l m r : Expr} {o o' : CmpOp} (h : vCh e = some (l, o, m, o', r)) : ∃ p, e = .Compare l [o, o'] [m, r] p := by
  unfold vCh at h; split at h <;> first | (cases h; exact ⟨_, rfl⟩) | cases h
def vNeg : Expr → Option Expr
  | .UnaryOp .USub x _ => some x
  | _ => none
theorem vNeg_ok {e x : Expr} (h : vNeg e = some x) : ∃ p, e = .UnaryOp .USub x p := by
  unfold vNeg at h; split at h <;> first | (cases h; exact ⟨_, rfl⟩) | cases h
def vNot : Expr → Option Expr
  | .UnaryOp .Not x _ => some x
  | _ => none
theorem vNot_ok {e x : Expr} (h : vNot e = some x) : ∃ p, e = .UnaryOp .Not x p := by
  unfold vNot at h; split at h <;> first | (cases h; exact ⟨_, rfl⟩) | cases h
def vBop : Bool → Expr → Option (List Expr)
  | true, .BoolOp .And xs _ => some xs
  | false, .BoolOp .Or xs _ => some xs
  | _, _ => none
theorem vBop_ok {q : Bool} {e : Expr} {xs : List Expr} (h : vBop q e = some xs) : ∃ p, e = .BoolOp (if q = true then .And else .Or) xs p := by
  unfold vBop at h; split at h <;> first | (cases h; exact ⟨_, rfl⟩) | cases h
def vIf : Expr → Option (Expr × Expr × Expr)
  | .IfExp t a b _ => some (t, a, b)
  | _ => none
theorem vIf_ok {e t a b : Expr} (h : vIf e = some (t, a, b)) : ∃ p, e = .IfExp t a b p := by
  unfold vIf at h; split at h <;> first | (cases h; exact ⟨_, rfl⟩) | cases h
def vTup : Expr → Option (List Expr)
  | .Tuple xs _ _ => some xs
  | _ => none
theorem vTup_ok {e : Expr} {xs : List Expr} (h : vTup e = some xs) : ∃ k p, e = .Tuple xs k p := by
  unfold vTup at h; split at h <;> first | (cases h; exact ⟨_, _, rfl⟩) | cases h
def vLst : Expr → Option (List Expr)
  | .List xs _ => some xs
  | _ => none
theorem vLst_ok {e : Expr} {xs : List Expr} (h : vLst e = some xs) : ∃ p, e = .List xs p := by
  unfold vLst at h; split at h <;> first | (cases h; exact ⟨_, rfl⟩) | cases h
def vSub : Expr → Option (Expr × Expr)
  | .Subscript x i _ => some (x, i)
  | _ => none
theorem vSub_ok {e x i : Expr} (h : vSub e = some (x, i)) : ∃ p, e = .Subscript x i p := by
  unfold vSub at h; split at h <;> first | (cases h; exact ⟨_, rfl⟩) | cases h
def vSlLo : Expr → Option (Expr × Expr)
  | .Subscript x (.Slice (some i) none none _) _ => some (x, i)
  | _ => none
theorem vSlLo_ok {e x i : Expr} (h : vSlLo e = some (x, i)) : ∃ p p2, e = .Subscript x (.Slice (some i) none none p) p2 := by
  unfold vSlLo at h; split at h <;> first | (cases h; exact ⟨_, _, rfl⟩) | cases h
def vSlHi : Expr → Option (Expr × Expr)
  | .Subscript x (.Slice none (some i) none _) _ => some (x, i)
  | _ => none
theorem vSlHi_ok {e x i : Expr} (h : vSlHi e = some (x, i)) : ∃ p p2, e = .Subscript x (.Slice none (some i) none p) p2 := by
  unfold vSlHi at h; split at h <;> first | (cases h; exact ⟨_, _, rfl⟩) | cases h
def vSlBo : Expr → Option (Expr × Expr × Expr)
  | .Subscript x (.Slice (some i) (some j) none _) _ => some (x, i, j)
  | _ => none
theorem vSlBo_ok {e x i j : Expr} (h : vSlBo e = some (x, i, j)) : ∃ p p2, e = .Subscript x (.Slice (some i) (some j) none p) p2 := by
  unfold vSlBo at h; split at h <;> first | (cases h; exact ⟨_, _, rfl⟩) | cases h
/-- a call by name -/
def vCall : Expr → Option (Str × List Expr)
  | .Call (.Name x _) xs [] _ => some (x, xs)
  | _ => none
theorem vCall_ok {e : Expr} {x : Str} {xs : List Expr} (h : vCall e = some (x, xs)) : ∃ p p2, e = .Call (.Name x p) xs [] p2 := by
  unfold vCall at h; split at h <;> first | (cases h; exact ⟨_, _, rfl⟩) | cases h
def vAttr : Expr → Option (Expr × Str)
  | .Attribute x f _ => some (x, f)
  | _ => none
theorem vAttr_ok {e x : Expr} {f : Str} (h : vAttr e = some (x, f)) : ∃ p, e = .Attribute x f p := by
  unfold vAttr at h; split at h <;> first | (cases h; exact ⟨_, rfl⟩) | cases h
def vLc : Expr → Option (Expr × Expr × Expr × List Expr × Scope)
  | .ListComp x [⟨tg, iter, ifs, 0⟩] scope _ => some (x, tg, iter, ifs, scope)
  | _ => none
theorem vLc_ok {e x tg iter : Expr} {ifs : List Expr} {scope : Scope} (h : vLc e = some (x, tg, iter, ifs, scope)) : ∃ p, e = .ListComp x [⟨tg, iter, ifs, 0⟩] scope p := by
  unfold vLc at h; split at h <;> first | (cases h; exact ⟨_, rfl⟩) | cases h
/-- two, one -/
def v2 : List Expr → Option (Expr × Expr)
  | [a, b] => some (a, b)
  | _ => none
theorem v2_ok {l : List Expr} {a b : Expr} (h : v2 l = some (a, b)) : l = [a, b] := by
  unfold v2 at h; split at h <;> first | (cases h; rfl) | cases h
def v1 : List Expr → Option Expr
  | [a] => some a
  | _ => none
theorem v1_ok {l : List Expr} {a : Expr} (h : v1 l = some a) : l = [a] := by
  unfold v1 at h; split at h <;> first | (cases h; rfl) | cases h
/-- look at a part -/
def onS {α : Type} (o : Option α) (f : α → Bool) : Bool := match o with
  | some a => f a
  | none => false
theorem onS_ok {α : Type} {o : Option α} {f : α → Bool} (h : onS o f = true) : ∃ a, o = some a ∧ f a = true := by
  cases o with
  | none => cases h
  | some a => exact ⟨a, rfl, h⟩
/-- isinstance(e, ..) -/
def vIsi (P : Pm) (sc : Scope) (e : Expr) : Option (Expr × Expr) := match vCall e with
  | some (x, xs) => if decide (x = "isinstance") && (P.bl.contains x && (isGl sc x && xs.all noStar)) then v2 xs else none
  | none => none
theorem vIsi_ok {P : Pm} {sc : Scope} {e a b : Expr} (h : vIsi P sc e = some (a, b)) : ∃ p p2, e = .Call (.Name "isinstance" p) [a, b] [] p2 ∧ P.bl.contains "isinstance" = true ∧ isGl sc "isinstance" = true ∧ [a, b].all noStar = true := by
  unfold vIsi at h
  split at h
  · rename_i x xs q
    split at h
    · rename_i c
      obtain ⟨p, p2, rfl⟩ := vCall_ok q
      rw [Bool.and_eq_true, Bool.and_eq_true, Bool.and_eq_true] at c
      obtain ⟨c1, c2, c3, c4⟩ := c
      have e1 := of_decide_eq_true c1
      subst e1
      have e2 := v2_ok h
      subst e2
      exact ⟨p, p2, rfl, c2, c3, c4⟩
    · cases h
  · cases h
def vTy (P : Pm) (sc : Scope) (n : String) (e : Expr) : Bool := onS (vName e) fun y => decide (y = Str.ofString n) && (tyNames.contains n && (P.bl.contains y && isGl sc y))
def vOwn (P : Pm) (sc : Scope) (c : Str) (e : Expr) : Bool := onS (vName e) fun y => decide (y = c) && (P.cs.contains c && (okName y && isGl sc y))
def vBlt (P : Pm) (sc : Scope) (nm : Str) (e : Expr) : Option (List Expr) := match vCall e with
  | some (x, xs) => if decide (x = nm) && (P.bl.contains x && (isGl sc x && (!xs.isEmpty && xs.all noStar))) then some xs else none
  | none => none
theorem vBlt_ok {P : Pm} {sc : Scope} {nm : Str} {e : Expr} {xs : List Expr} (h : vBlt P sc nm e = some xs) : ∃ p p2 a r, xs = a :: r ∧ e = .Call (.Name nm p) (a :: r) [] p2 ∧ P.bl.contains nm = true ∧ isGl sc nm = true ∧ (a :: r).all noStar = true := by
  unfold vBlt at h
  split at h
  · rename_i x ys q
    split at h
    · rename_i c
      obtain ⟨p, p2, rfl⟩ := vCall_ok q
      rw [Bool.and_eq_true, Bool.and_eq_true, Bool.and_eq_true, Bool.and_eq_true] at c
      obtain ⟨c1, c2, c3, c4, c5⟩ := c
      have e1 := of_decide_eq_true c1
      subst e1
      cases h
      cases xs with
      | nil => cases c4
      | cons a r => exact ⟨p, p2, a, r, rfl, rfl, c2, c3, c5⟩
    · cases h
  · cases h
def vD0 : Expr → Bool
  | .Dict [] [] _ => true
  | _ => false
theorem vD0_ok {e : Expr} (h : vD0 e = true) : ∃ p, e = .Dict [] [] p := by
  unfold vD0 at h
  split at h
  · exact ⟨_, rfl⟩
  · cases h
def vD1 : Expr → Option (Expr × Expr)
  | .Dict [some k] [v] _ => some (k, v)
  | _ => none
theorem vD1_ok {e k v : Expr} (h : vD1 e = some (k, v)) : ∃ p, e = .Dict [some k] [v] p := by
  unfold vD1 at h
  split at h
  · cases h; exact ⟨_, rfl⟩
  · cases h
/-- a method's call -/
def vMeth : Expr → Option (Expr × Str × List Expr)
  | .Call (.Attribute o m apos) xs [] cpos => if (apos.endLine == cpos.line) = true then some (o, m, xs) else none
  | _ => none
theorem vMeth_ok {e o : Expr} {m : Str} {xs : List Expr} (h : vMeth e = some (o, m, xs)) : ∃ apos cpos, e = .Call (.Attribute o m apos) xs [] cpos ∧ (apos.endLine == cpos.line) = true := by
  unfold vMeth at h
  split at h
  · split at h
    · rename_i q; cases h; exact ⟨_, _, rfl, q⟩
    · cases h
  · cases h
def chV (P : Pm) (sc : Scope) (i : Nat) (e : Expr) : Bool := onS (vName e) fun x => decide (P.N[i]? = some x) && (isVis sc x && okName x)
def chH (P : Pm) (sc : Scope) (i : Nat) (en tp : Bool) (e : Expr) : Bool := if en = true then tp && onS (vBlt P sc "enumerate" e) fun xs => onS (v1 xs) fun x => chV P sc i x else chV P sc i e
mutual
def chE (P : Pm) (sc : Scope) : Ce → Expr → Bool
  | .var i, e => onS (vName e) fun x => decide (P.N[i]? = some x) && (isVis sc x && okName x)
  | .cst d, e => onS (vCst e) fun c => cstIs d c
  | .glo k, e => onS (vName e) fun x => gcIs P.gn[k]? x && (isGl sc x && okName x)
  | .bin o a b, e => onS (vBin e) fun q => boIs o q.2.1 && (chE P sc a q.1 && chE P sc b q.2.2)
  | .cmp o a b, e => onS (vCmp e) fun q => coIs o q.2.1 && (notSet q.2.2 && (chE P sc a q.1 && chE P sc b q.2.2))
  | .chain o o' a b c, e => onS (vCh e) fun q => coIs o q.2.1 && (coIs o' q.2.2.2.1 && (notSet q.2.2.2.2 && (chE P sc a q.1 && (chE P sc b q.2.2.1 && chE P sc c q.2.2.2.2))))
  | .neg a, e => onS (vNeg e) fun x => chE P sc a x
  | .not a, e => onS (vNot e) fun x => notIf x && chE P sc a x
  | .bop q es, e => onS (vBop q e) fun xs => xs.all notIf && (!xs.isEmpty && chA P sc es xs)
  | .ife c a b, e => onS (vIf e) fun q => notIf q.1 && (chE P sc c q.1 && (chE P sc a q.2.1 && chE P sc b q.2.2))
  | .tup es, e => onS (vTup e) fun xs => xs.all noStar && (decide (xs.length ≤ 1000) && chA P sc es xs)
  | .lst es, e => onS (vLst e) fun xs => xs.all noStar && (decide (xs.length ≤ 1000) && chA P sc es xs)
  | .ix a b, e => onS (vSub e) fun q => noSlice q.2 && (chE P sc a q.1 && chE P sc b q.2)
  | .slLo a b, e => onS (vSlLo e) fun q => chE P sc a q.1 && chE P sc b q.2
  | .slHi a b, e => onS (vSlHi e) fun q => chE P sc a q.1 && chE P sc b q.2
  | .slBo a b c, e => onS (vSlBo e) fun q => chE P sc a q.1 && (chE P sc b q.2.1 && chE P sc c q.2.2)
  | .blt o es, e => onS (vBlt P sc (blName o) e) fun xs => chA P sc es xs
  | .call k es, e => onS (vCall e) fun q => fnIs P.gn[k]? q.1 q.2.length && (isGl sc q.1 && (okName q.1 && (q.2.all noStar && chA P sc es q.2)))
  | .isi q a, e => onS (vIsi P sc e) fun r => (match q with
    | .bty n => vTy P sc n r.2
    | .own c => vOwn P sc c r.2) && chE P sc a r.1
  | .isiT n1 n2 a, e => onS (vIsi P sc e) fun r => onS (vTup r.2) fun l => onS (v2 l) fun q => vTy P sc n1 q.1 && (vTy P sc n2 q.2 && (noStar q.1 && (noStar q.2 && chE P sc a r.1)))
  | .attr c f a, e => onS (vAttr e) fun q => decide (q.2 = f) && (P.ats.contains (c, f) && (noCall q.1 && chE P sc a q.1))
  | .dnew, e => vD0 e
  | .d1 a b, e => onS (vD1 e) fun q => chE P sc a q.1 && chE P sc b q.2
  | .get i a b, e => onS (vMeth e) fun q => decide (q.2.1 = "get") && onS (vName q.1) fun x => (decide (P.N[i]? = some x) && (isVis sc x && okName x)) && onS (v2 q.2.2) fun r => (noStar r.1 && noStar r.2) && (chE P sc a r.1 && chE P sc b r.2)
  | .pop i, e => onS (vMeth e) fun q => decide (q.2.1 = "pop") && onS (vName q.1) fun x => (decide (P.N[i]? = some x) && (isVis sc x && okName x)) && q.2.2.isEmpty
  | .lzip a b, e => onS (vBlt P sc "list" e) fun xs => onS (v1 xs) fun y => onS (vBlt P sc "zip" y) fun ys => onS (v2 ys) fun q => chE P sc a q.1 && chE P sc b q.2
  | .lc0 elt t it own, e => onS (vLc e) fun q => (q.2.2.2.1.isEmpty && (tgInB t own && (blkC P.N sc q.2.2.2.2 (ownOf P.N own) && tgLoc P.N (relS q.2.2.2.2 sc) t q.2.1))) && (notSet q.2.2.1 && (chI P sc it (isTup q.2.1) q.2.2.1 && chE P (relS q.2.2.2.2 sc) elt q.1))
  | .lc1 elt t it cond own, e => onS (vLc e) fun q => onS (v1 q.2.2.2.1) fun y => (tgInB t own && (blkC P.N sc q.2.2.2.2 (ownOf P.N own) && tgLoc P.N (relS q.2.2.2.2 sc) t q.2.1)) && (notSet q.2.2.1 && (notIf y && (chI P sc it (isTup q.2.1) q.2.2.1 && (chE P (relS q.2.2.2.2 sc) cond y && chE P (relS q.2.2.2.2 sc) elt q.1))))
  | .hl0 elt t i en own, e => onS (vLc e) fun q => (q.2.2.2.1.isEmpty && (tgInB t own && (blkC P.N sc q.2.2.2.2 (ownOf P.N own) && tgLoc P.N (relS q.2.2.2.2 sc) t q.2.1))) && (notSet q.2.2.1 && (chH P sc i en (isTup q.2.1) q.2.2.1 && chE P (relS q.2.2.2.2 sc) elt q.1))
  | .hl1 elt t i en cond own, e => onS (vLc e) fun q => onS (v1 q.2.2.2.1) fun y => (tgInB t own && (blkC P.N sc q.2.2.2.2 (ownOf P.N own) && tgLoc P.N (relS q.2.2.2.2 sc) t q.2.1)) && (notSet q.2.2.1 && (notIf y && (chH P sc i en (isTup q.2.1) q.2.2.1 && (chE P (relS q.2.2.2.2 sc) cond y && chE P (relS q.2.2.2.2 sc) elt q.1))))
def chA (P : Pm) (sc : Scope) : Ca → List Expr → Bool
  | .nil, es => es.isEmpty
  | .cons a r, es => (match es with
    | [] => false
    | e :: es => chE P sc a e && chA P sc r es)
def chI (P : Pm) (sc : Scope) : Ci → Bool → Expr → Bool
  | .seq a, _, e => chE P sc a e
  | .rg1 a, _, e => onS (vBlt P sc "range" e) fun xs => onS (v1 xs) fun x => chE P sc a x
  | .rg2 a b, _, e => onS (vBlt P sc "range" e) fun xs => onS (v2 xs) fun q => chE P sc a q.1 && chE P sc b q.2
  | .zip tq a b, tp, e => (tq == tp) && onS (vBlt P sc "zip" e) fun xs => onS (v2 xs) fun q => chE P sc a q.1 && chE P sc b q.2
  | .enum a, tp, e => tp && onS (vBlt P sc "enumerate" e) fun xs => onS (v1 xs) fun x => chE P sc a x
end
end BF
set_option Elab.async false
set_option linter.all false
set_option autoImplicit false
set_option maxRecDepth 100000
set_option maxHeartbeats 4000000
namespace BF
open PySem PySem.Spec PyProof.Rows L2
section
variable {G : Type}
/-- what is true of the globals -/
structure GOk (X : Cx) (K : Env1) (T : Gt G) (k : Nat) (P : Pm) (Γ : Gam G) : Prop where
  gn : P.gn = Γ.map fun p => (p.1, kindG p.2)
  cst : ∀ (j : Nat) x d, Γ[j]? = some (x, .cst d) → ∃ u v, X.mg x = some u ∧ RelV v u ∧ ∀ F, Rep K F v d
  fn : ∀ (j : Nat) x n m, Γ[j]? = some (x, .fn n m) → ∃ kf f fd ps, kf ≤ k ∧ FnOk X.prog X.w X.K X.mg X.base (L2.CX X.prog X.w) kf f fd ps (spD K T n m) ∧ X.mg x = some (.ref f) ∧ PySem.W.keepIn X.K (.ref f) = true ∧ Binds X.K fd ps []
  mks : ∀ (j : Nat) x c f n m, Γ[j]? = some (x, .mk c f n m) → ∃ kf fi fd ps, 0 < n ∧ kf + 1 ≤ k ∧ FnOk X.prog X.w X.K X.mg X.base (L2.CX X.prog X.w) kf fi fd ps (spI K T c f n m) ∧ X.mg x = some (.ref (K.co c)) ∧ Mk X.K (K.co c) fi ∧ Binds X.K fd ps []
  bl : ∀ x ∈ P.bl, X.mg x = none
  csE : P.cs = K.cs
  cs : ∀ c ∈ K.cs, ClsOk K c
  csG : ∀ c ∈ K.cs, X.mg c = some (.ref (K.co c))
  ats : ∀ q ∈ P.ats, Cls K.K (K.co q.1) ∧ NoAttr K.K (K.co q.1) q.2
structure Snd (X : Cx) (K : Env1) (T : Gt G) (W : WX1) (k : Nat) (P : Pm) (Γ : Gam G) (sc : Scope) : Prop where
  ctx : Ctx X K W k
  glob : GOk X K T k P Γ
  N : X.N = P.N
  scope : X.env.scope = sc
end
section
variable {G : Type} {X : Cx} {K : Env1} {T : Gt G} {W : WX1} {k : Nat} {P : Pm} {Γ : Gam G} {sc : Scope}
theorem Snd.blk (S : Snd X K T W k P Γ sc) (s : Shared) (H : Hp) (scope : Scope) (C : Addr) (cl : List (Str × Addr)) (fp : List Addr) : Snd (X.blk s H scope (compEnvC scope cl C X.env) fp) K T W0 k P Γ (relS scope sc) where
  ctx := S.ctx.blk s H scope _ fp
  glob := ⟨S.glob.gn, S.glob.cst, S.glob.fn, S.glob.mks, S.glob.bl, S.glob.csE, S.glob.cs, S.glob.csG, S.glob.ats⟩
  N := S.N
  scope := by rw [← S.scope]; rfl
theorem ba {a b : Bool} (h : (a && b) = true) : a = true ∧ b = true := Bool.and_eq_true_iff.mp h
theorem okName_of {x : Str} (h : okName x = true) : (x == ("__debug__" : Str)) = false ∧ (x == ("__classdict__" : Str)) = false ∧ x ≠ "__name__" := by
  unfold okName at h
  obtain ⟨h1, h2⟩ := ba h
  obtain ⟨h2, h3⟩ := ba h2
  exact ⟨by simpa using h1, by simpa using h2, of_decide_eq_true h3⟩
theorem Snd.gl (S : Snd X K T W k P Γ sc) {x : Str} (h : isGl sc x = true) : Gl X x := by
  show X.env.scope.names.lookup x = _
  rw [S.scope]
  exact gl_of h
theorem Snd.vis (S : Snd X K T W k P Γ sc) {x : Str} (h : isVis sc x = true) : Vis X.env.scope x := by
  rw [S.scope]
  exact vis_of h
theorem Snd.bl (S : Snd X K T W k P Γ sc) {x : Str} (h : P.bl.contains x = true) : X.mg x = none := S.glob.bl x (by simpa using h)
theorem notSet_marks {op : CmpOp} {e : Expr} (h : notSet e = true) : behindInMarks op e = false := by
  cases e <;> first | rfl | cases h
theorem bo_ok {o : Bo} {op : Operator} (hk : K.K = X.K) (h : boIs o op = true) : ∃ r, OpR X (binaryOp op) r ∧ Op2 K (boF o) r := by
  cases o <;> cases op <;> first | (cases h; done) | skip
  · exact ⟨_, op_add.or (op_cat.or (op_catA.or op_add_str)), by rw [← hk]; exact op2_add⟩
  · exact ⟨_, op_sub, op2_sub⟩
  · exact ⟨_, op_mul.or (op_rep.or op_repT), by rw [← hk]; exact op2_mul⟩
  · exact ⟨_, op_fdiv, op2_fdiv⟩
  · exact ⟨_, op_mod, op2_mod⟩
  · exact ⟨_, op_pow, op2_pow⟩
theorem co_ok {o : Co} {op : CmpOp} (hk : K.K = X.K) (hw : K.w = X.w) (hu : X.A.units + 65 < cLine) (h : coIs o op = true) : ∃ r, OpR X (compareOp op) r ∧ Op2 K (coF o) r := by
  have hu2 : X.A.units + 64 < cLine := by omega
  cases o <;> cases op <;> first | (cases h; done) | skip
  · exact ⟨_, op_eq.or (op_eqD hu2), by rw [← hk]; exact op2_eq⟩
  · exact ⟨_, op_ne.or (op_neD hu2), by rw [← hk]; exact op2_ne⟩
  · exact ⟨_, op_lt, op2_lt⟩
  · exact ⟨_, op_le, op2_le⟩
  · exact ⟨_, op_gt, op2_gt⟩
  · exact ⟨_, op_ge, op2_ge⟩
  · exact ⟨_, ((op_inD hu).or (op_inT hu)).or (op_dIn (K := K) hu hk hw false), by rw [← hk]; exact op2_in2⟩
  · exact ⟨_, ((op_notInD hu).or (op_notInT hu)).or (op_dIn (K := K) hu hk hw true), by rw [← hk]; exact op2_nin2⟩
  · exact ⟨_, op_isN, op2_is⟩
  · exact ⟨_, op_notN, op2_isn⟩
theorem CallR.or {f : Value} {r r' : List V → Hp → VK → Prop} (h : CallR X f r) (h' : CallR X f r') : CallR X f (fun xs H Q => r xs H Q ∨ r' xs H Q) := by
  intro pins s σ H vs us Q I rv q
  rcases q with q | q
  · exact h pins s σ H vs us Q I rv q
  · exact h' pins s σ H vs us Q I rv q
/-- a built-in's call -/
theorem bl_ok {o : Bl} (hk : K.K = X.K) (hc : X.calm = true) (hu : X.A.units + 65 < cLine) : (∃ id r, bootBuiltins (blName o) = some (.builtin id) ∧ CallR X (.builtin id) r ∧ Opn K (blF o) r) ∨ (∃ id r, bootBuiltins (blName o) = some (.type id) ∧ CallR X (.type id) r ∧ Opn K (blF o) r) := by
  cases o
  · exact .inl ⟨"len", _, by decide +kernel, (call_len_seq.or call_len_str).or (call_dlen (K := K)), by rw [← hk]; exact opn_len2⟩
  · exact .inr ⟨"int", _, by decide +kernel, call_int1, opn_int⟩
  · exact .inr ⟨"tuple", _, by decide +kernel, call_tuple_of, by rw [← hk]; exact opn_tuple⟩
  · exact .inr ⟨"list", _, by decide +kernel, call_list_of, by rw [← hk]; exact opn_list⟩
  · exact .inr ⟨"str", _, by decide +kernel, call_str_int, opn_str⟩
  · exact .inl ⟨"sum", _, by decide +kernel, cr_sum hc, by rw [← hk]; exact opn_sum⟩
  · exact .inl ⟨"max", _, by decide +kernel, cr_max hc, by rw [← hk]; exact opn_max⟩
  · exact .inl ⟨"min", _, by decide +kernel, cr_min hc, by rw [← hk]; exact opn_min⟩
  · exact .inl ⟨"max", _, by decide +kernel, call_max2 hc, opn_max2⟩
  · exact .inl ⟨"min", _, by decide +kernel, call_min2 hc, opn_min2⟩
  · exact .inl ⟨"all", _, by decide +kernel, cr_all hc, by rw [← hk]; exact opn_all⟩
  · exact .inl ⟨"any", _, by decide +kernel, cr_any hc, by rw [← hk]; exact opn_any⟩
  · exact .inl ⟨"min", _, by decide +kernel, cr_minP hc hu, by rw [← hk]; exact opn_minP⟩
theorem blName_ok (o : Bl) : blName o ≠ "__name__" ∧ (blName o == ("__debug__" : Str)) = false := by cases o <;> exact ⟨by decide +kernel, by decide +kernel⟩
theorem ty_boot {n : String} (h : tyNames.contains n = true) : bootBuiltins (Str.ofString n) = some (.type n) ∧ Str.ofString n ≠ "__name__" ∧ (Str.ofString n == ("__debug__" : Str)) = false := by
  have h : n ∈ tyNames := by simpa using h
  simp only [tyNames, List.mem_cons, List.not_mem_nil, or_false] at h
  rcases h with rfl | rfl | rfl | rfl | rfl <;> exact ⟨by decide +kernel, by decide +kernel, by decide +kernel⟩
theorem se_ty {n : String} {p : Pos} (S : Snd X K T W k P Γ sc) (h : tyNames.contains n = true) (hb : P.bl.contains (Str.ofString n) = true) (hg : isGl sc (Str.ofString n) = true) : SE X K T W (.Name (Str.ofString n) p) (evC (G := G) (.ty n)) := by
  obtain ⟨h1, h2, h3⟩ := ty_boot h
  exact se_bltn (v := .ty n) (S.gl hg) (S.bl hb) h1 rfl (fun F => .ty n) h2 h3
theorem tgLoc_ok {N : List Str} {sc : Scope} : ∀ {t : Tg} {e : Expr}, tgLoc N sc t e = true → tgOk N sc t e = true := by
  have gos : ∀ {ix : List Nat} {es : List Expr}, tgLoc.go N sc ix es = true → tgOk.tgsOk N sc ix es = true := by
    intro ix
    induction ix with
    | nil =>
      intro es h
      cases es with
      | nil => rfl
      | cons e es => cases e <;> cases h
    | cons i ix ih =>
      intro es h
      cases es with
      | nil => cases h
      | cons e es =>
        cases e with
        | Name x p =>
          obtain ⟨h1, h2⟩ := ba (show ((decide (N[i]? = some x) && decide (sc.names.lookup x = some .local)) && tgLoc.go N sc ix es) = true from h)
          obtain ⟨h3, h4⟩ := ba h1
          show ((decide (N[i]? = some x) && _) && tgOk.tgsOk N sc ix es) = true
          rw [h3, ih h2, of_decide_eq_true h4]
          rfl
        | _ => cases h
  intro t e h
  cases t with
  | nm i =>
    cases e with
    | Name x p =>
      obtain ⟨h3, h4⟩ := ba (show (decide (N[i]? = some x) && decide (sc.names.lookup x = some .local)) = true from h)
      show (decide (N[i]? = some x) && _) = true
      rw [h3, of_decide_eq_true h4]
      rfl
    | _ => cases h
  | tp ix =>
    cases e with
    | Tuple es k p => exact gos h
    | _ => cases h
theorem tgInB_ok {t : Tg} {l : List Nat} (h : tgInB t l = true) : tgIn t l := by
  cases t with
  | nm i => show i ∈ l; simpa [tgInB] using h
  | tp ix =>
    intro i hi
    have := List.all_eq_true.mp (show (ix.all fun i => l.contains i) = true from h) i hi
    simpa using this
/-- the targets of a block -/
theorem pg_loc {tg : Expr} {t : Tg} {scope : Scope} (S : Snd X K T W k P Γ sc) (h : tgLoc P.N (relS scope sc) t tg = true) (s : Shared) (H : Hp) (C : Addr) (cl : List (Str × Addr)) (fp : List Addr) : PG (X.blk s H scope (compEnvC scope cl C X.env) fp) tg (gOf X.K t) := by
  have Sb := S.blk s H scope C cl fp
  have names : ∀ (ix : List Nat) (es : List Expr), tgLoc.go P.N (relS scope sc) ix es = true → PGs (X.blk s H scope (compEnvC scope cl C X.env) fp) es (gNames ix) ∧ ix.length = es.length := by
    intro ix
    induction ix with
    | nil =>
      intro es h
      cases es with
      | nil => exact ⟨pgs_nil, rfl⟩
      | cons e es => cases e <;> cases h
    | cons i ix ih =>
      intro es h
      cases es with
      | nil => cases h
      | cons e es =>
        cases e with
        | Name x p =>
          obtain ⟨h1, h2⟩ := ba (show ((decide (P.N[i]? = some x) && decide ((relS scope sc).names.lookup x = some .local)) && tgLoc.go P.N (relS scope sc) ix es) = true from h)
          obtain ⟨h3, h4⟩ := ba h1
          obtain ⟨q1, q2⟩ := ih es h2
          have hl : (X.blk s H scope (compEnvC scope cl C X.env) fp).env.scope.names.lookup x = some .local := by rw [Sb.scope]; exact of_decide_eq_true h4
          exact ⟨pgs_cons (pg_name Sb.ctx.nd (by rw [Sb.N]; exact of_decide_eq_true h3) (.inl hl) (.inr hl)) q1 rfl, by simp [q2]⟩
        | _ => cases h
  cases t with
  | nm i =>
    cases tg with
    | Name x p =>
      obtain ⟨h3, h4⟩ := ba (show (decide (P.N[i]? = some x) && decide ((relS scope sc).names.lookup x = some .local)) = true from h)
      have hl : (X.blk s H scope (compEnvC scope cl C X.env) fp).env.scope.names.lookup x = some .local := by rw [Sb.scope]; exact of_decide_eq_true h4
      exact pg_name Sb.ctx.nd (by rw [Sb.N]; exact of_decide_eq_true h3) (.inl hl) (.inr hl)
    | _ => cases h
  | tp ix =>
    cases tg with
    | Tuple es kk p =>
      obtain ⟨q1, q2⟩ := names ix es h
      have hok : tgOk P.N (relS scope sc) (.tp ix) (.Tuple es kk p) = true := tgLoc_ok h
      exact pg_tup Sb.ctx.calm q1 ((asgEach_len es).trans q2.symm) (asgEach_none hok)
    | _ => cases h
theorem units65 {A : Around} (hr : Room k A) : A.units + 65 < cLine := by
  have := hr.un; omega
end
end BF
set_option Elab.async false
set_option linter.all false
set_option autoImplicit false
set_option maxRecDepth 100000
set_option maxHeartbeats 4000000
namespace BF
open PySem PySem.Spec PyProof.Rows L2
section
variable {G : Type} {K : Env1} {T : Gt G} {k : Nat} {P : Pm} {Γ : Gam G}
/-- what is shown of an expression -/
def GoodE (K : Env1) (T : Gt G) (k : Nat) (P : Pm) (Γ : Gam G) (c : Ce) : Prop := ∀ (X : Cx) (W : WX1) (sc : Scope) (e : Expr), Snd X K T W k P Γ sc → chE P sc c e = true → SE X K T W e (ev K Γ c) ∧ (notIf e = true → ST X K T W e (ev K Γ c))
def GoodA (K : Env1) (T : Gt G) (k : Nat) (P : Pm) (Γ : Gam G) (c : Ca) : Prop := ∀ (X : Cx) (W : WX1) (sc : Scope) (es : List Expr), Snd X K T W k P Γ sc → chA P sc c es = true → SL X K T W es (evA K Γ c) ∧
  (es.all notIf = true → es.isEmpty = false → ∀ pos, (SE X K T W (.BoolOp .And es pos) (evB K Γ true c) ∧ SW X K T W (.BoolOp .And es pos) (evB K Γ true c)) ∧ (SE X K T W (.BoolOp .Or es pos) (evB K Γ false c) ∧ SW X K T W (.BoolOp .Or es pos) (evB K Γ false c)))
def tgNT : Expr → Bool
  | .Name _ _ => true
  | .Tuple _ _ _ => true
  | _ => false
theorem tgNT_loc {N : List Str} {sc : Scope} {t : Tg} {e : Expr} (h : tgLoc N sc t e = true) : tgNT e = true := by
  cases t <;> cases e <;> first | rfl | cases h
theorem tgNT_ok {N : List Str} {sc : Scope} {t : Tg} {e : Expr} (h : tgOk N sc t e = true) : tgNT e = true := by
  cases t <;> cases e <;> first | rfl | cases h
def GoodI (K : Env1) (T : Gt G) (k : Nat) (P : Pm) (Γ : Gam G) (c : Ci) : Prop := ∀ (X : Cx) (W : WX1) (sc : Scope) (tg e : Expr), tgNT tg = true → Snd X K T W k P Γ sc → chI P sc c (isTup tg) e = true → SI X K T W tg e (evI K Γ c)
theorem sl1 {X : Cx} {W : WX1} {a : Expr} {f : Sg G → Rs G Ov} (h : SE X K T W a f) : SL X K T W [a] (evCons f evNil) := sl_cons h sl_nil
theorem sl2 {X : Cx} {W : WX1} {a b : Expr} {f g : Sg G → Rs G Ov} (h : SE X K T W a f) (h2 : SE X K T W b g) : SL X K T W [a, b] (evCons f (evCons g evNil)) := sl_cons h (sl_cons h2 sl_nil)
theorem both {X : Cx} {W : WX1} {e : Expr} {f : Sg G → Rs G Ov} (h : SE X K T W e f) (he : ∀ whole, isTrue e X.env whole = (do let v ← whole; standAt e.pos; holding [v] (truthy v))) : SE X K T W e f ∧ (notIf e = true → ST X K T W e f) := ⟨h, fun _ => st_val he h⟩
theorem lcok {X : Cx} {W : WX1} {sc : Scope} {elt tg iter : Expr} {ifs : List Expr} {scope : Scope} {own : List Nat} {fi : Sg G → Rs G (List D)} {t : Tg} {ft fe : Sg G → Rs G Ov} (S : Snd X K T W k P Γ sc) (h1 : tgInB t own = true) (h2 : blkC P.N sc scope (ownOf P.N own) = true) (h3 : tgLoc P.N (relS scope sc) t tg = true) (h4 : notSet iter = true) (hl : ifs.length ≤ 1)
    (hi : SI X K T W tg iter fi) (ht : ∀ (s : Shared) (H : Hp) (C : Addr) (cl : List (Str × Addr)) (fp : List Addr), STs (X.blk s H scope (compEnvC scope cl C X.env) fp) K T W0 ifs ft)
    (he : ∀ (s : Shared) (H : Hp) (C : Addr) (cl : List (Str × Addr)) (fp : List Addr), SE (X.blk s H scope (compEnvC scope cl C X.env) fp) K T W0 elt fe) : LcOk X K T W elt tg iter ifs scope (ownOf P.N own) fi t ft fe where
  kk := S.ctx.kk
  calm := S.ctx.calm
  nd := S.ctx.nd
  it := hi
  ok := by rw [S.N, S.scope]; exact blkOk_by h2
  tgt := fun s H C cl fp => pg_loc S h3 s H C cl fp
  ifl := hl
  tst := ht
  elt := he
  ns := h4
  tow := by rw [ownOf_snd]; exact tgInB_ok h1
theorem good_v {X : Cx} {W : WX1} {sc : Scope} {i : Nat} {e : Expr} (S : Snd X K T W k P Γ sc) (h0 : chV P sc i e = true) : SE X K T W0 e (evVar i) := by
  obtain ⟨x, v, ha⟩ := onS_ok h0
  obtain ⟨p, rfl⟩ := vName_ok v
  obtain ⟨h1, h2⟩ := ba ha
  obtain ⟨h2, h3⟩ := ba h2
  obtain ⟨n1, n2, n3⟩ := okName_of h3
  exact se_var (by rw [S.N]; exact of_decide_eq_true h1) (S.vis h2) n1 n2
theorem good_h {X : Cx} {W : WX1} {sc : Scope} {i : Nat} {en : Bool} {tg e : Expr} (S : Snd X K T W k P Γ sc) (h0 : chH P sc i en (isTup tg) e = true) : HidI X K T i en tg e := by
  cases en with
  | false => exact hidI_seq S.ctx.kk (good_v S h0)
  | true =>
    obtain ⟨ht, hz⟩ := ba (show (isTup tg && onS (vBlt P sc "enumerate" e) fun xs => onS (v1 xs) fun x => chV P sc i x) = true from h0)
    obtain ⟨xs, v, ha⟩ := onS_ok hz
    obtain ⟨p, p2, y, r, rfl, rfl, h1, h2, h3⟩ := vBlt_ok v
    obtain ⟨x, vx, hb⟩ := onS_ok ha
    have e0 := v1_ok vx
    cases e0
    cases tg <;> first | (cases ht; done) | skip
    exact hidI_enum S.ctx.kk (S.gl h2) (S.bl h1) h3 (good_v S hb)
mutual
theorem good_e : ∀ (c : Ce), GoodE K T k P Γ c
  | .var i => fun X W sc e S h0 => by
    obtain ⟨x, v, ha⟩ := onS_ok h0
    obtain ⟨p, rfl⟩ := vName_ok v
    obtain ⟨h1, h2⟩ := ba ha
    obtain ⟨h2, h3⟩ := ba h2
    obtain ⟨n1, n2, n3⟩ := okName_of h3
    exact both (se_var (by rw [S.N]; exact of_decide_eq_true h1) (S.vis h2) n1 n2) fun _ => rfl
  | .cst d => fun X W sc e S h0 => by
    obtain ⟨c, v, ha⟩ := onS_ok h0
    obtain ⟨kk, p, rfl⟩ := vCst_ok v
    have h : cstIs d c = true := ha
    cases d <;> cases c <;> first | (cases h; done) | skip
    · exact both se_non fun _ => rfl
    · cases (of_decide_eq_true h); exact both se_bl fun _ => rfl
    · cases (of_decide_eq_true h); exact both se_int fun _ => rfl
    · cases (of_decide_eq_true h); exact both se_str fun _ => rfl
  | .glo j => fun X W sc e S h0 => by
    obtain ⟨x, v, ha⟩ := onS_ok h0
    obtain ⟨p, rfl⟩ := vName_ok v
    obtain ⟨h1, h2⟩ := ba ha
    obtain ⟨h2, h3⟩ := ba h2
    obtain ⟨n1, n2, n3⟩ := okName_of h3
    rw [S.glob.gn, List.getElem?_map] at h1
    unfold ev
    cases q : Γ[j]? with
    | none => rw [q] at h1; cases h1
    | some r =>
      obtain ⟨y, gd⟩ := r
      rw [q] at h1
      cases gd with
      | cst d =>
        have h1 : decide (y = x) = true := h1
        cases (of_decide_eq_true h1)
        obtain ⟨u, v, e1, e2, e3⟩ := S.glob.cst j _ d q
        exact both (se_glob (S.gl h2) e1 e2 e3 n1) fun _ => rfl
      | fn n m => cases h1
      | mk c f n m => cases h1
  | .bin o a b => fun X W sc e S h0 => by
    obtain ⟨⟨l, op, r⟩, v, ha⟩ := onS_ok h0
    obtain ⟨p, rfl⟩ := vBin_ok v
    obtain ⟨h1, h2⟩ := ba ha
    obtain ⟨h2, h3⟩ := ba h2
    obtain ⟨r, k1, k2⟩ := bo_ok (X := X) (K := K) S.ctx.kk h1
    exact both (se_bin k1 k2 (sl2 (good_e a X W sc _ S h2).1 (good_e b X W sc _ S h3).1)) fun _ => rfl
  | .cmp o a b => fun X W sc e S h0 => by
    obtain ⟨⟨l, op, r⟩, v, ha⟩ := onS_ok h0
    obtain ⟨p, rfl⟩ := vCmp_ok v
    obtain ⟨h1, h2⟩ := ba ha
    obtain ⟨h2, h3⟩ := ba h2
    obtain ⟨h3, h4⟩ := ba h3
    obtain ⟨r, k1, k2⟩ := co_ok (X := X) (K := K) S.ctx.kk S.ctx.kw (units65 S.ctx.room) h1
    have sl := sl2 (good_e a X W sc _ S h3).1 (good_e b X W sc _ S h4).1
    exact ⟨se_cmp k1 k2 sl (notSet_marks h2), fun _ => st_cmp k1 k2 sl (notSet_marks h2)⟩
  | .chain o o' a b c => fun X W sc e S h0 => by
    obtain ⟨⟨l, op, m, op', r⟩, v, ha⟩ := onS_ok h0
    obtain ⟨p, rfl⟩ := vCh_ok v
    obtain ⟨h1, h2⟩ := ba ha
    obtain ⟨h2, h3⟩ := ba h2
    obtain ⟨h3, h4⟩ := ba h3
    obtain ⟨h4, h5⟩ := ba h4
    obtain ⟨h5, h6⟩ := ba h5
    obtain ⟨r, k1, k2⟩ := co_ok (X := X) (K := K) S.ctx.kk S.ctx.kw (units65 S.ctx.room) h1
    obtain ⟨r', k3, k4⟩ := co_ok (X := X) (K := K) S.ctx.kk S.ctx.kw (units65 S.ctx.room) h2
    have sl := sl2 (good_e a X W sc _ S h4).1 (good_e b X W sc _ S h5).1
    have gc := (good_e c X W sc _ S h6).1
    have hm : ∀ {m r : Expr}, notSet r = true → lastMarks [op, op'] [m, r] = false := fun h => notSet_marks h
    exact ⟨se_chain k1 k3 k2 k4 sl gc (hm h3), fun _ => st_chain k1 k3 k2 k4 sl gc (hm h3)⟩
  | .neg a => fun X W sc e S h0 => by
    obtain ⟨x, v, ha⟩ := onS_ok h0
    obtain ⟨p, rfl⟩ := vNeg_ok v
    exact both (se_neg (sl1 (good_e a X W sc _ S ha).1)) fun _ => rfl
  | .not a => fun X W sc e S h0 => by
    obtain ⟨x, v, ha⟩ := onS_ok h0
    obtain ⟨p, rfl⟩ := vNot_ok v
    obtain ⟨h1, h2⟩ := ba ha
    obtain ⟨g1, g2⟩ := good_e a X W sc _ S h2
    exact ⟨se_not g1, fun _ => st_not (g2 h1)⟩
  | .bop q es => fun X W sc e S h0 => by
    obtain ⟨xs, v, ha⟩ := onS_ok h0
    obtain ⟨p, rfl⟩ := vBop_ok v
    obtain ⟨h1, h2⟩ := ba ha
    obtain ⟨h2, h3⟩ := ba h2
    obtain ⟨_, g⟩ := good_a es X W sc _ S h3
    obtain ⟨⟨g1, g2⟩, ⟨g3, g4⟩⟩ := g h1 (by simpa using h2) p
    cases q with
    | true => exact ⟨g1, fun _ => g2.st⟩
    | false => exact ⟨g3, fun _ => g4.st⟩
  | .ife c a b => fun X W sc e S h0 => by
    obtain ⟨⟨t, x, y⟩, v, ha⟩ := onS_ok h0
    obtain ⟨p, rfl⟩ := vIf_ok v
    obtain ⟨h1, h2⟩ := ba ha
    obtain ⟨h2, h3⟩ := ba h2
    obtain ⟨h3, h4⟩ := ba h3
    exact ⟨se_if ((good_e c X W sc _ S h2).2 h1) (good_e a X W sc _ S h3).1 (good_e b X W sc _ S h4).1, fun z => by cases z⟩
  | .tup es => fun X W sc e S h0 => by
    obtain ⟨xs, v, ha⟩ := onS_ok h0
    obtain ⟨kk, p, rfl⟩ := vTup_ok v
    obtain ⟨h1, h2⟩ := ba ha
    obtain ⟨h2, h3⟩ := ba h2
    have hz : xs.length ≤ sizeLine := by have := of_decide_eq_true h2; rw [sizeLine_eq]; omega
    exact both (se_tup h1 hz (good_a es X W sc _ S h3).1) fun _ => rfl
  | .lst es => fun X W sc e S h0 => by
    obtain ⟨xs, v, ha⟩ := onS_ok h0
    obtain ⟨p, rfl⟩ := vLst_ok v
    obtain ⟨h1, h2⟩ := ba ha
    obtain ⟨h2, h3⟩ := ba h2
    have hz : xs.length ≤ sizeLine := by have := of_decide_eq_true h2; rw [sizeLine_eq]; omega
    exact both (se_lst h1 hz (good_a es X W sc _ S h3).1) fun _ => rfl
  | .ix a b => fun X W sc e S h0 => by
    obtain ⟨⟨x, i⟩, v, ha⟩ := onS_ok h0
    obtain ⟨p, rfl⟩ := vSub_ok v
    obtain ⟨h1, h2⟩ := ba ha
    obtain ⟨h2, h3⟩ := ba h2
    exact both (se_ix (ix_seq.or (ix_dict (K := K) (units65 S.ctx.room) S.ctx.kk S.ctx.kw)) (by rw [← S.ctx.kk]; exact op2_ix2) (sl2 (good_e a X W sc _ S h2).1 (good_e b X W sc _ S h3).1) (plainIx_of h1)) fun _ => rfl
  | .slLo a b => fun X W sc e S h0 => by
    obtain ⟨⟨x, i⟩, v, ha⟩ := onS_ok h0
    obtain ⟨p, p2, rfl⟩ := vSlLo_ok v
    obtain ⟨h1, h2⟩ := ba ha
    exact both (se_slLo S.ctx.kk (sl2 (good_e a X W sc _ S h1).1 (good_e b X W sc _ S h2).1)) fun _ => rfl
  | .slHi a b => fun X W sc e S h0 => by
    obtain ⟨⟨x, i⟩, v, ha⟩ := onS_ok h0
    obtain ⟨p, p2, rfl⟩ := vSlHi_ok v
    obtain ⟨h1, h2⟩ := ba ha
    exact both (se_slHi S.ctx.kk (sl2 (good_e a X W sc _ S h1).1 (good_e b X W sc _ S h2).1)) fun _ => rfl
  | .slBo a b c => fun X W sc e S h0 => by
    obtain ⟨⟨x, i, j⟩, v, ha⟩ := onS_ok h0
    obtain ⟨p, p2, rfl⟩ := vSlBo_ok v
    obtain ⟨h1, h2⟩ := ba ha
    obtain ⟨h2, h3⟩ := ba h2
    exact both (se_slBo S.ctx.kk (sl2 (good_e a X W sc _ S h1).1 (good_e b X W sc _ S h2).1) (good_e c X W sc _ S h3).1) fun _ => rfl
  | .blt o es => fun X W sc e S h0 => by
    obtain ⟨xs, v, ha⟩ := onS_ok h0
    obtain ⟨p, p2, a, r, rfl, rfl, h1, h2, h3⟩ := vBlt_ok v
    have g := (good_a es X W sc _ S ha).1
    obtain ⟨n1, n2⟩ := blName_ok o
    rcases bl_ok (X := X) (K := K) (o := o) S.ctx.kk S.ctx.calm (units65 S.ctx.room) with ⟨id, r, k1, k2, k3⟩ | ⟨id, r, k1, k2, k3⟩
    · exact both (se_blt k2 k3 (S.gl h2) (S.bl h1) k1 n1 n2 h3 g) fun _ => rfl
    · exact both (se_bty k2 k3 (S.gl h2) (S.bl h1) k1 n1 n2 h3 g) fun _ => rfl
  | .call j es => fun X W sc e S h0 => by
    obtain ⟨⟨x, xs⟩, v, ha⟩ := onS_ok h0
    obtain ⟨p, p2, rfl⟩ := vCall_ok v
    obtain ⟨h1, g2⟩ := ba ha
    obtain ⟨h2, g3⟩ := ba g2
    obtain ⟨h3, g4⟩ := ba g3
    obtain ⟨h4, h5⟩ := ba g4
    clear h0 ha g2 g3 g4
    obtain ⟨n1, n2, n3⟩ := okName_of h3
    rw [S.glob.gn, List.getElem?_map] at h1
    unfold ev
    cases q : Γ[j]? with
    | none => rw [q] at h1; cases h1
    | some r =>
      obtain ⟨y, gd⟩ := r
      rw [q] at h1
      cases gd with
      | fn n m =>
        obtain ⟨h6, h7⟩ := ba (show (decide (y = x) && decide (n = xs.length)) = true from h1)
        cases (of_decide_eq_true h6)
        obtain ⟨kf, f, fd, ps, f1, f2, f3, f4, f5⟩ := S.glob.fn j _ n m q
        have g := (good_a es X W sc _ S h5).1
        cases xs with
        | nil =>
          have e0 : n = 0 := of_decide_eq_true h7
          subst e0
          have ee : es = .nil := by
            cases es with
            | nil => rfl
            | cons a r => cases h5
          subst ee
          exact both (se_call0 S.ctx f2 f1 (S.gl h2) f3 f4 f5 n1) fun _ => rfl
        | cons a r => exact both (se_call S.ctx f2 f1 (S.gl h2) f3 f4 f5 n1 h4 (of_decide_eq_true h7).symm g) fun _ => rfl
      | cst d => cases h1
      | mk c f n m =>
        obtain ⟨h6, h7⟩ := ba (show (decide (y = x) && decide (n = xs.length)) = true from h1)
        cases (of_decide_eq_true h6)
        obtain ⟨kf, fi, fd, ps, f0, f1, f2, f3, f4, f5⟩ := S.glob.mks j _ c f n m q
        have g := (good_a es X W sc _ S h5).1
        cases xs with
        | nil =>
          have e0 : n = 0 := of_decide_eq_true h7
          omega
        | cons a r => exact both (se_make S.ctx f4 f2 f1 (S.gl h2) f3 f5 n1 h4 (of_decide_eq_true h7).symm g) fun _ => rfl
  | .isi q a => fun X W sc e S h0 => by
    obtain ⟨⟨x, y⟩, v, ha⟩ := onS_ok h0
    obtain ⟨p, p2, rfl, b1, b2, b3⟩ := vIsi_ok v
    obtain ⟨h1, h2⟩ := ba ha
    have ga := (good_e a X W sc _ S h2).1
    have gc : SE X K T W y (evC (G := G) (clD K q)) := by
      cases q with
      | bty n =>
        obtain ⟨z, vz, hz⟩ := onS_ok (show vTy P sc n y = true from h1)
        obtain ⟨p3, rfl⟩ := vName_ok vz
        obtain ⟨z1, hz⟩ := ba hz
        obtain ⟨z2, hz⟩ := ba hz
        obtain ⟨z3, z4⟩ := ba hz
        cases (of_decide_eq_true z1)
        exact se_ty S z2 z3 z4
      | own c =>
        obtain ⟨z, vz, hz⟩ := onS_ok (show vOwn P sc c y = true from h1)
        obtain ⟨p3, rfl⟩ := vName_ok vz
        obtain ⟨z1, hz⟩ := ba hz
        obtain ⟨z2, hz⟩ := ba hz
        obtain ⟨z3, z4⟩ := ba hz
        have ez : c = z := (of_decide_eq_true z1).symm
        subst ez
        obtain ⟨n1, n2, n3⟩ := okName_of z3
        have hc : c ∈ K.cs := by rw [← S.glob.csE]; simpa using z2
        exact se_glob (v := .ref (K.co c)) (S.gl z4) (S.glob.csG c hc) rfl (fun F => .ref _) n1
    exact both (se_blt (by rw [S.ctx.kk]; exact call_isi) (opn_isi S.glob.cs) (S.gl b2) (S.bl b1) (by decide +kernel) (by decide +kernel) (by decide +kernel) b3 (sl2 ga gc)) fun _ => rfl
  | .isiT n1 n2 a => fun X W sc e S h0 => by
    obtain ⟨⟨x, y⟩, v, ha⟩ := onS_ok h0
    obtain ⟨p, p2, rfl, b1, b2, b3⟩ := vIsi_ok v
    obtain ⟨l, vl, hb⟩ := onS_ok ha
    obtain ⟨kk, p3, rfl⟩ := vTup_ok vl
    obtain ⟨⟨y1, y2⟩, v2', hc⟩ := onS_ok hb
    have el := v2_ok v2'
    subst el
    obtain ⟨h1, h2⟩ := ba hc
    obtain ⟨h2, h3⟩ := ba h2
    obtain ⟨h3, h4⟩ := ba h3
    obtain ⟨h4, h5⟩ := ba h4
    have ga := (good_e a X W sc _ S h5).1
    have gt : ∀ {n : String} {y : Expr}, vTy P sc n y = true → SE X K T W y (evC (G := G) (.ty n)) := fun {n y} h1 => by
      obtain ⟨z, vz, hz⟩ := onS_ok h1
      obtain ⟨p3, rfl⟩ := vName_ok vz
      obtain ⟨z1, hz⟩ := ba hz
      obtain ⟨z2, hz⟩ := ba hz
      obtain ⟨z3, z4⟩ := ba hz
      cases (of_decide_eq_true z1)
      exact se_ty S z2 z3 z4
    have ns : [y1, y2].all noStar = true := by
      show (noStar y1 && (noStar y2 && true)) = true
      rw [h3, h4]; rfl
    exact both (se_blt (by rw [S.ctx.kk]; exact CallR.or call_isiT call_isiK) (opn_isiT S.glob.cs) (S.gl b2) (S.bl b1) (by decide +kernel) (by decide +kernel) (by decide +kernel) b3 (sl2 ga (se_tup ns (by show 2 ≤ sizeLine; decide +kernel) (sl2 (gt h1) (gt h2))))) fun _ => rfl
  | .attr c f a => fun X W sc e S h0 => by
    obtain ⟨⟨x, g⟩, v, ha⟩ := onS_ok h0
    obtain ⟨p, rfl⟩ := vAttr_ok v
    obtain ⟨h1, h2⟩ := ba ha
    obtain ⟨h2, h3⟩ := ba h2
    obtain ⟨h3, h4⟩ := ba h3
    have e1 : g = f := of_decide_eq_true h1
    subst e1
    obtain ⟨k1, k2⟩ := S.glob.ats (c, g) (by simpa using h2)
    exact both (se_attr S.ctx.kk k1 k2 (base_of h3) (sl1 (good_e a X W sc _ S h4).1)) fun _ => rfl
  | .dnew => fun X W sc e S h0 => by
    obtain ⟨p, rfl⟩ := vD0_ok h0
    exact both se_dnew fun _ => rfl
  | .d1 a b => fun X W sc e S h0 => by
    obtain ⟨⟨x, y⟩, v, ha⟩ := onS_ok h0
    obtain ⟨p, rfl⟩ := vD1_ok v
    obtain ⟨h1, h2⟩ := ba ha
    exact both (se_d1 (units65 S.ctx.room) S.ctx.kk S.ctx.kw (sl2 (good_e a X W sc _ S h1).1 (good_e b X W sc _ S h2).1)) fun _ => rfl
  | .get i a b => fun X W sc e S h0 => by
    obtain ⟨⟨o, m, xs⟩, v, ha⟩ := onS_ok h0
    obtain ⟨apos, cpos, rfl, hl⟩ := vMeth_ok v
    obtain ⟨h1, h2⟩ := ba ha
    obtain ⟨x, vx, h3⟩ := onS_ok h2
    obtain ⟨p, ex⟩ := vName_ok vx
    have ex : o = .Name x p := ex
    subst ex
    have em : m = "get" := of_decide_eq_true h1
    subst em
    obtain ⟨h3, h4⟩ := ba h3
    obtain ⟨h5, h6⟩ := ba h3
    obtain ⟨h6, h7⟩ := ba h6
    obtain ⟨⟨y, z⟩, vy, h8⟩ := onS_ok h4
    have exs := v2_ok vy
    have exs : xs = [y, z] := exs
    subst exs
    obtain ⟨h8, h9⟩ := ba h8
    obtain ⟨s1, s2⟩ := ba h8
    obtain ⟨h9, h10⟩ := ba h9
    obtain ⟨n1, n2, n3⟩ := okName_of h7
    have st : starEach [y, z] X.env = [(false, eval y X.env), (false, eval z X.env)] := by rw [starEach_of s1, starEach_of s2]; rfl
    exact both (se_get (units65 S.ctx.room) S.ctx.kk S.ctx.kw (by rw [S.N]; exact of_decide_eq_true h5) (S.vis h6) n1 n2 ⟨rfl, by rw [st]; rfl, hl, by rw [st]; rfl⟩ (sl2 (good_e a X W sc _ S h9).1 (good_e b X W sc _ S h10).1)) fun _ => rfl
  | .pop i => fun X W sc e S h0 => by
    obtain ⟨⟨o, m, xs⟩, v, ha⟩ := onS_ok h0
    obtain ⟨apos, cpos, rfl, hl⟩ := vMeth_ok v
    obtain ⟨h1, h2⟩ := ba ha
    obtain ⟨x, vx, h3⟩ := onS_ok h2
    obtain ⟨p, ex⟩ := vName_ok vx
    have ex : o = .Name x p := ex
    subst ex
    have em : m = "pop" := of_decide_eq_true h1
    subst em
    obtain ⟨h3, h4⟩ := ba h3
    obtain ⟨h5, h6⟩ := ba h3
    obtain ⟨h6, h7⟩ := ba h6
    have exs : xs = [] := List.isEmpty_iff.mp h4
    subst exs
    obtain ⟨n1, n2, n3⟩ := okName_of h7
    exact both (se_pop (by rw [S.N]; exact of_decide_eq_true h5) (S.vis h6) n1 n2 hl) fun _ => rfl
  | .lzip a b => fun X W sc e S h0 => by
    obtain ⟨xs, v, ha⟩ := onS_ok h0
    obtain ⟨p, p2, y, r, rfl, rfl, h1, h2, h3⟩ := vBlt_ok v
    obtain ⟨x, vx, hb⟩ := onS_ok ha
    have e0 := v1_ok vx
    cases e0
    obtain ⟨ys, vy, hc⟩ := onS_ok hb
    obtain ⟨p3, p4, y, r, rfl, rfl, h4, h5, h6⟩ := vBlt_ok vy
    obtain ⟨⟨x, z⟩, vz, hd⟩ := onS_ok hc
    have e1 := v2_ok vz
    cases e1
    obtain ⟨h7, h8⟩ := ba hd
    exact both (se_lzip (p3 := p3) S.ctx.calm S.ctx.kk (S.gl h2) (S.bl h1) (S.gl h5) (S.bl h4) h6 (sl2 (good_e a X W sc _ S h7).1 (good_e b X W sc _ S h8).1)) fun _ => rfl
  | .lc0 elt t it own => fun X W sc e S h0 => by
    obtain ⟨⟨x, tg, iter, ifs, scope⟩, v, ha⟩ := onS_ok h0
    obtain ⟨p, rfl⟩ := vLc_ok v
    obtain ⟨h1, h2⟩ := ba ha
    obtain ⟨h0, h1⟩ := ba h1
    obtain ⟨h3, h4⟩ := ba h1
    obtain ⟨h4, h5⟩ := ba h4
    obtain ⟨h6, h7⟩ := ba h2
    obtain ⟨h7, h8⟩ := ba h7
    have e0 : ifs = [] := List.isEmpty_iff.mp h0
    subst e0
    have L : LcOk X K T W x tg iter [] scope (ownOf P.N own) (evI K Γ it) t (evC (.bl true)) (ev K Γ elt) := lcok S h3 h4 h5 h6 (Nat.zero_le _) (good_i it X W sc tg iter (tgNT_loc h5) S h7) (fun s H C cl fp => sts_nil) fun s H C cl fp => (good_e elt _ _ _ _ (S.blk s H scope C cl fp) h8).1
    have q := se_lc (pos := p) L
    rw [ownOf_snd] at q
    exact both q fun _ => rfl
  | .lc1 elt t it cond own => fun X W sc e S h0 => by
    obtain ⟨⟨x, tg, iter, ifs, scope⟩, v, ha⟩ := onS_ok h0
    obtain ⟨p, rfl⟩ := vLc_ok v
    obtain ⟨y, v1', hb⟩ := onS_ok ha
    have e0 := v1_ok v1'
    obtain ⟨g1, g2⟩ := ba hb
    obtain ⟨h3, g4⟩ := ba g1
    obtain ⟨h4, h5⟩ := ba g4
    obtain ⟨h6, g7⟩ := ba g2
    obtain ⟨h7, g8⟩ := ba g7
    obtain ⟨h8, g9⟩ := ba g8
    obtain ⟨h9, h10⟩ := ba g9
    have e0 : ifs = [y] := e0
    subst e0
    have L : LcOk X K T W x tg iter [y] scope (ownOf P.N own) (evI K Γ it) t (ev K Γ cond) (ev K Γ elt) := lcok S h3 h4 h5 h6 (Nat.le_refl _) (good_i it X W sc tg iter (tgNT_loc h5) S h8) (fun s H C cl fp => sts_one ((good_e cond _ _ _ _ (S.blk s H scope C cl fp) h9).2 h7)) fun s H C cl fp => (good_e elt _ _ _ _ (S.blk s H scope C cl fp) h10).1
    have q := se_lc (pos := p) L
    rw [ownOf_snd] at q
    exact both q fun _ => rfl
  | .hl0 elt t i en own => fun X W sc e S h0 => by
    obtain ⟨⟨x, tg, iter, ifs, scope⟩, v, ha⟩ := onS_ok h0
    obtain ⟨p, rfl⟩ := vLc_ok v
    obtain ⟨h1, h2⟩ := ba ha
    obtain ⟨h0, h1⟩ := ba h1
    obtain ⟨h3, h4⟩ := ba h1
    obtain ⟨h4, h5⟩ := ba h4
    obtain ⟨h6, h7⟩ := ba h2
    obtain ⟨h7, h8⟩ := ba h7
    have e0 : ifs = [] := List.isEmpty_iff.mp h0
    subst e0
    have L : LcOk X K T W x tg iter [] scope (ownOf P.N own) (fun _ => .no) t (evC (.bl true)) (ev K Γ elt) := lcok S h3 h4 h5 h6 (Nat.zero_le _) si_no (fun s H C cl fp => sts_nil) fun s H C cl fp => (good_e elt _ _ _ _ (S.blk s H scope C cl fp) h8).1
    have q := se_hl (pos := p) L (good_h S h7)
    rw [ownOf_snd] at q
    exact both q fun _ => rfl
  | .hl1 elt t i en cond own => fun X W sc e S h0 => by
    obtain ⟨⟨x, tg, iter, ifs, scope⟩, v, ha⟩ := onS_ok h0
    obtain ⟨p, rfl⟩ := vLc_ok v
    obtain ⟨y, v1', hb⟩ := onS_ok ha
    have e0 := v1_ok v1'
    obtain ⟨g1, g2⟩ := ba hb
    obtain ⟨h3, g4⟩ := ba g1
    obtain ⟨h4, h5⟩ := ba g4
    obtain ⟨h6, g7⟩ := ba g2
    obtain ⟨h7, g8⟩ := ba g7
    obtain ⟨h8, g9⟩ := ba g8
    obtain ⟨h9, h10⟩ := ba g9
    have e0 : ifs = [y] := e0
    subst e0
    have L : LcOk X K T W x tg iter [y] scope (ownOf P.N own) (fun _ => .no) t (ev K Γ cond) (ev K Γ elt) := lcok S h3 h4 h5 h6 (Nat.le_refl _) si_no (fun s H C cl fp => sts_one ((good_e cond _ _ _ _ (S.blk s H scope C cl fp) h9).2 h7)) fun s H C cl fp => (good_e elt _ _ _ _ (S.blk s H scope C cl fp) h10).1
    have q := se_hl (pos := p) L (good_h S h8)
    rw [ownOf_snd] at q
    exact both q fun _ => rfl
theorem good_a : ∀ (c : Ca), GoodA K T k P Γ c
  | .nil => fun X W sc es S h => by
    have e0 : es = [] := List.isEmpty_iff.mp h
    subst e0
    exact ⟨sl_nil, fun _ z => by cases z⟩
  | .cons a r => fun X W sc es S h => by
    cases es with
    | nil => cases h
    | cons e es =>
      obtain ⟨h1, h2⟩ := ba (show (chE P sc a e && chA P sc r es) = true from h)
      have g := good_e a X W sc _ S h1
      obtain ⟨g1, g2⟩ := good_a r X W sc _ S h2
      refine ⟨sl_cons g.1 g1, fun hi _ pos => ?_⟩
      obtain ⟨i1, i2⟩ := ba (show (notIf e && es.all notIf) = true from hi)
      cases r with
      | nil =>
        have e0 : es = [] := List.isEmpty_iff.mp h2
        subst e0
        exact ⟨⟨se_and1 g.1, sw_and1 (g.2 i1)⟩, ⟨se_and1 g.1, sw_or1 (g.2 i1)⟩⟩
      | cons b r =>
        cases es with
        | nil => cases h2
        | cons e2 es =>
          obtain ⟨⟨k1, k2⟩, ⟨k3, k4⟩⟩ := g2 i2 rfl pos
          exact ⟨⟨se_and g.1 k1, sw_and (g.2 i1) k2⟩, ⟨se_or g.1 k3, sw_or (g.2 i1) k4⟩⟩
theorem good_i : ∀ (c : Ci), GoodI K T k P Γ c
  | .seq a => fun X W sc tg e nt S h => si_seq S.ctx.kk (good_e a X W sc _ S h).1
  | .rg1 a => fun X W sc tg e nt S h0 => by
    obtain ⟨xs, v, ha⟩ := onS_ok h0
    obtain ⟨p, p2, y, r, rfl, rfl, h1, h2, h3⟩ := vBlt_ok v
    obtain ⟨x, vx, hb⟩ := onS_ok ha
    have e0 := v1_ok vx
    cases e0
    exact si_rg1 (S.gl h2) (S.bl h1) h3 (sl1 (good_e a X W sc _ S hb).1)
  | .rg2 a b => fun X W sc tg e nt S h0 => by
    obtain ⟨xs, v, ha⟩ := onS_ok h0
    obtain ⟨p, p2, y, r, rfl, rfl, h1, h2, h3⟩ := vBlt_ok v
    obtain ⟨⟨x, z⟩, vx, hb⟩ := onS_ok ha
    have e0 := v2_ok vx
    cases e0
    obtain ⟨h4, h5⟩ := ba hb
    exact si_rg2 (S.gl h2) (S.bl h1) h3 (sl2 (good_e a X W sc _ S h4).1 (good_e b X W sc _ S h5).1)
  | .zip tq a b => fun X W sc tg e nt S h0 => by
    obtain ⟨ht, hz⟩ := ba h0
    obtain ⟨xs, v, ha⟩ := onS_ok hz
    obtain ⟨p, p2, y, r, rfl, rfl, h1, h2, h3⟩ := vBlt_ok v
    obtain ⟨⟨x, z⟩, vx, hb⟩ := onS_ok ha
    have e0 := v2_ok vx
    cases e0
    obtain ⟨h4, h5⟩ := ba hb
    have sl := sl2 (good_e a X W sc _ S h4).1 (good_e b X W sc _ S h5).1
    have et : tq = isTup tg := by simpa using ht
    subst et
    cases tg with
    | Tuple es kk tp => exact si_zipT S.ctx.kk (S.gl h2) (S.bl h1) h3 sl
    | Name x0 tp => exact si_zipN S.ctx.kk (S.gl h2) (S.bl h1) h3 sl
    | _ => cases nt
  | .enum a => fun X W sc tg e nt S h0 => by
    obtain ⟨ht, hz⟩ := ba h0
    obtain ⟨xs, v, ha⟩ := onS_ok hz
    obtain ⟨p, p2, y, r, rfl, rfl, h1, h2, h3⟩ := vBlt_ok v
    obtain ⟨x, vx, hb⟩ := onS_ok ha
    have e0 := v1_ok vx
    cases e0
    cases tg <;> first | (cases ht; done) | skip
    exact si_enum S.ctx.kk (S.gl h2) (S.bl h1) h3 (good_e a X W sc _ S hb).1
end
end
end BF
set_option Elab.async false
set_option linter.all false
set_option autoImplicit false
set_option maxRecDepth 100000
set_option maxHeartbeats 4000000
namespace BF
open PySem PySem.Spec PyProof.Rows L2
def isComp : Expr → Bool
  | .ListComp _ _ _ _ => true
  | .SetComp _ _ _ _ => true
  | .DictComp _ _ _ _ _ => true
  | _ => false
theorem sw_off {e : Expr} {t : Option Expr} {l : Nat} {env : Env} (h : isComp e = false) : swapsWith e t l env = pure false := by
  cases e <;> first | rfl | cases h
def swLc (sc : Scope) (y : Str) (py : Pos) : Expr → Option Bool
  | .ListComp _ _ s p => some ((sc.names.lookup y == some .local) && ((py.line == p.line) && !(s.names.any fun (n, k) => n == y && (k == .local || k == .cell))))
  | .SetComp _ _ _ _ => none
  | .DictComp _ _ _ _ _ => none
  | _ => some false
theorem fnK {env : Env} (hk : env.scope.kind = .function) : env.blockKind = .function := by unfold Env.blockKind; rw [hk]; rfl
theorem swLc_ok {e : Expr} {y : Str} {py : Pos} {l : Nat} {env : Env} {b : Bool} (hk : env.scope.kind = .function) (h : swLc env.scope y py e = some b) : swapsWith e (some (.Name y py)) l env = pure b := by
  by_cases c : isComp e = true
  · cases e <;> first | (cases c; done) | skip
    · have h : some ((env.scope.names.lookup y == some .local) && ((py.line == _) && _)) = some b := h
      cases h
      unfold swapsWith
      have hb := fnK hk
      have e2 : env.kindOf y = env.scope.names.lookup y := rfl
      simp only [hb, e2, Expr.pos]
      simp only [Bool.and_assoc, beq_self_eq_true, Bool.true_and]
    · cases h
    · cases h
  · have c : isComp e = false := by simpa using c
    rw [sw_off c]
    cases e <;> first | (cases c; done) | (cases h; rfl)
/-- which stores are swapped -/
def swB (sc : Scope) (ts vs : List Expr) : Option (Option (List Str)) :=
  if !(ts.length == 2 || ts.length == 3) || vs.length != ts.length || false then some none
  else if vs.any (fun | .Starred .. => true | _ => false) then some none
  else
    let line := (ts.head?.map (·.pos.line)).getD 0
    let names := ts.filterMap fun
      | .Name id pos => if sc.names.lookup id == some .local && pos.line == line then some id else none
      | _ => none
    if names.length != ts.length || names.eraseDups.length != names.length then some none
    else if vs.all (foldedForSure 8) then some none
    else if vs.all (constantsAlone 8) then none
    else some (some names)
theorem swB_ok {ts vs : List Expr} {env : Env} {kt k2 : Nat} {p2 p3 : Pos} {r : Option (List Str)} (hk : env.scope.kind = .function) (h : swB env.scope ts vs = some r) : swappedStores [.Tuple ts kt p2] (.Tuple vs k2 p3) env = pure r := by
  have hb : (env.blockKind != .function) = false := by rw [fnK hk]; rfl
  unfold swB at h
  unfold swappedStores
  simp only [hb]
  split at h
  · rename_i c; cases h; rw [if_pos c]
  · rename_i c
    rw [if_neg c]
    split at h
    · rename_i c; cases h; exact if_pos c
    · rename_i c
      refine Eq.trans (if_neg c) ?_
      simp only [] at h
      split at h
      · rename_i c; cases h; exact if_pos c
      · rename_i c
        refine Eq.trans (if_neg c) ?_
        split at h
        · rename_i c; cases h; exact if_pos c
        · rename_i c
          refine Eq.trans (if_neg c) ?_
          split at h
          · cases h
          · rename_i c
            cases h
            refine Eq.trans (if_neg c) ?_
            rfl
/-! ## statements -/
def vAsg : Stmt → Option (Str × Pos × Expr)
  | .Assign [.Name x p] e _ => some (x, p, e)
  | _ => none
theorem vAsg_ok {s : Stmt} {x : Str} {p : Pos} {e : Expr} (h : vAsg s = some (x, p, e)) : ∃ p2, s = .Assign [.Name x p] e p2 := by
  unfold vAsg at h; split at h <;> first | (cases h; exact ⟨_, rfl⟩) | cases h
def vPar : Stmt → Option (List Expr × Nat × Pos × List Expr)
  | .Assign [.Tuple ts kt p] (.Tuple vs _ _) _ => some (ts, kt, p, vs)
  | _ => none
theorem vPar_ok {s : Stmt} {ts vs : List Expr} {kt : Nat} {p : Pos} (h : vPar s = some (ts, kt, p, vs)) : ∃ k2 p2 p3, s = .Assign [.Tuple ts kt p] (.Tuple vs k2 p2) p3 := by
  unfold vPar at h; split at h <;> first | (cases h; exact ⟨_, _, _, rfl⟩) | cases h
def vUnp : Stmt → Option (List Expr × Nat × Pos × Expr)
  | .Assign [.Tuple ts kt p] e _ => some (ts, kt, p, e)
  | _ => none
theorem vUnp_ok {s : Stmt} {ts : List Expr} {e : Expr} {kt : Nat} {p : Pos} (h : vUnp s = some (ts, kt, p, e)) : ∃ p3, s = .Assign [.Tuple ts kt p] e p3 := by
  unfold vUnp at h; split at h <;> first | (cases h; exact ⟨_, rfl⟩) | cases h
def vRet : Stmt → Option Expr
  | .Return (some e) _ => some e
  | _ => none
theorem vRet_ok {s : Stmt} {e : Expr} (h : vRet s = some e) : ∃ p, s = .Return (some e) p := by
  unfold vRet at h; split at h <;> first | (cases h; exact ⟨_, rfl⟩) | cases h
def vExp : Stmt → Option Expr
  | .Expr e _ => some e
  | _ => none
theorem vExp_ok {s : Stmt} {e : Expr} (h : vExp s = some e) : ∃ p, s = .Expr e p := by
  unfold vExp at h; split at h <;> first | (cases h; exact ⟨_, rfl⟩) | cases h
def vApp : Stmt → Option (Str × Expr)
  | .Expr (.Call (.Attribute (.Name x _) m ap) [e] [] cp) _ => if decide (m = "append") && (noStar e && (ap.endLine == cp.line)) then some (x, e) else none
  | _ => none
theorem vApp_ok {s : Stmt} {x : Str} {e : Expr} (h : vApp s = some (x, e)) : ∃ p1 ap cp p, s = .Expr (.Call (.Attribute (.Name x p1) "append" ap) [e] [] cp) p ∧ noStar e = true ∧ (ap.endLine == cp.line) = true := by
  unfold vApp at h
  split at h
  · split at h
    · rename_i c
      cases h
      obtain ⟨c1, c2⟩ := ba c
      obtain ⟨c2, c3⟩ := ba c2
      cases (of_decide_eq_true c1)
      exact ⟨_, _, _, _, rfl, c2, c3⟩
    · cases h
  · cases h
def vSto : Stmt → Option (Str × Expr × Expr)
  | .Assign [.Subscript (.Name x _) k _] e _ => some (x, k, e)
  | _ => none
theorem vSto_ok {s : Stmt} {x : Str} {k e : Expr} (h : vSto s = some (x, k, e)) : ∃ p1 p2 p, s = .Assign [.Subscript (.Name x p1) k p2] e p := by
  unfold vSto at h; split at h <;> first | (cases h; exact ⟨_, _, _, rfl⟩) | cases h
def vAug : Bool → Stmt → Option (Str × Expr)
  | false, .AugAssign (.Name x _) .Add e _ => some (x, e)
  | true, .AugAssign (.Name x _) .Sub e _ => some (x, e)
  | _, _ => none
theorem vAug_ok {q : Bool} {s : Stmt} {x : Str} {e : Expr} (h : vAug q s = some (x, e)) : ∃ p1 p, s = .AugAssign (.Name x p1) (if q = true then .Sub else .Add) e p := by
  unfold vAug at h; split at h <;> first | (cases h; exact ⟨_, _, rfl⟩) | cases h
def vAugS : Stmt → Option (Str × Expr × Expr)
  | .AugAssign (.Subscript (.Name x _) k _) .Add e _ => some (x, k, e)
  | _ => none
theorem vAugS_ok {s : Stmt} {x : Str} {k e : Expr} (h : vAugS s = some (x, k, e)) : ∃ p1 p2 p, s = .AugAssign (.Subscript (.Name x p1) k p2) .Add e p := by
  unfold vAugS at h; split at h <;> first | (cases h; exact ⟨_, _, _, rfl⟩) | cases h
def vIfS : Stmt → Option (Expr × List Stmt × List Stmt)
  | .If c a b _ => some (c, a, b)
  | _ => none
theorem vIfS_ok {s : Stmt} {c : Expr} {a b : List Stmt} (h : vIfS s = some (c, a, b)) : ∃ p, s = .If c a b p := by
  unfold vIfS at h; split at h <;> first | (cases h; exact ⟨_, rfl⟩) | cases h
def vFor : Stmt → Option (Expr × Expr × List Stmt)
  | .For t i b [] _ => some (t, i, b)
  | _ => none
theorem vFor_ok {s : Stmt} {t i : Expr} {b : List Stmt} (h : vFor s = some (t, i, b)) : ∃ p, s = .For t i b [] p := by
  unfold vFor at h; split at h <;> first | (cases h; exact ⟨_, rfl⟩) | cases h
def vWh : Stmt → Option (Expr × List Stmt)
  | .While c b [] _ => some (c, b)
  | _ => none
theorem vWh_ok {s : Stmt} {c : Expr} {b : List Stmt} (h : vWh s = some (c, b)) : ∃ p, s = .While c b [] p := by
  unfold vWh at h; split at h <;> first | (cases h; exact ⟨_, rfl⟩) | cases h
/-- [{}] -/
def isLD : Expr → Bool
  | .List [.Dict [] [] _] _ => true
  | _ => false
theorem isLD_ok {e : Expr} (h : isLD e = true) : ∃ pd pl, e = .List [.Dict [] [] pd] pl := by
  unfold isLD at h; split at h <;> first | exact ⟨_, _, rfl⟩ | cases h
/-- x[0][k] = e -/
def vNs : Stmt → Option (Expr × Expr × Expr)
  | .Assign [.Subscript o k _] e _ => some (o, k, e)
  | _ => none
theorem vNs_ok {s : Stmt} {o k e : Expr} (h : vNs s = some (o, k, e)) : ∃ p6 p7, s = .Assign [.Subscript o k p6] e p7 := by
  unfold vNs at h; split at h <;> first | (cases h; exact ⟨_, _, rfl⟩) | cases h
def vN0 : Expr → Option (Str × Int)
  | .Subscript (.Name y _) (.Constant (.int z) _ _) _ => some (y, z)
  | _ => none
theorem vN0_ok {o : Expr} {y : Str} {z : Int} (h : vN0 o = some (y, z)) : ∃ p4 kz pz p5, o = .Subscript (.Name y p4) (.Constant (.int z) kz pz) p5 := by
  unfold vN0 at h; split at h <;> first | (cases h; exact ⟨_, _, _, _, rfl⟩) | cases h
def vS1 : List Stmt → Option Stmt
  | [s] => some s
  | _ => none
theorem vS1_ok {l : List Stmt} {s : Stmt} (h : vS1 l = some s) : l = [s] := by
  unfold vS1 at h; split at h <;> first | (cases h; rfl) | cases h
def isPass : Stmt → Bool
  | .Pass _ => true
  | _ => false
def isBrk : Stmt → Bool
  | .Break _ => true
  | _ => false
def isCnt : Stmt → Bool
  | .Continue _ => true
  | _ => false
def isRetN : Stmt → Bool
  | .Return none _ => true
  | _ => false
def locC (sc : Scope) (x : Str) : Bool := match sc.names.lookup x with
  | some .local => true
  | some .cell => true
  | _ => false
def isLcC : Ce → Bool
  | .lc0 _ _ _ _ => true
  | .lc1 _ _ _ _ _ => true
  | .hl0 _ _ _ _ _ => true
  | .hl1 _ _ _ _ _ _ => true
  | _ => false
def noTupE : Expr → Bool
  | .Tuple _ _ _ => false
  | .ListComp _ _ _ _ => false
  | .SetComp _ _ _ _ => false
  | .DictComp _ _ _ _ _ => false
  | _ => true
def noComp3 : Expr → Bool
  | .ListComp _ _ _ _ => false
  | .SetComp _ _ _ _ => false
  | .DictComp _ _ _ _ _ => false
  | .Slice _ _ _ _ => false
  | _ => true
mutual
def chS (P : Pm) (sc : Scope) : Cs → Stmt → Bool
  | .nil, _ => false
  | .cons _ _, _ => false
  | .nst _ _ _ _ _ _, _ => false
  | .pass, s => isPass s
  | .brk, s => isBrk s
  | .retN, s => isRetN s
  | .ret e, s => onS (vRet s) fun x => chE P sc e x
  | .expr e, s => onS (vExp s) fun x => !isComp x && chE P sc e x
  | .asg i e, s => onS (vAsg s) fun q => (decide (P.N[i]? = some q.1) && locC sc q.1) && (chE P sc e q.2.2 && (match swLc sc q.1 q.2.1 q.2.2 with
    | some false => true
    | some true => isLcC e
    | none => false))
  | .par ix es, s => onS (vPar s) fun q => (tgOk P.N sc (.tp ix) (.Tuple q.1 q.2.1 q.2.2.1) && (q.2.2.2.all noStar && (decide (q.2.2.2.length ≤ 1000) && chA P sc es q.2.2.2))) && (match swB sc q.1 q.2.2.2 with
    | some none => true
    | some (some ns) => tgLoc P.N sc (.tp ix) (.Tuple q.1 q.2.1 q.2.2.1) && (decide ix.Nodup && (decide (q.2.2.2.length = ix.length) && (decide (ix.length = 2 ∨ ix.length = 3) && decide (ns = ix.map fun i => P.N.getD i ""))))
    | none => false)
  | .unp t e, s => onS (vUnp s) fun q => tgOk P.N sc t (.Tuple q.1 q.2.1 q.2.2.1) && (noTupE q.2.2.2 && chE P sc e q.2.2.2)
  | .app i e, s => onS (vApp s) fun q => (decide (P.N[i]? = some q.1) && (isVis sc q.1 && okName q.1)) && chE P sc e q.2
  | .store i k e, s => onS (vSto s) fun q => (decide (P.N[i]? = some q.1) && (isVis sc q.1 && okName q.1)) && ((!isComp q.2.2 && noSlice q.2.1) && (chE P sc k q.2.1 && chE P sc e q.2.2))
  | .augs i k e, s => onS (vAugS s) fun q => (decide (P.N[i]? = some q.1) && (isVis sc q.1 && okName q.1)) && (noSlice q.2.1 && (chE P sc k q.2.1 && chE P sc e q.2.2))
  | .aug b i e, s => onS (vAug b s) fun q => (decide (P.N[i]? = some q.1) && locC sc q.1) && chE P sc e q.2
  | .ife c a b, s => onS (vIfS s) fun q => (notIf q.1 && chE P sc c q.1) && (chB P sc a q.2.1 && chB P sc b q.2.2)
  | .for_ t it b, s => onS (vFor s) fun q => (tgOk P.N sc t q.1 && (notSet q.2.1 && chI P sc it (isTup q.1) q.2.1)) && chB P sc b q.2.2
  | .whl _ c b, s => onS (vWh s) fun q => (notIf q.1 && chE P sc c q.1) && chB P sc b q.2
  | .raise _ _ _, _ => false
  | .stuck, _ => true
def chB (P : Pm) (sc : Scope) : Cs → List Stmt → Bool
  | .nil, b => b.isEmpty
  | .cons s r, b => (match b with
    | [] => false
    | st :: sts => chS P sc s st && chB P sc r sts)
  | .nst i t it k e r, b => (match b with
    | s1 :: s2 :: sts => (onS (vAsg s1) fun q => (decide (P.N[i]? = some q.1) && (locC sc q.1 && (isVis sc q.1 && okName q.1))) && (isLD q.2.2 && onS (vFor s2) fun f => (tgOk P.N sc t f.1 && (notSet f.2.1 && chI P sc it (isTup f.1) f.2.1)) && onS (vS1 f.2.2) fun b1 => onS (vNs b1) fun w => onS (vN0 w.1) fun z => (decide (z.1 = q.1) && decide (z.2 = 0)) && ((!isComp w.2.2 && noSlice w.2.1) && (chE P sc k w.2.1 && chE P sc e w.2.2)))) && chB P sc r sts
    | _ => false)
  | _, _ => false
end
end BF
set_option Elab.async false
set_option linter.all false
set_option autoImplicit false
set_option maxRecDepth 100000
set_option maxHeartbeats 4000000
namespace BF
open PySem PySem.Spec PyProof.Rows L2
section
variable {G : Type} {X : Cx} {K : Env1} {T : Gt G} {W : WX1} {k : Nat} {P : Pm} {Γ : Gam G} {sc : Scope}
/-- in a def's body -/
structure SndF (X : Cx) (K : Env1) (T : Gt G) (W : WX1) (k : Nat) (P : Pm) (Γ : Gam G) (sc : Scope) : Prop where
  toSnd : Snd X K T W k P Γ sc
  fn : ∀ x, X.fn x = true
  kind : X.env.scope.kind = .function
theorem good_lc {c : Ce} {elt : Expr} {gs : List Comprehension} {scope : Scope} {pos : Pos} (S : Snd X K T W k P Γ sc) (hl : isLcC c = true) (h0 : chE P sc c (.ListComp elt gs scope pos) = true) :
    ∃ tg iter ifs own fi t ft fe, gs = [⟨tg, iter, ifs, 0⟩] ∧ LcOk X K T W elt tg iter ifs scope own fi t ft fe ∧ LcCore X K T W elt tg iter ifs scope own t (ev K Γ c) := by
  cases c <;> first | (cases hl; done) | skip
  · rename_i ce t it own
    obtain ⟨⟨x, tg, iter, ifs, scope'⟩, v, ha⟩ := onS_ok h0
    obtain ⟨p, ee⟩ := vLc_ok v
    cases ee
    obtain ⟨g1, g2⟩ := ba ha
    obtain ⟨i0, g3⟩ := ba g1
    obtain ⟨h3, g4⟩ := ba g3
    obtain ⟨h4, h5⟩ := ba g4
    obtain ⟨h6, g7⟩ := ba g2
    obtain ⟨h7, h8⟩ := ba g7
    have e0 : ifs = [] := List.isEmpty_iff.mp i0
    subst e0
    have L : LcOk X K T W elt tg iter [] scope (ownOf P.N own) (evI K Γ it) t (evC (.bl true)) (ev K Γ ce) := lcok S h3 h4 h5 h6 (Nat.zero_le _) (good_i it X W sc tg iter (tgNT_loc h5) S h7) (fun s H C cl fp => sts_nil) fun s H C cl fp => (good_e ce _ _ _ _ (S.blk s H scope C cl fp) h8).1
    exact ⟨tg, iter, [], ownOf P.N own, _, t, _, _, rfl, L, by have q := L.core'; rw [ownOf_snd] at q; exact q⟩
  · rename_i ce t it cond own
    obtain ⟨⟨x, tg, iter, ifs, scope'⟩, v, ha⟩ := onS_ok h0
    obtain ⟨p, ee⟩ := vLc_ok v
    cases ee
    obtain ⟨y, v1', hb⟩ := onS_ok ha
    have e0 : ifs = [y] := v1_ok v1'
    obtain ⟨g1, g2⟩ := ba hb
    obtain ⟨h3, g4⟩ := ba g1
    obtain ⟨h4, h5⟩ := ba g4
    obtain ⟨h6, g7⟩ := ba g2
    obtain ⟨h7, g8⟩ := ba g7
    obtain ⟨h8, g9⟩ := ba g8
    obtain ⟨h9, h10⟩ := ba g9
    subst e0
    have L : LcOk X K T W elt tg iter [y] scope (ownOf P.N own) (evI K Γ it) t (ev K Γ cond) (ev K Γ ce) := lcok S h3 h4 h5 h6 (Nat.le_refl _) (good_i it X W sc tg iter (tgNT_loc h5) S h8) (fun s H C cl fp => sts_one ((good_e cond _ _ _ _ (S.blk s H scope C cl fp) h9).2 h7)) fun s H C cl fp => (good_e ce _ _ _ _ (S.blk s H scope C cl fp) h10).1
    exact ⟨tg, iter, [y], ownOf P.N own, _, t, _, _, rfl, L, by have q := L.core'; rw [ownOf_snd] at q; exact q⟩
  · rename_i ce t i en own
    obtain ⟨⟨x, tg, iter, ifs, scope'⟩, v, ha⟩ := onS_ok h0
    obtain ⟨p, ee⟩ := vLc_ok v
    cases ee
    obtain ⟨g1, g2⟩ := ba ha
    obtain ⟨i0, g3⟩ := ba g1
    obtain ⟨h3, g4⟩ := ba g3
    obtain ⟨h4, h5⟩ := ba g4
    obtain ⟨h6, g7⟩ := ba g2
    obtain ⟨h7, h8⟩ := ba g7
    have e0 : ifs = [] := List.isEmpty_iff.mp i0
    subst e0
    have L : LcOk X K T W elt tg iter [] scope (ownOf P.N own) (fun _ => .no) t (evC (.bl true)) (ev K Γ ce) := lcok S h3 h4 h5 h6 (Nat.zero_le _) si_no (fun s H C cl fp => sts_nil) fun s H C cl fp => (good_e ce _ _ _ _ (S.blk s H scope C cl fp) h8).1
    exact ⟨tg, iter, [], ownOf P.N own, _, t, _, _, rfl, L, by have q := L.hcore (good_h S h7); rw [ownOf_snd] at q; exact q⟩
  · rename_i ce t i en cond own
    obtain ⟨⟨x, tg, iter, ifs, scope'⟩, v, ha⟩ := onS_ok h0
    obtain ⟨p, ee⟩ := vLc_ok v
    cases ee
    obtain ⟨y, v1', hb⟩ := onS_ok ha
    have e0 : ifs = [y] := v1_ok v1'
    obtain ⟨g1, g2⟩ := ba hb
    obtain ⟨h3, g4⟩ := ba g1
    obtain ⟨h4, h5⟩ := ba g4
    obtain ⟨h6, g7⟩ := ba g2
    obtain ⟨h7, g8⟩ := ba g7
    obtain ⟨h8, g9⟩ := ba g8
    obtain ⟨h9, h10⟩ := ba g9
    subst e0
    have L : LcOk X K T W elt tg iter [y] scope (ownOf P.N own) (fun _ => .no) t (ev K Γ cond) (ev K Γ ce) := lcok S h3 h4 h5 h6 (Nat.le_refl _) si_no (fun s H C cl fp => sts_one ((good_e cond _ _ _ _ (S.blk s H scope C cl fp) h9).2 h7)) fun s H C cl fp => (good_e ce _ _ _ _ (S.blk s H scope C cl fp) h10).1
    exact ⟨tg, iter, [y], ownOf P.N own, _, t, _, _, rfl, L, by have q := L.hcore (good_h S h8); rw [ownOf_snd] at q; exact q⟩
theorem locC_ok {x : Str} (h : locC sc x = true) : Loc sc x := by
  unfold locC at h
  split at h
  · rename_i e; exact .inl e
  · rename_i e; exact .inr e
  · cases h
theorem go_get {N : List Str} : ∀ {ix : List Nat} {es : List Expr}, tgLoc.go N sc ix es = true → ∀ (n : Nat) i e, ix[n]? = some i → es[n]? = some e → ∃ x p, e = .Name x p ∧ N[i]? = some x ∧ sc.names.lookup x = some .local := by
  intro ix
  induction ix with
  | nil => intro es h n i e h1; cases h1
  | cons i ix ih =>
    intro es h n
    cases es with
    | nil => cases h
    | cons e es =>
      cases e with
      | Name x p =>
        obtain ⟨h1, h2⟩ := ba (show ((decide (N[i]? = some x) && decide (sc.names.lookup x = some .local)) && tgLoc.go N sc ix es) = true from h)
        obtain ⟨h3, h4⟩ := ba h1
        cases n with
        | zero => intro j e q1 q2; cases q1; cases q2; exact ⟨x, p, rfl, of_decide_eq_true h3, of_decide_eq_true h4⟩
        | succ n => exact ih h2 n
      | _ => cases h
theorem go_len {N : List Str} : ∀ {ix : List Nat} {es : List Expr}, tgLoc.go N sc ix es = true → ix.length = es.length := by
  intro ix
  induction ix with
  | nil =>
    intro es h
    cases es with
    | nil => rfl
    | cons e es => cases e <;> cases h
  | cons i ix ih =>
    intro es h
    cases es with
    | nil => cases h
    | cons e es =>
      cases e with
      | Name x p =>
        obtain ⟨h1, h2⟩ := ba (show ((decide (N[i]? = some x) && decide (sc.names.lookup x = some .local)) && tgLoc.go N sc ix es) = true from h)
        simp [ih h2]
      | _ => cases h
def GoodS (K : Env1) (T : Gt G) (k : Nat) (P : Pm) (Γ : Gam G) (c : Cs) : Prop := ∀ (X : Cx) (W : WX1) (sc : Scope) (st : Stmt), SndF X K T W k P Γ sc → chS P sc c st = true → SS X K T W st (ex K Γ c)
def GoodB (K : Env1) (T : Gt G) (k : Nat) (P : Pm) (Γ : Gam G) (c : Cs) : Prop := ∀ (X : Cx) (W : WX1) (sc : Scope) (st : List Stmt), SndF X K T W k P Γ sc → chB P sc c st = true → SB X K T W st (ex K Γ c)
theorem good_par {ix : List Nat} {es : Ca} {st : Stmt} (S : SndF X K T W k P Γ sc) (h0 : chS P sc (.par ix es) st = true) : SS X K T W st (ex K Γ (.par ix es)) := by
  obtain ⟨⟨ts, kt, p, vs⟩, v, ha⟩ := onS_ok h0
  obtain ⟨k2, p2, p3, rfl⟩ := vPar_ok v
  obtain ⟨g1, g2⟩ := ba ha
  obtain ⟨h1, g3⟩ := ba g1
  obtain ⟨h2, g4⟩ := ba g3
  obtain ⟨h3, h4⟩ := ba g4
  have sl := (good_a es X W sc _ S.toSnd h4).1
  have hz : vs.length ≤ sizeLine := by
    have h3 : vs.length ≤ 1000 := of_decide_eq_true h3
    rw [sizeLine_eq]; omega
  simp only [] at g2 sl h1 h2
  cases q : swB sc ts vs with
  | none => rw [q] at g2; cases g2
  | some r =>
    rw [q] at g2
    have hw := fun k3 p4 p5 => swB_ok (kt := kt) (k2 := k3) (p2 := p4) (p3 := p5) S.kind (by rw [S.toSnd.scope]; exact q)
    cases r with
    | none =>
      exact ss_parT h2 hz (tg_pg S.toSnd.ctx.calm S.toSnd.ctx.nd (fun x _ => .inl (S.fn x)) (by rw [S.toSnd.N, S.toSnd.scope]; exact h1)) (hw _ _ _) sl
    | some ns =>
      obtain ⟨i1, g5⟩ := ba g2
      obtain ⟨i2, g6⟩ := ba g5
      obtain ⟨i3, g7⟩ := ba g6
      obtain ⟨i4, i5⟩ := ba g7
      have i2 := of_decide_eq_true i2
      have i3 := of_decide_eq_true i3
      have i4 := of_decide_eq_true i4
      have i5 := of_decide_eq_true i5
      have i1 : tgLoc.go P.N sc ix ts = true := i1
      have len := go_len i1
      subst i5
      have gd : ∀ {i : Nat} {x : Str}, P.N[i]? = some x → P.N.getD i "" = x := fun {i x} h => by rw [List.getD_eq_getElem?_getD, h]; rfl
      rcases i4 with i4 | i4
      · match ix, ts, vs, i4, i3, len, i1, i2 with
        | [i, j], [t1, t2], [a, b], _, _, _, i1, i2 =>
          obtain ⟨x, px, rfl, nx, lx⟩ := go_get i1 0 i t1 rfl rfl
          obtain ⟨y, py, rfl, ny, ly⟩ := go_get i1 1 j t2 rfl rfl
          have hij : i ≠ j := by simp at i2; exact i2
          rw [← S.toSnd.N] at nx ny
          rw [← S.toSnd.scope] at lx ly
          refine ss_par2 S.toSnd.ctx.calm S.toSnd.ctx.nd nx ny hij lx ly h2 ?_ sl
          rw [hw]
          rw [S.toSnd.N] at nx ny
          simp only [List.map_cons, List.map_nil, gd nx, gd ny]
      · match ix, ts, vs, i4, i3, len, i1, i2 with
        | [i, j, l], [t1, t2, t3], [a, b, c], _, _, _, i1, i2 =>
          obtain ⟨x, px, rfl, nx, lx⟩ := go_get i1 0 i t1 rfl rfl
          obtain ⟨y, py, rfl, ny, ly⟩ := go_get i1 1 j t2 rfl rfl
          obtain ⟨z, pz, rfl, nz, lz⟩ := go_get i1 2 l t3 rfl rfl
          have hij : i ≠ j ∧ i ≠ l ∧ j ≠ l := by simp at i2; exact ⟨i2.1.1, i2.1.2, i2.2⟩
          rw [← S.toSnd.N] at nx ny nz
          rw [← S.toSnd.scope] at lx ly lz
          refine ss_par3 S.toSnd.ctx.calm S.toSnd.ctx.nd nx ny nz hij.1 hij.2.1 hij.2.2 lx ly lz h2 ?_ sl
          rw [hw]
          rw [S.toSnd.N] at nx ny nz
          simp only [List.map_cons, List.map_nil, gd nx, gd ny, gd nz]
theorem augst_of {i : Expr} (h : noSlice i = true) : ∀ ov iv new, augStore i ov iv new = (do holding [new, ov, iv] (setItem ov iv new); release [new, ov, iv] []; pure .next) := by
  intro ov iv new
  cases i <;> first | rfl | cases h
theorem ass_sub2 {o : Expr} {p2 : Pos} {i : Expr} {env : Env} (h : noSlice i = true) : ∀ v, assign (.Subscript o i p2) env v = (do
      let ov ← holding [v] (eval o env)
      let iv ← holding [v, ov] (eval i env)
      standAt p2
      holding [v, ov, iv] (setItem ov iv v)
      release [v, ov, iv] []) := by
  intro v
  cases i <;> first | rfl | cases h
theorem ass_sub {x : Str} {p1 p2 : Pos} {i : Expr} {env : Env} (h : noSlice i = true) : ∀ v, assign (.Subscript (.Name x p1) i p2) env v = (do
      let ov ← holding [v] (eval (.Name x p1) env)
      let iv ← holding [v, ov] (eval i env)
      standAt p2
      holding [v, ov, iv] (setItem ov iv v)
      release [v, ov, iv] []) := by
  intro v
  cases i <;> first | rfl | cases h
mutual
theorem good_s : ∀ (c : Cs), GoodS K T k P Γ c
  | .nil => fun X W sc st S h0 => by cases h0
  | .cons _ _ => fun X W sc st S h0 => by cases h0
  | .nst _ _ _ _ _ _ => fun X W sc st S h0 => by cases h0
  | .pass => fun X W sc st S h0 => by
    have h0 : isPass st = true := h0
    cases st <;> first | (cases h0; done) | exact ss_pass
  | .brk => fun X W sc st S h0 => by
    have h0 : isBrk st = true := h0
    cases st <;> first | (cases h0; done) | exact ss_break
  | .retN => fun X W sc st S h0 => by
    have h0 : isRetN st = true := h0
    cases st with
    | Return o p =>
      cases o with
      | none => exact ss_retN
      | some e => cases h0
    | _ => cases h0
  | .ret e => fun X W sc st S h0 => by
    obtain ⟨x, v, ha⟩ := onS_ok h0
    obtain ⟨p, rfl⟩ := vRet_ok v
    exact ss_ret (good_e e X W sc _ S.toSnd ha).1
  | .expr e => fun X W sc st S h0 => by
    obtain ⟨x, v, ha⟩ := onS_ok h0
    obtain ⟨p, rfl⟩ := vExp_ok v
    obtain ⟨h1, h2⟩ := ba ha
    exact ss_expr (sw_off (by simpa using h1)) (good_e e X W sc _ S.toSnd h2).1
  | .asg i e => fun X W sc st S h0 => by
    obtain ⟨⟨x, p1, b⟩, v, ha⟩ := onS_ok h0
    obtain ⟨p, rfl⟩ := vAsg_ok v
    obtain ⟨g1, g2⟩ := ba ha
    obtain ⟨h1, h2⟩ := ba g1
    obtain ⟨h3, h4⟩ := ba g2
    have hi : X.N[i]? = some x := by rw [S.toSnd.N]; exact of_decide_eq_true h1
    have hx : Loc X.env.scope x := by rw [S.toSnd.scope]; exact locC_ok h2
    simp only [] at h4
    cases q : swLc sc x p1 b with
    | none => rw [q] at h4; cases h4
    | some r =>
      rw [q] at h4
      have q' : swLc X.env.scope x p1 b = some r := by rw [S.toSnd.scope]; exact q
      cases r with
      | false => exact ss_asg S.toSnd.ctx.nd hi hx (.inl (S.fn x)) (swLc_ok S.kind q') (good_e e X W sc _ S.toSnd h3).1
      | true =>
        cases b <;> first | (cases q; done) | skip
        rename_i elt gs scope pos
        have hl : X.env.scope.names.lookup x = some .local := by
          have q : some ((sc.names.lookup x == some .local) && _) = some true := q
          injection q with q
          obtain ⟨q1, _⟩ := ba q
          rw [S.toSnd.scope]
          exact eq_of_beq q1
        obtain ⟨tg, iter, ifs, own, fi, t, ft, fe, rfl, L, ee⟩ := good_lc S.toSnd h4 h3
        exact ss_asgLc hi hl (swLc_ok S.kind q') L ee
  | .par ix es => fun X W sc st S h0 => good_par S h0
  | .unp t e => fun X W sc st S h0 => by
    obtain ⟨⟨ts, kt, p1, b⟩, v, ha⟩ := onS_ok h0
    obtain ⟨p, rfl⟩ := vUnp_ok v
    obtain ⟨h1, g2⟩ := ba ha
    obtain ⟨h2, h3⟩ := ba g2
    have hg : PG X (.Tuple ts kt p1) (gOf X.K t) := tg_pg S.toSnd.ctx.calm S.toSnd.ctx.nd (fun x _ => .inl (S.fn x)) (by rw [S.toSnd.N, S.toSnd.scope]; exact h1)
    have hs : swapsWithSole [.Tuple ts kt p1] b p.line X.env = pure false := by
      show swapsWith b (some (.Tuple ts kt p1)) p.line X.env = pure false
      refine sw_off ?_
      clear ha h0 v h3
      cases b <;> first | rfl | cases h2
    have hw : swappedStores [.Tuple ts kt p1] b X.env = pure none := by
      clear ha h0 v h3 hs
      cases b <;> first | rfl | cases h2
    exact ss_unp S.toSnd.ctx.kk hg rfl hs hw (good_e e X W sc _ S.toSnd h3).1
  | .app i e => fun X W sc st S h0 => by
    obtain ⟨⟨x, b⟩, v, ha⟩ := onS_ok h0
    obtain ⟨p1, ap, cp, p, rfl, n1, n2⟩ := vApp_ok v
    obtain ⟨g1, g2⟩ := ba ha
    obtain ⟨h1, g3⟩ := ba g1
    obtain ⟨h2, h3⟩ := ba g3
    obtain ⟨m1, m2, m3⟩ := okName_of h3
    exact ss_append (by rw [S.toSnd.N]; exact of_decide_eq_true h1) (S.toSnd.vis h2) m1 m2 n1 n2 (good_e e X W sc _ S.toSnd g2).1
  | .store i kx e => fun X W sc st S h0 => by
    obtain ⟨⟨x, kk, b⟩, v, ha⟩ := onS_ok h0
    obtain ⟨p1, p2, p, rfl⟩ := vSto_ok v
    obtain ⟨g1, g2⟩ := ba ha
    obtain ⟨h1, g3⟩ := ba g1
    obtain ⟨h2, h3⟩ := ba g3
    obtain ⟨g4, g5⟩ := ba g2
    obtain ⟨h4, h5⟩ := ba g4
    obtain ⟨h6, h7⟩ := ba g5
    obtain ⟨m1, m2, m3⟩ := okName_of h3
    have h4 : isComp b = false := by simpa using h4
    have hs : swapsWithSole [.Subscript (.Name x p1) kk p2] b p.line X.env = pure false := by
      show swapsWith b (some (.Subscript (.Name x p1) kk p2)) p.line X.env = pure false
      exact sw_off h4
    exact ss_store (units65 S.toSnd.ctx.room) S.toSnd.ctx.kk S.toSnd.ctx.kw (by rw [S.toSnd.N]; exact of_decide_eq_true h1) (S.toSnd.vis h2) m1 m2 hs rfl (ass_sub h5) (good_e e X W sc _ S.toSnd h7).1 (good_e kx X W sc _ S.toSnd h6).1
  | .augs i kx e => fun X W sc st S h0 => by
    obtain ⟨⟨x, kk, b⟩, v, ha⟩ := onS_ok h0
    obtain ⟨p1, p2, p, rfl⟩ := vAugS_ok v
    obtain ⟨g1, g2⟩ := ba ha
    obtain ⟨h1, g3⟩ := ba g1
    obtain ⟨h2, h3⟩ := ba g3
    obtain ⟨h5, g5⟩ := ba g2
    obtain ⟨h6, h7⟩ := ba g5
    obtain ⟨m1, m2, m3⟩ := okName_of h3
    exact ss_augS S.toSnd.ctx.kk (by rw [S.toSnd.N]; exact of_decide_eq_true h1) (S.toSnd.vis h2) m1 m2 (augst_of h5) (good_e kx X W sc _ S.toSnd h6).1 (good_e e X W sc _ S.toSnd h7).1
  | .aug q i e => fun X W sc st S h0 => by
    obtain ⟨⟨x, b⟩, v, ha⟩ := onS_ok h0
    obtain ⟨p1, p, rfl⟩ := vAug_ok v
    obtain ⟨g1, g2⟩ := ba ha
    obtain ⟨h1, h2⟩ := ba g1
    have hi : X.N[i]? = some x := by rw [S.toSnd.N]; exact of_decide_eq_true h1
    have hx : Loc X.env.scope x := by rw [S.toSnd.scope]; exact locC_ok h2
    have g := (good_e e X W sc _ S.toSnd g2).1
    cases q with
    | true => exact ss_aug S.toSnd.ctx.nd hi hx (.inl (S.fn x)) ip_sub g
    | false => exact ss_aug S.toSnd.ctx.nd hi hx (.inl (S.fn x)) ip_add g
  | .ife c a b => fun X W sc st S h0 => by
    obtain ⟨⟨t, x, y⟩, v, ha⟩ := onS_ok h0
    obtain ⟨p, rfl⟩ := vIfS_ok v
    obtain ⟨g1, g2⟩ := ba ha
    obtain ⟨h1, h2⟩ := ba g1
    obtain ⟨h3, h4⟩ := ba g2
    exact ss_if ((good_e c X W sc _ S.toSnd h2).2 h1) (good_b a X W sc _ S h3) (good_b b X W sc _ S h4)
  | .for_ t it b => fun X W sc st S h0 => by
    obtain ⟨⟨tg, i, y⟩, v, ha⟩ := onS_ok h0
    obtain ⟨p, rfl⟩ := vFor_ok v
    obtain ⟨g1, g2⟩ := ba ha
    obtain ⟨h1, g3⟩ := ba g1
    obtain ⟨h2, h3⟩ := ba g3
    exact ss_for S.toSnd.ctx.own S.toSnd.ctx.calm S.toSnd.ctx.kk (good_i it X W sc tg i (tgNT_ok h1) S.toSnd h3) (tg_pg S.toSnd.ctx.calm S.toSnd.ctx.nd (fun x _ => .inl (S.fn x)) (by rw [S.toSnd.N, S.toSnd.scope]; exact h1)) (good_b b X W sc _ S g2) h2
  | .whl n c b => fun X W sc st S h0 => by
    obtain ⟨⟨t, y⟩, v, ha⟩ := onS_ok h0
    obtain ⟨p, rfl⟩ := vWh_ok v
    obtain ⟨g1, g2⟩ := ba ha
    obtain ⟨h1, h2⟩ := ba g1
    exact ss_while S.toSnd.ctx.own ((good_e c X W sc _ S.toSnd h2).2 h1) (good_b b X W sc _ S g2)
  | .raise _ _ _ => fun X W sc st S h0 => by cases h0
  | .stuck => fun X W sc st S h0 => fun F H σ s D R h => h.elim
theorem good_b : ∀ (c : Cs), GoodB K T k P Γ c
  | .nst i t it kx e r => fun X W sc st S h0 => by
    cases st with
    | nil => cases h0
    | cons s1 st =>
      cases st with
      | nil => cases h0
      | cons s2 sts =>
        obtain ⟨h1, h2⟩ := ba (show ((onS (vAsg s1) fun q => _) && chB P sc r sts) = true from h0)
        have ih := good_b r X W sc _ S h2
        obtain ⟨⟨x, p1, b⟩, v, ha⟩ := onS_ok h1
        obtain ⟨p, rfl⟩ := vAsg_ok v
        obtain ⟨g1, g2⟩ := ba ha
        obtain ⟨n1, g3⟩ := ba g1
        obtain ⟨n2, g4⟩ := ba g3
        obtain ⟨n3, n4⟩ := ba g4
        obtain ⟨m1, m2, m3⟩ := okName_of n4
        obtain ⟨l1, l2⟩ := ba g2
        obtain ⟨pd, pl, e1⟩ := isLD_ok l1
        subst e1
        obtain ⟨⟨tg, iter, body⟩, vf, hf⟩ := onS_ok l2
        obtain ⟨pf, rfl⟩ := vFor_ok vf
        obtain ⟨f1, f2⟩ := ba hf
        obtain ⟨t1, f3⟩ := ba f1
        obtain ⟨t2, t3⟩ := ba f3
        obtain ⟨b1, vb, hb⟩ := onS_ok f2
        have e2 := vS1_ok vb
        cases e2
        obtain ⟨⟨o, k1, e0⟩, vn, hn⟩ := onS_ok hb
        obtain ⟨p6, p7, rfl⟩ := vNs_ok vn
        obtain ⟨⟨y, z⟩, vz, hz⟩ := onS_ok hn
        obtain ⟨p4, kz, pz, p5, e3⟩ := vN0_ok vz
        cases e3
        obtain ⟨z1, z2⟩ := ba hz
        obtain ⟨z3, z4⟩ := ba z1
        have e4 : y = x := of_decide_eq_true z3
        have e5 : z = 0 := of_decide_eq_true z4
        subst e4
        subst e5
        obtain ⟨z5, z6⟩ := ba z2
        obtain ⟨z7, z8⟩ := ba z5
        obtain ⟨z9, z10⟩ := ba z6
        have z7 : isComp e0 = false := by simpa using z7
        have hs1 : swapsWith (.List [.Dict [] [] pd] pl) (some (.Name y p1)) p.line X.env = pure false := sw_off rfl
        have hs2 : swapsWithSole [.Subscript (.Subscript (.Name y p4) (.Constant (.int 0) kz pz) p5) k1 p6] e0 p7.line X.env = pure false := by
          show swapsWith e0 (some (.Subscript (.Subscript (.Name y p4) (.Constant (.int 0) kz pz) p5) k1 p6)) p7.line X.env = pure false
          exact sw_off z7
        exact sb_nst (units65 S.toSnd.ctx.room) S.toSnd.ctx.kk S.toSnd.ctx.kw S.toSnd.ctx.nd (by rw [S.toSnd.N]; exact of_decide_eq_true n1) (by rw [S.toSnd.scope]; exact locC_ok n2) (.inl (S.fn y)) (S.toSnd.vis n3) m1 m2 S.toSnd.ctx.own S.toSnd.ctx.calm (good_i it X W sc tg iter (tgNT_ok t1) S.toSnd t3) (tg_pg S.toSnd.ctx.calm S.toSnd.ctx.nd (fun x _ => .inl (S.fn x)) (by rw [S.toSnd.N, S.toSnd.scope]; exact t1)) t2 hs1 hs2 rfl (ass_sub2 z8) (good_e kx X W sc _ S.toSnd z9).1 (good_e e X W sc _ S.toSnd z10).1 ih
  | .nil => fun X W sc st S h0 => by
    have e0 : st = [] := List.isEmpty_iff.mp h0
    subst e0
    exact sb_nil
  | .cons s r => fun X W sc st S h0 => by
    cases st with
    | nil => cases h0
    | cons a b =>
      obtain ⟨h1, h2⟩ := ba (show (chS P sc s a && chB P sc r b) = true from h0)
      exact sb_cons (good_s s X W sc _ S h1) (good_b r X W sc _ S h2)
  | .pass | .brk | .retN | .ret _ | .expr _ | .asg _ _ | .par _ _ | .unp _ _ | .app _ _ | .store _ _ _ | .aug _ _ _ | .augs _ _ _ | .ife _ _ _ | .for_ _ _ _ | .whl _ _ _ | .raise _ _ _ | .stuck => fun X W sc st S h0 => by cases h0
end
end
end BF
set_option Elab.async false
set_option linter.all false
set_option autoImplicit false
set_option maxRecDepth 100000
set_option maxHeartbeats 4000000
namespace BF
open PySem PySem.Spec PyProof.Rows L2
/-! ## the draws -/
structure Dr where
  st : Int
  cs : List Int
  ix : Int
def drT (a0 a1 : Addr) (hne : a0 ≠ a1) : Gt Dr where
  fp := fun a => a = a0 ∨ a = a1
  gr := fun g H => H a0 = some (.lst [.int g.st, .ref a1, .int g.ix]) ∧ H a1 = some (.lst (g.cs.map V.int)) ∧ g.cs.length ≤ 63
  live := fun g H a h f => by
    obtain ⟨h1, h2, _⟩ := h
    rcases f with rfl | rfl
    · rw [h1]; exact fun z => by cases z
    · rw [h2]; exact fun z => by cases z
  dep := fun g H H' h e => by
    obtain ⟨h1, h2, h3⟩ := h
    exact ⟨(e _ (.inl rfl)).trans h1, (e _ (.inr rfl)).trans h2, h3⟩
def Dr.at (g : Dr) : Nat := (g.ix % (if (g.cs.length : Int) > 1 then (g.cs.length : Int) else 1)).toNat
def Dr.cell (g : Dr) : Int := (g.cs ++ [0]).getD g.at 0
def Dr.turn (g : Dr) : Int := (g.st * 48271 + g.cell * 69621 + 11) % 2147483647
def nxV (g : Dr) (cap : Int) : Int := if 10 ^ 18 ≤ g.cell then g.cell % cap else (g.turn / 7) % cap
def nxG (g : Dr) (cap : Int) : Dr := if 10 ^ 18 ≤ g.cell then { g with cs := g.cs.set g.at (g.cell / cap) } else ⟨g.turn, g.cs, g.ix + 1⟩
theorem nxV_nn {g : Dr} {cap : Int} (h : 0 < cap) : 0 ≤ nxV g cap := by
  unfold nxV; split <;> exact Int.emod_nonneg _ (by omega)
theorem nxV_lt {g : Dr} {cap : Int} (h : 0 < cap) : nxV g cap < cap := by
  unfold nxV; split <;> exact Int.emod_lt_of_pos _ h
def mNext (a0 : Addr) : Mir Dr := fun ds g => match ds with
  | [.ref a, .int cap] => if a = a0 ∧ 0 < cap ∧ cap < 1073741824 then .ok (.int (nxV g cap)) (nxG g cap) else .no
  | _ => .no
abbrev rIntC : List V → Hp → VK → Prop := fun xs H Q => (∃ i, xs = [.int i] ∧ Q (.int i) H) ∨ ∃ k, xs = [.bl k] ∧ Q (.int (if k then 1 else 0)) H
abbrev rMaxC : List V → Hp → VK → Prop := fun xs H Q => ∃ i j, xs = [.int i, .int j] ∧ Q (.int (if j > i then j else i)) H
abbrev rLenC (K : PySem.W.Frag) : List V → Hp → VK → Prop := fun xs H Q => ∃ p ys, xs = [.ref p] ∧ (SqL K H p ys ∨ SqT K H p ys) ∧ Q (.int ys.length) H
abbrev rLstC (K : PySem.W.Frag) : List V → Hp → VK → Prop := fun xs H Q => ∃ p ys, xs = [.ref p] ∧ (SqL K H p ys ∨ SqT K H p ys) ∧ ∀ l, H l = none → Q (.ref l) (upd H l (.lst ys))
section
variable (K : PySem.W.Frag)
def tH (i : Int) : TE := tOp (rIxL K) (tVar 0) (tC (.int i))
abbrev oMod : R2 := rI (fun _ j => 0 < j) fun i j => .int (i % j)
abbrev oDiv : R2 := rI CDiv fun i j => .int (i / j)
abbrev oMul : R2 := rI CMul fun i j => .int (i * j)
abbrev oAdd : R2 := rI0 fun i j => .int (i + j)
abbrev oGe : R2 := rI0 fun i j => .bl (decide (j ≤ i))
abbrev oPow : R2 := rI CPow fun i j => .int (i ^ j.toNat)
def trN1 : TS := tAsg (tOp (rIxL K) (tOp rCat (tH K 1) (tLst (tCons (tC (.int 0)) tNil))) (tOp oMod (tCB rIntC (tCons (tH K 2) tNil)) (tCB rMaxC (tCons (tC (.int 1)) (tCons (tCB (rLenC K) (tCons (tH K 1) tNil)) tNil))))) (gName 2)
def trN2a : TS := tAsg (tOp oDiv (tVar 2) (tVar 1)) (gSub (tH K 1) (tOp oMod (tCB rIntC (tCons (tH K 2) tNil)) (tCB (rLenC K) (tCons (tH K 1) tNil))) rSetL)
def trN2b : TS := tRet (tOp oMod (tCB rIntC (tCons (tVar 2) tNil)) (tVar 1))
def trN2 : TS := tIfS (tTest (tOp oGe (tVar 2) (tOp oPow (tC (.int 10)) (tC (.int 18))))) (tSeq (trN2a K) trN2b) tNext
def trN3 : TS := tAsg (tOp oMod (tCB rIntC (tCons (tOp oAdd (tOp oAdd (tOp oMul (tH K 0) (tC (.int 48271))) (tOp oMul (tVar 2) (tC (.int 69621)))) (tC (.int 11))) tNil)) (tC (.int 2147483647))) (gSub (tVar 0) (tC (.int 0)) rSetL)
def trN4 : TS := tAsg (tOp oAdd (tH K 2) (tC (.int 1))) (gSub (tVar 0) (tC (.int 2)) rSetL)
def trN5 : TS := tRet (tOp oMod (tCB rIntC (tCons (tOp oDiv (tH K 0) (tC (.int 7))) tNil)) (tVar 1))
def trN : TS := tSeq (trN1 K) (tSeq (trN2 K) (tSeq (trN3 K) (tSeq (trN4 K) (trN5 K))))
end
theorem tH_ok {K : PySem.W.Frag} {a0 a1 : Addr} {g : Dr} {σ : Sl} {H : Hp} {Q : VK} {i : Int} {v : V} (h0 : σ[0]? = some (some (.ref a0))) (h : H a0 = some (.lst [.int g.st, .ref a1, .int g.ix])) (hi : L2.atI [.int g.st, .ref a1, .int g.ix] i = some v) (q : Q v H) : tH K i σ H Q :=
  ⟨_, h0, a0, _, i, v, rfl, rfl, .inl (.inl h), hi, q⟩
theorem at_lt (g : Dr) : g.at < (g.cs ++ [(0 : Int)]).length ∧ ((g.at : Nat) : Int) = g.ix % (if (g.cs.length : Int) > 1 then (g.cs.length : Int) else 1) := by
  unfold Dr.at
  have h1 : 0 < (if (g.cs.length : Int) > 1 then (g.cs.length : Int) else 1) ∧ (if (g.cs.length : Int) > 1 then (g.cs.length : Int) else 1) ≤ g.cs.length + 1 := by split <;> omega
  generalize (if (g.cs.length : Int) > 1 then (g.cs.length : Int) else 1) = m at h1 ⊢
  have h2 := Int.emod_nonneg g.ix (show m ≠ 0 by omega)
  have h3 := Int.emod_lt_of_pos g.ix h1.1
  rw [List.length_append]
  refine ⟨?_, Int.toNat_of_nonneg h2⟩
  simp only [List.length_cons, List.length_nil]
  omega
theorem at_big {g : Dr} (h : 10 ^ 18 ≤ g.cell) : 0 < g.cs.length ∧ g.at < g.cs.length ∧ ((g.at : Nat) : Int) = g.ix % (g.cs.length : Int) := by
  obtain ⟨h1, h2⟩ := at_lt g
  have hl : g.at < g.cs.length := by
    apply Classical.byContradiction
    intro n
    unfold Dr.cell at h
    rw [List.getD_eq_getElem?_getD, List.getElem?_append_right (by omega)] at h
    rw [List.length_append] at h1
    have e : g.at - g.cs.length = 0 := by simp at h1; omega
    rw [e] at h
    exact absurd h (by decide)
  have hp : 0 < g.cs.length := by omega
  refine ⟨hp, hl, ?_⟩
  rw [h2]
  congr 1
  split <;> omega
theorem cell_big {g : Dr} (h : g.at < g.cs.length) : g.cs[g.at]? = some g.cell := by
  unfold Dr.cell
  rw [List.getD_eq_getElem?_getD, List.getElem?_append_left h, List.getElem?_eq_getElem h]
  rfl
theorem cell_at (g : Dr) : L2.atI (g.cs.map V.int ++ [V.int 0]) (g.ix % (if (g.cs.length : Int) > 1 then (g.cs.length : Int) else 1)) = some (.int g.cell) := by
  obtain ⟨h1, h2⟩ := at_lt g
  rw [← h2]
  refine atI_nat ?_
  have e : g.cs.map V.int ++ [V.int 0] = (g.cs ++ [(0 : Int)]).map V.int := by simp
  rw [e, List.getElem?_map]
  unfold Dr.cell
  rw [List.getD_eq_getElem?_getD, List.getElem?_eq_getElem h1]
  rfl
theorem upd_none {H : Hp} {a b : Addr} {o : HO} (e : upd H a o b = none) : H b = none := by
  unfold upd at e
  split at e
  · cases e
  · exact e
theorem ixN_nat {n j : Nat} (hj : j < n) : ixN n (j : Int) = some j := by
  unfold ixN
  rw [if_pos (by omega), if_pos (by omega)]
  simp
section
variable {K : PySem.W.Frag} {a0 a1 : Addr} {g : Dr} {cap : Int} {H : Hp} {D : Ends}
abbrev slN (a0 : Addr) (cap : Int) (c : Option V) : Sl := [some (.ref a0), some (.int cap), c]
theorem n1 {c : Option V} (h1 : H a0 = some (.lst [.int g.st, .ref a1, .int g.ix])) (h2 : H a1 = some (.lst (g.cs.map V.int))) (h3 : g.cs.length ≤ 63)
    (q : ∀ p q, H p = none → H q = none → p ≠ q → D.nx (slN a0 cap (some (.int g.cell))) (upd (upd H p (.lst [.int 0])) q (.lst (g.cs.map V.int ++ [.int 0])))) : trN1 K D (slN a0 cap c) H := by
  have e0 : (slN a0 cap c)[0]? = some (some (.ref a0)) := rfl
  refine tH_ok e0 h1 (show L2.atI _ 1 = some (.ref a1) from rfl) ?_
  refine ⟨by decide +kernel, fun p hp => ?_⟩
  have n0 : a0 ≠ p := fun z => by rw [← z, h1] at hp; cases hp
  have n1 : a1 ≠ p := fun z => by rw [← z, h2] at hp; cases hp
  refine ⟨a1, p, _, _, rfl, rfl, (upd_ne n1).trans h2, upd_same, ?_, fun r hr => ?_⟩
  · rw [List.length_map, sizeLine_eq]; simp only [List.length_cons, List.length_nil]; omega
  have hr' : H r = none := upd_none hr
  have rp : r ≠ p := fun z => by rw [z, upd_same] at hr; cases hr
  have r0 : a0 ≠ r := fun z => by rw [← z, h1] at hr'; cases hr'
  have r1 : a1 ≠ r := fun z => by rw [← z, h2] at hr'; cases hr'
  have k1 : upd (upd H p (.lst [.int 0])) r (.lst (g.cs.map V.int ++ [.int 0])) a0 = some (.lst [.int g.st, .ref a1, .int g.ix]) := by rw [upd_ne r0, upd_ne n0, h1]
  have k2 : upd (upd H p (.lst [.int 0])) r (.lst (g.cs.map V.int ++ [.int 0])) a1 = some (.lst (g.cs.map V.int)) := by rw [upd_ne r1, upd_ne n1, h2]
  refine tH_ok e0 k1 (show L2.atI _ 2 = some (.int g.ix) from rfl) ?_
  refine .inl ⟨g.ix, rfl, ?_⟩
  refine tH_ok e0 k1 (show L2.atI _ 1 = some (.ref a1) from rfl) ?_
  refine ⟨a1, _, rfl, .inl (.inl (.inl k2)), ?_⟩
  refine ⟨1, _, rfl, ?_⟩
  refine ⟨g.ix, _, rfl, rfl, ?_, ?_⟩
  · split <;> omega
  refine ⟨r, _, _, _, rfl, rfl, .inl (.inl upd_same), ?_, q p r hp hr' (Ne.symm rp)⟩
  rw [List.length_map]
  exact cell_at g
theorem n2t {c : Int} (q : if (10 : Int) ^ 18 ≤ c then (tSeq (trN2a K) trN2b) D (slN a0 cap (some (.int c))) H else D.nx (slN a0 cap (some (.int c))) H) : trN2 K D (slN a0 cap (some (.int c))) H := by
  have e2 : (slN a0 cap (some (.int c)))[2]? = some (some (.int c)) := rfl
  refine ⟨_, e2, 10, 18, rfl, rfl, ⟨by decide, by decide, by decide⟩, ?_⟩
  refine ⟨c, _, rfl, rfl, _, rfl, ?_⟩
  by_cases h : (10 : Int) ^ 18 ≤ c
  · rw [if_pos h] at q
    rw [if_pos (by simpa using h)]
    exact q
  · rw [if_neg h] at q
    rw [if_neg (by simpa using h)]
    exact q
theorem n2a (hb : 10 ^ 18 ≤ g.cell) (hc : 0 < cap) (hc2 : cap < 1073741824) (h1 : H a0 = some (.lst [.int g.st, .ref a1, .int g.ix])) (h2 : H a1 = some (.lst (g.cs.map V.int)))
    (q : D.rt (.int (g.cell % cap)) (upd H a1 (.lst ((g.cs.set g.at (g.cell / cap)).map V.int)))) : (tSeq (trN2a K) trN2b) D (slN a0 cap (some (.int g.cell))) H := by
  have e0 : (slN a0 cap (some (.int g.cell)))[0]? = some (some (.ref a0)) := rfl
  have e1 : (slN a0 cap (some (.int g.cell)))[1]? = some (some (.int cap)) := rfl
  have e2 : (slN a0 cap (some (.int g.cell)))[2]? = some (some (.int g.cell)) := rfl
  obtain ⟨b1, b2, b3⟩ := at_big hb
  refine ⟨_, e2, _, e1, g.cell, cap, rfl, rfl, ⟨hc, hc2⟩, ?_⟩
  refine tH_ok e0 h1 (show L2.atI _ 1 = some (.ref a1) from rfl) ?_
  refine tH_ok e0 h1 (show L2.atI _ 2 = some (.int g.ix) from rfl) ?_
  refine .inl ⟨g.ix, rfl, ?_⟩
  refine tH_ok e0 h1 (show L2.atI _ 1 = some (.ref a1) from rfl) ?_
  refine ⟨a1, _, rfl, .inl (.inl (.inl h2)), ?_⟩
  refine ⟨g.ix, _, rfl, rfl, by rw [List.length_map]; omega, ?_⟩
  refine ⟨a1, _, _, g.at, rfl, rfl, h2, ?_, ?_⟩
  · rw [List.length_map, ← b3]; exact ixN_nat b2
  rw [← List.map_set]
  exact ⟨_, e2, .inl ⟨g.cell, rfl, _, e1, g.cell, cap, rfl, rfl, hc, q⟩⟩
theorem n345 (hc : 0 < cap) (h1 : H a0 = some (.lst [.int g.st, .ref a1, .int g.ix]))
    (q : D.rt (.int (g.turn / 7 % cap)) (upd (upd H a0 (.lst [.int g.turn, .ref a1, .int g.ix])) a0 (.lst [.int g.turn, .ref a1, .int (g.ix + 1)]))) : (tSeq (trN3 K) (tSeq (trN4 K) (trN5 K))) D (slN a0 cap (some (.int g.cell))) H := by
  have e0 : (slN a0 cap (some (.int g.cell)))[0]? = some (some (.ref a0)) := rfl
  have e1 : (slN a0 cap (some (.int g.cell)))[1]? = some (some (.int cap)) := rfl
  have e2 : (slN a0 cap (some (.int g.cell)))[2]? = some (some (.int g.cell)) := rfl
  refine tH_ok e0 h1 (show L2.atI _ 0 = some (.int g.st) from rfl) ?_
  refine ⟨g.st, 48271, rfl, rfl, .inr (by decide), _, e2, g.cell, 69621, rfl, rfl, .inr (by decide), ?_⟩
  refine ⟨_, _, rfl, rfl, _, _, rfl, rfl, .inl ⟨_, rfl, _, _, rfl, rfl, show (0 : Int) < 2147483647 by decide, ?_⟩⟩
  refine ⟨_, e0, a0, _, 0, 0, rfl, rfl, h1, rfl, ?_⟩
  have k1 : upd H a0 (.lst [.int g.turn, .ref a1, .int g.ix]) a0 = some (.lst [.int g.turn, .ref a1, .int g.ix]) := upd_same
  refine tH_ok (g := ⟨g.turn, g.cs, g.ix⟩) e0 k1 (show L2.atI _ 2 = some (.int g.ix) from rfl) ?_
  refine ⟨g.ix, 1, rfl, rfl, _, e0, a0, _, 2, 2, rfl, rfl, k1, rfl, ?_⟩
  have k2 : upd (upd H a0 (.lst [.int g.turn, .ref a1, .int g.ix])) a0 (.lst [.int g.turn, .ref a1, .int (g.ix + 1)]) a0 = some (.lst [.int g.turn, .ref a1, .int (g.ix + 1)]) := upd_same
  refine tH_ok (g := ⟨g.turn, g.cs, g.ix + 1⟩) e0 k2 (show L2.atI _ 0 = some (.int g.turn) from rfl) ?_
  exact ⟨g.turn, 7, rfl, rfl, show (0 : Int) < 7 ∧ (7 : Int) < 1073741824 by decide, .inl ⟨_, rfl, _, e1, _, _, rfl, rfl, hc, q⟩⟩
end
theorem next_run {K : PySem.W.Frag} {a0 a1 : Addr} {hne : a0 ≠ a1} {g : Dr} {cap : Int} {H : Hp} {D : Ends} (hg : (drT a0 a1 hne).gr g H) (hc : 0 < cap) (hc2 : cap < 1073741824)
    (hQ : ∀ H', (∀ a o, H a = some o → ¬ (drT a0 a1 hne).fp a → H' a = some o) → (drT a0 a1 hne).gr (nxG g cap) H' → D.rt (.int (nxV g cap)) H') : trN K D (slN a0 cap none) H := by
  obtain ⟨h1, h2, h3⟩ := hg
  refine n1 h1 h2 h3 fun p q hp hq hpq => ?_
  have n0 : a0 ≠ p := fun z => by rw [← z, h1] at hp; cases hp
  have n1 : a1 ≠ p := fun z => by rw [← z, h2] at hp; cases hp
  have r0 : a0 ≠ q := fun z => by rw [← z, h1] at hq; cases hq
  have r1 : a1 ≠ q := fun z => by rw [← z, h2] at hq; cases hq
  have k1 : upd (upd H p (.lst [.int 0])) q (.lst (g.cs.map V.int ++ [.int 0])) a0 = some (.lst [.int g.st, .ref a1, .int g.ix]) := by rw [upd_ne r0, upd_ne n0, h1]
  have k2 : upd (upd H p (.lst [.int 0])) q (.lst (g.cs.map V.int ++ [.int 0])) a1 = some (.lst (g.cs.map V.int)) := by rw [upd_ne r1, upd_ne n1, h2]
  have kp : ∀ a o, H a = some o → upd (upd H p (.lst [.int 0])) q (.lst (g.cs.map V.int ++ [.int 0])) a = some o := fun a o e => by
    have z1 : a ≠ p := fun z => by rw [z, hp] at e; cases e
    have z2 : a ≠ q := fun z => by rw [z, hq] at e; cases e
    rw [upd_ne z2, upd_ne z1, e]
  refine n2t ?_
  by_cases hb : (10 : Int) ^ 18 ≤ g.cell
  · rw [if_pos hb]
    refine n2a hb hc hc2 k1 k2 ?_
    have ev : nxV g cap = g.cell % cap := if_pos hb
    have eg : nxG g cap = { g with cs := g.cs.set g.at (g.cell / cap) } := if_pos hb
    rw [← ev]
    refine hQ _ (fun a o e nf => ?_) ?_
    · rw [upd_ne fun z => nf (.inr z)]
      exact kp a o e
    · rw [eg]
      exact ⟨(upd_ne hne).trans k1, upd_same, by rw [List.length_set]; exact h3⟩
  · rw [if_neg hb]
    refine n345 hc k1 ?_
    have ev : nxV g cap = g.turn / 7 % cap := if_neg hb
    have eg : nxG g cap = ⟨g.turn, g.cs, g.ix + 1⟩ := if_neg hb
    rw [← ev]
    refine hQ _ (fun a o e nf => ?_) ?_
    · rw [upd_ne fun z => nf (.inl z), upd_ne fun z => nf (.inl z)]
      exact kp a o e
    · rw [eg]
      exact ⟨upd_same, by rw [upd_ne (Ne.symm hne), upd_ne (Ne.symm hne)]; exact k2, h3⟩
/-- the draw keeps its promise -/
theorem next_sp {K : Env1} {a0 a1 : Addr} {hne : a0 ≠ a1} {vs : List V} {H : Hp} {Q : VK} {E : XK} {x y z : Str} (h : spD K (drT a0 a1 hne) 2 (mNext a0) vs H Q E) : trN K.K { nx := fun _ H' => Q .non H', rt := Q } (L2.start [x, y, z] vs) H := by
  obtain ⟨F, ds, g, hl, h2, h3, h4, h5, h6⟩ := h
  match vs, hl, h3 with
  | [v, w], _, .cons rv (.cons rw' .nil) =>
    rename_i d e
    cases d <;> first | (exact h6.elim) | skip
    rename_i a
    cases e <;> first | (exact h6.elim) | skip
    rename_i cap
    rw [show mNext a0 [.ref a, .int cap] g = (if a = a0 ∧ 0 < cap ∧ cap < 1073741824 then Fr.ok (.int (nxV g cap)) (nxG g cap) else .no) from rfl] at h6
    split at h6
    · rename_i g1 g2 q
      split at q
      · rename_i c
        cases q
        obtain ⟨rfl, c1, c2⟩ := c
        cases rv
        cases rw'
        refine next_run (g := g) h4 c1 c2 fun H' kp hg => ?_
        refine h6 (.int _) F H' ⟨Le.refl _, fun a o e => ?_, fun a o e nf => kp a o e nf, fun a n => .inl n, hg, h5⟩ (.int _)
        refine kp a o (h2 a o e) fun nf => ?_
        rw [h5 a nf] at e
        cases e
      · cases q
    · rename_i q
      split at q <;> cases q
    · exact h6.elim
end BF
set_option Elab.async false
set_option linter.all false
set_option autoImplicit false
set_option maxRecDepth 100000
set_option maxHeartbeats 4000000
namespace BF
open PySem PySem.Spec PyProof.Rows L2
/-! ## the draws' defs in a law -/
abbrev nextB (p1 p2 p3 p4 p5 p6 p7 p8 p9 p10 p11 p12 p13 p14 p15 p16 p17 p18 p19 p20 p21 p22 p23 p24 p25 p26 p27 p28 p29 p30 p31 p32 p33 p34 p35 p36 p37 p38 p39 p40 p41 p42 p43 p44 p45 p46 p47 p48 p49 p50 p51 p52 p53 p54 p55 p56 p57 p58 p59 p60 p61 p62 p63 p64 p65 p66 p67 p68 p69 p70 p71 p72 p73 p74 p75 p76 p77 p78 p79 p80 p81 p82 p83 p84 p85 p86 p87 p88 p89 p90 p91 p92 : Pos) (k1 k2 k3 k4 k5 k6 k7 k8 k9 k10 k11 k12 k13 k14 k15 k16 k17 k18 k19 k20 k21 : Nat) : List Stmt :=
  [(.Assign [(.Name "_law_cell" p1)] (.Subscript (.BinOp (.Subscript (.Name "_law_h" p2) (.Constant (.int 1) k1 p3) p4) .Add (.List [(.Constant (.int 0) k2 p5)] p6) p7) (.BinOp (.Call (.Name "int" p8) [(.Subscript (.Name "_law_h" p9) (.Constant (.int 2) k3 p10) p11)] [] p12) .Mod (.Call (.Name "max" p13) [(.Constant (.int 1) k4 p14), (.Call (.Name "len" p15) [(.Subscript (.Name "_law_h" p16) (.Constant (.int 1) k5 p17) p18)] [] p19)] [] p20) p21) p22) p23),
   (.If (.Compare (.Name "_law_cell" p24) [.GtE] [(.BinOp (.Constant (.int 10) k6 p25) .Pow (.Constant (.int 18) k7 p26) p27)] p28) [(.Assign [(.Subscript (.Subscript (.Name "_law_h" p29) (.Constant (.int 1) k8 p30) p31) (.BinOp (.Call (.Name "int" p32) [(.Subscript (.Name "_law_h" p33) (.Constant (.int 2) k9 p34) p35)] [] p36) .Mod (.Call (.Name "len" p37) [(.Subscript (.Name "_law_h" p38) (.Constant (.int 1) k10 p39) p40)] [] p41) p42) p43)] (.BinOp (.Name "_law_cell" p44) .FloorDiv (.Name "_law_cap" p45) p46) p47),
   (.Return (some (.BinOp (.Call (.Name "int" p48) [(.Name "_law_cell" p49)] [] p50) .Mod (.Name "_law_cap" p51) p52)) p53)] [] p54),
   (.Assign [(.Subscript (.Name "_law_h" p55) (.Constant (.int 0) k11 p56) p57)] (.BinOp (.Call (.Name "int" p58) [(.BinOp (.BinOp (.BinOp (.Subscript (.Name "_law_h" p59) (.Constant (.int 0) k12 p60) p61) .Mult (.Constant (.int 48271) k13 p62) p63) .Add (.BinOp (.Name "_law_cell" p64) .Mult (.Constant (.int 69621) k14 p65) p66) p67) .Add (.Constant (.int 11) k15 p68) p69)] [] p70) .Mod (.Constant (.int 2147483647) k16 p71) p72) p73),
   (.Assign [(.Subscript (.Name "_law_h" p74) (.Constant (.int 2) k17 p75) p76)] (.BinOp (.Subscript (.Name "_law_h" p77) (.Constant (.int 2) k18 p78) p79) .Add (.Constant (.int 1) k19 p80) p81) p82),
   (.Return (some (.BinOp (.Call (.Name "int" p83) [(.BinOp (.Subscript (.Name "_law_h" p84) (.Constant (.int 0) k20 p85) p86) .FloorDiv (.Constant (.int 7) k21 p87) p88)] [] p89) .Mod (.Name "_law_cap" p90) p91)) p92)]
abbrev mixB (p1 p2 p3 p4 p5 p6 p7 p8 p9 p10 p11 p12 p13 p14 p15 p16 p17 p18 p19 p20 p21 p22 p23 p24 p25 p26 p27 p28 p29 p30 : Pos) (k1 k2 k3 k4 k5 : Nat) : List Stmt :=
  [(.Assign [(.Name "_law_state" p1)] (.Name "_law_seed" p2) p3),
   (.For (.Name "_law_cell" p4) (.Name "_law_script" p5) [(.Assign [(.Name "_law_state" p6)] (.BinOp (.Call (.Name "int" p7) [(.BinOp (.BinOp (.BinOp (.Name "_law_state" p8) .Mult (.Constant (.int 48271) k1 p9) p10) .Add (.BinOp (.Call (.Name "int" p11) [(.Name "_law_cell" p12)] [] p13) .Mod (.Constant (.int 2147483629) k2 p14) p15) p16) .Add (.Constant (.int 1) k3 p17) p18)] [] p19) .Mod (.Constant (.int 2147483647) k4 p20) p21) p22)] [] p23),
   (.Return (some (.List [(.Name "_law_state" p24), (.Call (.Name "list" p25) [(.Name "_law_script" p26)] [] p27), (.Constant (.int 0) k5 p28)] p29)) p30)]
theorem vis_par {N P : List Str} {sc : Scope} (S : FnScope N P sc) {x : Str} (h : x ∈ P) : Vis sc x := by
  rcases S.par x h with e | e
  · exact Or.inl e
  · exact Or.inr (Or.inl e)
section
variable {P : Program} {w : World} {K : Env1} {mg : Str → Option Value} {base : Heap} {f : Addr} {fd : FuncData} {pa : Arguments} {bd : List Stmt} {sc : Scope} {q : Str}
theorem ok_next {a0 a1 : Addr} {hne : a0 ≠ a1} {CX : CXT} {p1 p2 p3 p4 p5 p6 p7 p8 p9 p10 p11 p12 p13 p14 p15 p16 p17 p18 p19 p20 p21 p22 p23 p24 p25 p26 p27 p28 p29 p30 p31 p32 p33 p34 p35 p36 p37 p38 p39 p40 p41 p42 p43 p44 p45 p46 p47 p48 p49 p50 p51 p52 p53 p54 p55 p56 p57 p58 p59 p60 p61 p62 p63 p64 p65 p66 p67 p68 p69 p70 p71 p72 p73 p74 p75 p76 p77 p78 p79 p80 p81 p82 p83 p84 p85 p86 p87 p88 p89 p90 p91 p92 : Pos} {k1 k2 k3 k4 k5 k6 k7 k8 k9 k10 k11 k12 k13 k14 k15 k16 k17 k18 k19 k20 k21 : Nat}
    (F : FunD K.K "_law_next" q pa bd sc [] [] f fd) (S : FnScope ["_law_h", "_law_cap", "_law_cell"] ["_law_h", "_law_cap"] sc) (hl : sc.names.lookup ("_law_cell" : Str) = some .local) (hi : sc.names.lookup ("int" : Str) = some .globalImplicit) (hm : sc.names.lookup ("max" : Str) = some .globalImplicit) (hn : sc.names.lookup ("len" : Str) = some .globalImplicit) (mi : mg "int" = none) (mm : mg "max" = none) (ml : mg "len" = none)
    (hb : bd = nextB p1 p2 p3 p4 p5 p6 p7 p8 p9 p10 p11 p12 p13 p14 p15 p16 p17 p18 p19 p20 p21 p22 p23 p24 p25 p26 p27 p28 p29 p30 p31 p32 p33 p34 p35 p36 p37 p38 p39 p40 p41 p42 p43 p44 p45 p46 p47 p48 p49 p50 p51 p52 p53 p54 p55 p56 p57 p58 p59 p60 p61 p62 p63 p64 p65 p66 p67 p68 p69 p70 p71 p72 p73 p74 p75 p76 p77 p78 p79 p80 p81 p82 p83 p84 p85 p86 p87 p88 p89 p90 p91 p92 k1 k2 k3 k4 k5 k6 k7 k8 k9 k10 k11 k12 k13 k14 k15 k16 k17 k18 k19 k20 k21) :
    FnOk P w K.K mg base CX 1 f fd ["_law_h", "_law_cap"] (spD K (drT a0 a1 hne) 2 (mNext a0)) := by
  refine F.ok (CX := CX) S (fun vs H Q E h => ?_) (fun cdv A outer s H vs Q E hr h => ⟨trN K.K, ?_, next_sp h⟩)
  · obtain ⟨F, ds, g, hl, _⟩ := h
    exact hl
  rw [hb]
  have v0 : Vis sc "_law_h" := vis_par S List.mem_cons_self
  have v1 : Vis sc "_law_cap" := vis_par S (List.mem_cons_of_mem _ List.mem_cons_self)
  have v2 : Vis sc "_law_cell" := .inl hl
  have bi : bootBuiltins "int" = some (.type "int") := by decide +kernel
  have bm : bootBuiltins "max" = some (.builtin "max") := by decide +kernel
  have bl : bootBuiltins "len" = some (.builtin "len") := by decide +kernel
  have eh : ∀ {p : Pos}, PE (cxOf CX P w K.K mg base ["_law_h", "_law_cap", "_law_cell"] q sc f cdv A outer s H E) (.Name "_law_h" p) (tVar 0) := fun {p} => pe_var rfl v0
  have ec : ∀ {p : Pos}, PE (cxOf CX P w K.K mg base ["_law_h", "_law_cap", "_law_cell"] q sc f cdv A outer s H E) (.Name "_law_cap" p) (tVar 1) := fun {p} => pe_var rfl v1
  have el : ∀ {p : Pos}, PE (cxOf CX P w K.K mg base ["_law_h", "_law_cap", "_law_cell"] q sc f cdv A outer s H E) (.Name "_law_cell" p) (tVar 2) := fun {p} => pe_var rfl v2
  have eH : ∀ {i : Int} {k : Nat} {p p' p'' : Pos}, PE (cxOf CX P w K.K mg base ["_law_h", "_law_cap", "_law_cell"] q sc f cdv A outer s H E) (.Subscript (.Name "_law_h" p) (.Constant (.int i) k p') p'') (tH K.K i) := fun {i k p p' p''} => pe_ix ix_list eh pe_int fun _ _ => rfl
  refine pss_cons (ps_set S.nd rfl (.inl hl) (pe_ix ix_list (pe_op op_cat eH (pe_lst (pa_cons pe_int pa_nil))) (pe_op op_mod (pe_callTy call_int1 hi mi bi (pa_cons eH pa_nil)) (pe_callB (call_max2 rfl) hm mm bm (pa_cons pe_int (pa_cons (pe_callB call_len_seq hn ml bl (pa_cons eH pa_nil)) pa_nil)))) fun _ _ => rfl)) ?_
  refine pss_cons (ps_if (pt_cmpR op_ge el (pe_op op_pow pe_int pe_int) rfl) (pss_cons (ps_asg (pe_op op_fdiv el ec) (pg_sub eH (pe_op op_mod (pe_callTy call_int1 hi mi bi (pa_cons eH pa_nil)) (pe_callB call_len_seq hn ml bl (pa_cons eH pa_nil))) set_list)) (pss_one (ps_ret (pe_op op_mod (pe_callTy call_int1 hi mi bi (pa_cons el pa_nil)) ec)))) pss_nil) ?_
  refine pss_cons (ps_asg (pe_op op_mod (pe_callTy call_int1 hi mi bi (pa_cons (pe_op op_add (pe_op op_add (pe_op op_mul eH pe_int) (pe_op op_mul el pe_int)) pe_int) pa_nil)) pe_int) (pg_sub eh pe_int set_list)) ?_
  refine pss_cons (ps_asg (pe_op op_add eH pe_int) (pg_sub eh pe_int set_list)) ?_
  exact pss_one (ps_ret (pe_op op_mod (pe_callTy call_int1 hi mi bi (pa_cons (pe_op op_fdiv eH pe_int) pa_nil)) ec))
end
end BF
set_option Elab.async false
set_option linter.all false
set_option autoImplicit false
set_option maxRecDepth 100000
set_option maxHeartbeats 4000000
namespace BF
open PySem PySem.Spec PyProof.Rows L2
def spMix (K : PySem.W.Frag) : Sp := fun vs H Q _ => ∃ (a : Addr) (ns : List Int) (seed : Int), vs = [.ref a, .int seed] ∧ SqL K H a (ns.map V.int) ∧ ns.length ≤ 63 ∧
  ∀ (st : Int) a1 a0, H a1 = none → H a0 = none → a0 ≠ a1 → Q (.ref a0) (upd (upd H a1 (.lst (ns.map V.int))) a0 (.lst [.int st, .ref a1, .int 0]))
def trMb : TS := tAsg (tOp oMod (tCB rIntC (tCons (tOp oAdd (tOp oAdd (tOp oMul (tVar 2) (tC (.int 48271))) (tOp oMod (tCB rIntC (tCons (tVar 3) tNil)) (tC (.int 2147483629)))) (tC (.int 1))) tNil)) (tC (.int 2147483647))) (gName 2)
def trM (K : PySem.W.Frag) : TS := tSeq (tAsg (tVar 1) (gName 2)) (tSeq (tFor (iList K (tVar 0)) (gName 3) trMb) (tRet (tLst (tCons (tVar 2) (tCons (tCB (rLstC K) (tCons (tVar 0) tNil)) (tCons (tC (.int 0)) tNil))))))
theorem mix_run {K : PySem.W.Frag} {vs : List V} {H : Hp} {Q : VK} {E : XK} {x y z t : Str} (h : spMix K vs H Q E) : trM K { nx := fun _ H' => Q .non H', rt := Q } (L2.start [x, y, z, t] vs) H := by
  obtain ⟨a, ns, seed, rfl, hs, hl, q⟩ := h
  refine ⟨.int seed, rfl, ?_⟩
  refine ⟨.ref a, rfl, a, rfl, ⟨_, hs⟩, ?_⟩
  refine for_list (xs := ns.map V.int) (fun i σ H' => H' = H ∧ ∃ (st : Int) (c : Option V), σ = [some (.ref a), some (.int seed), some (.int st), c]) ⟨rfl, seed, none, rfl⟩ (fun i σ H' _ p => by rw [p.1]; exact hs) (fun i v σ H' e p => ?_) (fun σ H' p => ?_)
  · obtain ⟨rfl, st, c, rfl⟩ := p
    rw [List.getElem?_map] at e
    cases e2 : ns[i]? with
    | none => rw [e2] at e; cases e
    | some n =>
      rw [e2] at e
      cases e
      refine ⟨_, rfl, st, 48271, rfl, rfl, .inr (by decide), ?_⟩
      refine ⟨_, rfl, .inl ⟨n, rfl, n, 2147483629, rfl, rfl, show (0 : Int) < 2147483629 by decide, ?_⟩⟩
      exact ⟨_, _, rfl, rfl, _, _, rfl, rfl, .inl ⟨_, rfl, _, _, rfl, rfl, show (0 : Int) < 2147483647 by decide, rfl, _, _, rfl⟩⟩
  · obtain ⟨rfl, st, c, rfl⟩ := p
    refine ⟨_, rfl, _, rfl, a, _, rfl, .inl hs, fun a1 h1 => ⟨by show 3 ≤ sizeLine; decide +kernel, fun a0 h0 => ?_⟩⟩
    have ne : a0 ≠ a1 := fun z => by rw [z, upd_same] at h0; cases h0
    exact q st a1 a0 h1 (upd_none h0) ne
section
variable {P : Program} {w : World} {K : Env1} {mg : Str → Option Value} {base : Heap} {f : Addr} {fd : FuncData} {pa : Arguments} {bd : List Stmt} {sc : Scope} {q : Str}
theorem ok_mix {p1 p2 p3 p4 p5 p6 p7 p8 p9 p10 p11 p12 p13 p14 p15 p16 p17 p18 p19 p20 p21 p22 p23 p24 p25 p26 p27 p28 p29 p30 : Pos} {k1 k2 k3 k4 k5 : Nat}
    (F : FunD K.K "_law_mix" q pa bd sc [] [] f fd) (S : FnScope ["_law_script", "_law_seed", "_law_state", "_law_cell"] ["_law_script", "_law_seed"] sc) (hl : sc.names.lookup ("_law_cell" : Str) = some .local) (hst : sc.names.lookup ("_law_state" : Str) = some .local) (hi : sc.names.lookup ("int" : Str) = some .globalImplicit) (hn : sc.names.lookup ("list" : Str) = some .globalImplicit) (mi : mg "int" = none) (ml : mg "list" = none)
    (hb : bd = mixB p1 p2 p3 p4 p5 p6 p7 p8 p9 p10 p11 p12 p13 p14 p15 p16 p17 p18 p19 p20 p21 p22 p23 p24 p25 p26 p27 p28 p29 p30 k1 k2 k3 k4 k5) :
    FnOk P w K.K mg base (L2.CX P w) 1 f fd ["_law_script", "_law_seed"] (spMix K.K) := by
  refine F.ok (CX := L2.CX P w) S (fun vs H Q E h => ?_) (fun cdv A outer s H vs Q E hr h => ⟨trM K.K, ?_, mix_run h⟩)
  · obtain ⟨a, ns, seed, rfl, _⟩ := h
    rfl
  rw [hb]
  have v0 : Vis sc "_law_script" := vis_par S List.mem_cons_self
  have v1 : Vis sc "_law_seed" := vis_par S (List.mem_cons_of_mem _ List.mem_cons_self)
  have bi : bootBuiltins "int" = some (.type "int") := by decide +kernel
  have bl : bootBuiltins "list" = some (.type "list") := by decide +kernel
  refine pss_cons (ps_set S.nd rfl (.inl hst) (pe_var rfl v1)) ?_
  refine pss_cons (ps_for (passes_of rfl) rfl (pi_list (pe_var rfl v0)) (pg_name S.nd rfl (.inl hl) (.inr hl)) (pss_one (ps_set S.nd rfl (.inl hst) (pe_op op_mod (pe_callTy call_int1 hi mi bi (pa_cons (pe_op op_add (pe_op op_add (pe_op op_mul (pe_var rfl (.inl hst)) pe_int) (pe_op op_mod (pe_callTy call_int1 hi mi bi (pa_cons (pe_var rfl (.inl hl)) pa_nil)) pe_int)) pe_int) pa_nil)) pe_int)))) ?_
  exact pss_one (ps_ret (pe_lst (pa_cons (pe_var rfl (.inl hst)) (pa_cons (pe_callTy call_list_of hn ml bl (pa_cons (pe_var rfl v0) pa_nil)) (pa_cons pe_int pa_nil)))))
end
/-! ## the globals, whatever the context -/
structure G0 {G : Type} (P : Program) (w : World) (mg : Str → Option Value) (base : Heap) (K : Env1) (T : Gt G) (k : Nat) (M : Pm) (Γ : Gam G) : Prop where
  hw : K.w = w
  gn : M.gn = Γ.map fun p => (p.1, kindG p.2)
  cst : ∀ (j : Nat) x d, Γ[j]? = some (x, .cst d) → ∃ u v, mg x = some u ∧ RelV v u ∧ ∀ F, Rep K F v d
  fn : ∀ (j : Nat) x n m, Γ[j]? = some (x, .fn n m) → ∃ kf f fd ps, kf ≤ k ∧ FnOk P w K.K mg base (L2.CX P w) kf f fd ps (spD K T n m) ∧ mg x = some (.ref f) ∧ PySem.W.keepIn K.K (.ref f) = true ∧ Binds K.K fd ps []
  mks : ∀ (j : Nat) x c f n m, Γ[j]? = some (x, .mk c f n m) → ∃ kf fi fd ps, 0 < n ∧ kf + 1 ≤ k ∧ FnOk P w K.K mg base (L2.CX P w) kf fi fd ps (spI K T c f n m) ∧ mg x = some (.ref (K.co c)) ∧ Mk K.K (K.co c) fi ∧ Binds K.K fd ps []
  bl : ∀ x ∈ M.bl, mg x = none
  csE : M.cs = K.cs
  cs : ∀ c ∈ K.cs, ClsOk K c
  csG : ∀ c ∈ K.cs, mg c = some (.ref (K.co c))
  ats : ∀ q ∈ M.ats, Cls K.K (K.co q.1) ∧ NoAttr K.K (K.co q.1) q.2
section
variable {G : Type} {P : Program} {w : World} {mg : Str → Option Value} {base : Heap} {K : Env1} {T : Gt G} {k : Nat} {M : Pm} {Γ : Gam G}
theorem G0.ok {N : List Str} {qual : Str} {scope : Scope} {f : Addr} {cdv : Value} {A : Around} {outer : List Env} {s : Shared} {H : Hp} {E : XK} (h : G0 P w mg base K T k M Γ) : GOk (cxOf (L2.CX P w) P w K.K mg base N qual scope f cdv A outer s H E) K T k { M with N := N } Γ :=
  ⟨h.gn, h.cst, h.fn, h.mks, h.bl, h.csE, h.cs, h.csG, h.ats⟩
theorem snoc_get {α : Type} {l : List α} {a b : α} {j : Nat} (h : (l ++ [a])[j]? = some b) : l[j]? = some b ∨ b = a := by
  by_cases c : j < l.length
  · rw [List.getElem?_append_left c] at h; exact .inl h
  · rw [List.getElem?_append_right (by omega)] at h
    cases e : j - l.length with
    | zero => rw [e] at h; cases h; exact .inr rfl
    | succ n => rw [e] at h; cases h
/-- one more def -/
theorem G0.snoc {k' kf n : Nat} {x : Str} {m : Mir G} {f : Addr} {fd : FuncData} {ps : List Str} (h : G0 P w mg base K T k M Γ) (hk : k ≤ k') (hf : kf ≤ k') (F : FnOk P w K.K mg base (L2.CX P w) kf f fd ps (spD K T n m)) (hm : mg x = some (.ref f)) (kp : PySem.W.keepIn K.K (.ref f) = true) (hb : Binds K.K fd ps []) :
    G0 P w mg base K T k' { M with gn := M.gn ++ [(x, .fn n)] } (Γ ++ [(x, .fn n m)]) where
  hw := h.hw
  gn := by rw [List.map_append, ← h.gn]; rfl
  cst := fun j y d e => by
    rcases snoc_get e with e | e
    · exact h.cst j y d e
    · cases e
  fn := fun j y n' m' e => by
    rcases snoc_get e with e | e
    · obtain ⟨kf, f, fd, ps, h1, h2⟩ := h.fn j y n' m' e
      exact ⟨kf, f, fd, ps, Nat.le_trans h1 hk, h2⟩
    · cases e
      exact ⟨kf, f, fd, ps, hf, F, hm, kp, hb⟩
  mks := fun j y c f' n' m' e => by
    rcases snoc_get e with e | e
    · obtain ⟨kf, f, fd, ps, h0, h1, h2⟩ := h.mks j y c f' n' m' e
      exact ⟨kf, f, fd, ps, h0, Nat.le_trans h1 hk, h2⟩
    · cases e
  bl := h.bl
  csE := h.csE
  cs := h.cs
  csG := h.csG
  ats := h.ats
/-- one more class -/
theorem G0.snocM {k' kf n : Nat} {x c fl : Str} {m : Mir G} {f : Addr} {fd : FuncData} {ps : List Str} (h : G0 P w mg base K T k M Γ) (hk : k ≤ k') (hf : kf + 1 ≤ k') (hn : 0 < n) (F : FnOk P w K.K mg base (L2.CX P w) kf f fd ps (spI K T c fl n m)) (hm : mg x = some (.ref (K.co c))) (mk : Mk K.K (K.co c) f) (hb : Binds K.K fd ps []) :
    G0 P w mg base K T k' { M with gn := M.gn ++ [(x, .fn n)] } (Γ ++ [(x, .mk c fl n m)]) where
  hw := h.hw
  gn := by rw [List.map_append, ← h.gn]; rfl
  cst := fun j y d e => by
    rcases snoc_get e with e | e
    · exact h.cst j y d e
    · cases e
  fn := fun j y n' m' e => by
    rcases snoc_get e with e | e
    · obtain ⟨kf, f, fd, ps, h1, h2⟩ := h.fn j y n' m' e
      exact ⟨kf, f, fd, ps, Nat.le_trans h1 hk, h2⟩
    · cases e
  mks := fun j y c f' n' m' e => by
    rcases snoc_get e with e | e
    · obtain ⟨kf, f, fd, ps, h0, h1, h2⟩ := h.mks j y c f' n' m' e
      exact ⟨kf, f, fd, ps, h0, Nat.le_trans h1 hk, h2⟩
    · cases e
      exact ⟨kf, f, fd, ps, hn, hf, F, hm, mk, hb⟩
  bl := h.bl
  csE := h.csE
  cs := h.cs
  csG := h.csG
  ats := h.ats
theorem G0.sndF {N ps : List Str} {qual : Str} {scope : Scope} {f : Addr} {cdv : Value} {A : Around} {outer : List Env} {s : Shared} {H : Hp} {E : XK} (h : G0 P w mg base K T k M Γ) (S : FnScope N ps scope) (hr : Room k (A.deeper (envOfC qual scope s.heap.objs.size f cdv))) :
    SndF (cxOf (L2.CX P w) P w K.K mg base N qual scope f cdv A outer s H E) K T (fun cls dd _ H => E cls dd H) k { M with N := N } Γ scope :=
  ⟨⟨ctx_fn h.hw S hr, h.ok, rfl, rfl⟩, fun _ => rfl, S.kind⟩
/-- a def that the check takes -/
theorem def_ok {x qual : Str} {params : Arguments} {body : List Stmt} {scope : Scope} {f : Addr} {fd : FuncData} {N ps : List Str} {code : Cs} (h : G0 P w mg base K T k M Γ) (Fn : FunD K.K x qual params body scope [] [] f fd) (S : FnScope N ps scope) (hc : chB { M with N := N } scope code body = true) :
    FnOk P w K.K mg base (L2.CX P w) (k + 1) f fd ps (spD K T ps.length (runF N.length (ex K Γ code))) :=
  fn_okD Fn S fun cdv A outer s H E hr => good_b code _ _ _ _ (h.sndF S hr) hc
/-- a promise that asks nothing -/
theorem def_no {x qual : Str} {params : Arguments} {body : List Stmt} {scope : Scope} {f : Addr} {fd : FuncData} {N ps : List Str} (k : Nat) (n : Nat) (Fn : FunD K.K x qual params body scope [] [] f fd) (S : FnScope N ps scope) :
    FnOk P w K.K mg base (L2.CX P w) (k + 1) f fd ps (spD K T n (fun _ _ => .no)) := by
  refine Fn.ok (CX := L2.CX P w) S (fun vs H Q E h => ?_) (fun cdv A outer s H vs Q E hr h => ?_)
  · obtain ⟨_, _, _, _, _, _, _, _, z⟩ := h; exact z.elim
  · obtain ⟨_, _, _, _, _, _, _, _, z⟩ := h; exact z.elim
end
end BF
set_option Elab.async false
set_option linter.all false
set_option autoImplicit false
set_option maxRecDepth 100000
set_option maxHeartbeats 4000000
namespace BF
open PySem PySem.Spec PyProof.Rows L2
section
variable {G : Type}
/-- __init__: expressions, then self.f = e -/
def runIp (K : Env1) (Γ : Gam G) : List Ce → Ce → Sg G → Fr G
  | [], e, s => (match ev K Γ e s with
    | .ok x s1 => (match use s1 x with
      | .ok d s2 => .ok d s2.g
      | _ => .no)
    | .er x g => .er x g
    | .no => .no)
  | c :: cs, e, s => (match ev K Γ c s with
    | .ok _ s1 => runIp K Γ cs e s1
    | .er x g => .er x g
    | .no => .no)
def runI (K : Env1) (Γ : Gam G) (n : Nat) (cs : List Ce) (e : Ce) : Mir G := fun ds g => runIp K Γ cs e ⟨none :: (ds.map (fun d => some (false, d)) ++ List.replicate (n - (ds.length + 1)) none), g⟩
def vIL : List Stmt → Option (Str × Str × Expr)
  | [.Assign [.Attribute (.Name s _) f _] v _] => some (s, f, v)
  | _ => none
theorem vIL_ok {b : List Stmt} {s f : Str} {v : Expr} (h : vIL b = some (s, f, v)) : ∃ p1 p2 p3, b = [.Assign [.Attribute (.Name s p1) f p2] v p3] := by
  unfold vIL at h; split at h <;> first | (cases h; exact ⟨_, _, _, rfl⟩) | cases h
def vIE : List Stmt → Option (Expr × List Stmt)
  | .Expr v _ :: r => some (v, r)
  | _ => none
theorem vIE_ok {b r : List Stmt} {v : Expr} (h : vIE b = some (v, r)) : ∃ p, b = .Expr v p :: r := by
  unfold vIE at h; split at h <;> first | (cases h; exact ⟨_, rfl⟩) | cases h
def chIni (P : Pm) (sc : Scope) (self fl : Str) : List Ce → Ce → List Stmt → Bool
  | [], e, b => onS (vIL b) fun q => (decide (q.1 = self) && decide (q.2.1 = fl)) && (!isComp q.2.2 && chE P sc e q.2.2)
  | c :: cs, e, b => onS (vIE b) fun q => (!isComp q.1 && chE P sc c q.1) && chIni P sc self fl cs e q.2
end
section
variable {G : Type} {X : Cx} {K : Env1} {T : Gt G} {W : WX1} {k : Nat} {P : Pm} {Γ : Gam G} {sc : Scope} {x : Addr} {σ : Sl} {C : Addr} {self fl : Str}
theorem ini_b (S : SndF X K T W k P Γ sc) (hN0 : P.N[0]? = some self) (hv : isVis sc self = true) (hok : okName self = true) (hC : Cls K.K C) (hA : NoAttr K.K C fl) (hσ : σ[0]? = some (some (.ref x))) :
    ∀ (cs : List Ce) (e : Ce) (body : List Stmt), chIni P sc self fl cs e body = true → ∀ (F H : Hp) (s : Sg G) (D : Ends), Rl K T F H s σ → (match runIp K Γ cs e s with
      | .ok d g' => ∀ v F' H', Xst T F H s σ F' H' g' → Rep K F' v d → ∃ dx, H' x = some (.ins C dx []) ∧ D.nx σ (upd H' x (.ins C dx [(fl, v)]))
      | .er y g' => PstX K T W F H s σ y g'
      | .no => False) → wpB X body D σ H := by
  intro cs
  induction cs with
  | nil =>
    intro e body h F H s D R hp
    obtain ⟨⟨s1, f1, v⟩, vv, ha⟩ := onS_ok (show onS (vIL body) _ = true from h)
    obtain ⟨p1, p2, p3, rfl⟩ := vIL_ok vv
    · obtain ⟨g1, g2⟩ := ba ha
      obtain ⟨h1, h2⟩ := ba g1
      obtain ⟨h3, h4⟩ := ba g2
      have e1 : s1 = self := of_decide_eq_true h1
      have e2 : f1 = fl := of_decide_eq_true h2
      have h3 : isComp v = false := by simpa using h3
      have h4 : chE P sc e v = true := h4
      subst e1 e2
      obtain ⟨m1, m2, m3⟩ := okName_of hok
      have hs : swapsWith v (some (.Attribute (.Name s1 p1) f1 p2)) p3.line X.env = pure false := sw_off h3
      refine wpB_of (pss_one (ps_fld (pe_var (by rw [S.toSnd.N]; exact hN0) (S.toSnd.vis hv) m1 m2) (pe_self X v) hs)) ?_
      refine (good_e e X W sc v S.toSnd h4).1 F H σ s _ R ?_
      unfold runIp at hp
      cases q : ev K Γ e s with
      | no => rw [q] at hp; exact hp.elim
      | er y g => rw [q] at hp; exact hp
      | ok y s1 =>
        rw [q] at hp
        simp only [] at hp
        intro w F1 H1 S1 R1 r1
        cases q2 : use s1 y with
        | no => rw [q2] at hp; exact hp.elim
        | er z g => rw [q2] at hp; exact hp.elim
        | ok d s2 =>
          rw [q2] at hp
          obtain ⟨F2, R2, S2, p2⟩ := r1.used S1 R R1 q2
          obtain ⟨dx, k1, k2⟩ := hp w F2 H1 (S2.xst R2) p2
          exact ⟨.ref x, hσ, x, C, dx, [], rfl, k1, by rw [← S.toSnd.ctx.kk]; exact hC, by rw [← S.toSnd.ctx.kk]; exact hA, by decide, k2⟩
  | cons c cs ih =>
    intro e body h F H s D R hp
    obtain ⟨⟨v, r⟩, vv, ha⟩ := onS_ok (show onS (vIE body) _ = true from h)
    obtain ⟨p, rfl⟩ := vIE_ok vv
    · obtain ⟨g1, g2⟩ := ba ha
      obtain ⟨h1, h2⟩ := ba g1
      refine wpB_of (pss_cons (ps_expr (pe_self X v) (sw_off (by simpa using h1))) (pss_self X r)) ?_
      refine (good_e c X W sc v S.toSnd h2).1 F H σ s _ R ?_
      unfold runIp at hp
      cases q : ev K Γ c s with
      | no => rw [q] at hp; exact hp.elim
      | er y g => rw [q] at hp; exact hp
      | ok y s1 =>
        rw [q] at hp
        simp only [] at hp
        intro w F1 H1 S1 R1 r1
        refine ih e r g2 F1 H1 s1 D R1 ?_
        cases q2 : runIp K Γ cs e s1 with
        | no => rw [q2] at hp; exact hp.elim
        | er z g => rw [q2] at hp; exact PstX.step S1 R R1 hp
        | ok d g =>
          rw [q2] at hp
          exact fun v F' H' xs rv => hp v F' H' (xs.after S1 R) rv
theorem Rl.drop0 {F H : Hp} {y : Option (Bool × D)} {l : List (Option (Bool × D))} {g : G} (R : Rl K T F H ⟨y :: l, g⟩ σ) : Rl K T F H ⟨none :: l, g⟩ σ := by
  have up : ∀ (i : Nat) (z : Bool × D), (none :: l)[i]? = some (some z) → (y :: l)[i]? = some (some z) := fun i z h => by
    cases i with
    | zero => cases h
    | succ i => exact h
  exact ⟨R.sub, R.len, fun i d h => R.val i d (up i _ h), fun i d h => R.own i d (up i _ h), fun i j d e p h1 h2 => R.inj i j d e p (up i _ h1) (up j _ h2), R.gs, R.gf⟩
end
/-- __init__ that the check takes -/
theorem ini_ok {G : Type} {P : Program} {w : World} {mg : Str → Option Value} {base : Heap} {K : Env1} {T : Gt G} {k n : Nat} {M : Pm} {Γ : Gam G} {x qual cn self fl : Str} {params : Arguments} {body : List Stmt} {scope : Scope} {f : Addr} {fd : FuncData} {N ps : List Str} {cs : List Ce} {e : Ce}
    (h : G0 P w mg base K T k M Γ) (Fn : FunD K.K x qual params body scope [] [] f fd) (S : FnScope N ps scope) (hps : ps.length = n + 1) (hN0 : N[0]? = some self) (hv : isVis scope self = true) (hok : okName self = true) (hC : Cls K.K (K.co cn)) (hA : NoAttr K.K (K.co cn) fl) (hc : chIni { M with N := N } scope self fl cs e body = true) :
    FnOk P w K.K mg base (L2.CX P w) (k + 1) f fd ps (spI K T cn fl n (runI K Γ N.length cs e)) := by
  refine Fn.ok (CX := L2.CX P w) S (fun vs H Q E h => ?_) (fun cdv A outer s H vs Q E hr h2 => ⟨_, pss_self _ _, ?_⟩)
  · obtain ⟨F, x, dx, us, ds, g, h1, h2, _⟩ := h
    rw [h1, List.length_cons, h2, hps]
  · obtain ⟨F, x, dx, us, ds, g, rfl, h1, h2, h3, h4, h5, h6, h7, h8, h9⟩ := h2
    have R0 := Rl.start (N := N) h2 (Reps.cons (Rep.ref (K := K) (F := F) x) h3) h4 h5
    have R1 : Rl K T F H ⟨none :: (ds.map (fun d => some (false, d)) ++ List.replicate (N.length - (ds.length + 1)) none), g⟩ (L2.start N (.ref x :: us)) := R0.drop0
    have no : ∀ a, ¬ Ownd (⟨none :: (ds.map (fun d => some (false, d)) ++ List.replicate (N.length - (ds.length + 1)) none), g⟩ : Sg G) (L2.start N (.ref x :: us)) a := fun a z => by
      obtain ⟨i, d, z1, z2⟩ := z
      cases i with
      | zero => cases z1
      | succ i => exact start_noown (N := N) (vs := .ref x :: us) (ds := .ref x :: ds) (g0 := g) ⟨i + 1, d, z1, z2⟩
    refine ini_b (h.sndF S hr) hN0 hv hok hC hA rfl cs e body hc F H _ _ R1 ?_
    have h9 : (match runIp K Γ cs e (⟨none :: (ds.map (fun d => some (false, d)) ++ List.replicate (N.length - (ds.length + 1)) none), g⟩ : Sg G) with
      | .ok d g' => ∀ v F' H', Fst1 T x F H F' H' g' → H' x = some (.ins (K.co cn) dx [(fl, v)]) → F' x = none → Rep K F' v d → Q .non H'
      | .er e g' => ∀ cls dd F' H', Fst1 T x F H F' H' g' → ErR K e cls dd F' H' → E cls dd H'
      | .no => False) := by
      have z := h9
      unfold runI at z
      cases q : runIp K Γ cs e (⟨none :: (ds.map (fun d => some (false, d)) ++ List.replicate (N.length - (ds.length + 1)) none), g⟩ : Sg G) with
      | no => rw [q] at z; exact z
      | er y g' => rw [q] at z; exact z
      | ok d g' => rw [q] at z; exact z
    cases q : runIp K Γ cs e (⟨none :: (ds.map (fun d => some (false, d)) ++ List.replicate (N.length - (ds.length + 1)) none), g⟩ : Sg G) with
    | no => rw [q] at h9; exact h9.elim
    | er y g' =>
      rw [q] at h9
      intro cls dd F' H' σ' xs er
      refine h9 cls dd F' H' ⟨xs.le, xs.sub, fun a o e nf _ => xs.keep a o e (no a) nf, fun a n => ?_, xs.gs, xs.gf⟩ er
      rcases xs.new a n with z | z | z
      · exact .inl z
      · exact .inr z
      · exact (no a z).elim
    | ok d g' =>
      rw [q] at h9
      intro v F' H' xs rv
      have hx : H' x = some (.ins (K.co cn) dx []) := xs.keep x _ h6 (no x) h8
      have Fx : F' x = none := by
        apply Classical.byContradiction
        intro z
        rcases xs.new x z with z | z | z
        · exact z h7
        · rw [h6] at z; cases z
        · exact no x z
      refine ⟨dx, hx, h9 v F' (upd H' x (.ins (K.co cn) dx [(fl, v)])) ⟨xs.le, fun a o e => ?_, fun a o e nf ne => ?_, fun a n => ?_, ?_, xs.gf⟩ upd_same Fx rv⟩
      · rw [upd_ne (fun z => by rw [z, Fx] at e; cases e)]; exact xs.sub a o e
      · rw [upd_ne ne]; exact xs.keep a o e (no a) nf
      · rcases xs.new a n with z | z | z
        · exact .inl z
        · exact .inr z
        · exact (no a z).elim
      · exact T.dep _ _ _ xs.gs fun a ha => upd_ne (fun z : a = x => h8 (z ▸ ha))
/-! ## a law -/
def spLaw (K : PySem.W.Frag) : Sp := fun vs H Q _ => ∃ (a : Addr) (ns : List Int), vs = [.ref a] ∧ ns.length ≤ 63 ∧ SqL K H a (ns.map V.int) ∧ ∀ H', Q (.bl true) H'
theorem law_ok {P : Program} {w : World} {mg : Str → Option Value} {base : Heap} {K : Env1} {k kM : Nat} {M : Pm} {Γ : Addr → Gam Dr} {x qual : Str} {params : Arguments} {rest : List Stmt} {scope : Scope} {f fM : Addr} {fd fdM : FuncData} {N1 : List Str} {code : Cs} {seed : Int} {p1 p2 p3 p4 p5 p6 : Pos} {k1 : Nat}
    (hw : K.w = w) (h : ∀ a0 a1 (hne : a0 ≠ a1), G0 P w mg base K (drT a0 a1 hne) k M (Γ a0))
    (Fn : FunD K.K x qual params (.Assign [.Name "_law_h" p1] (.Call (.Name "_law_mix" p2) [.Name "_law_script" p3, .Constant (.int seed) k1 p4] [] p5) p6 :: rest) scope [] [] f fd) (S : FnScope ("_law_script" :: "_law_h" :: N1) ["_law_script"] scope)
    (hl : locC scope "_law_h" = true) (hm : scope.names.lookup ("_law_mix" : Str) = some .globalImplicit) (FM : FnOk P w K.K mg base (L2.CX P w) kM fM fdM ["_law_script", "_law_seed"] (spMix K.K)) (hk : kM ≤ k) (gM : mg "_law_mix" = some (.ref fM)) (kp : PySem.W.keepIn K.K (.ref fM) = true) (bM : Binds K.K fdM ["_law_script", "_law_seed"] [])
    (hc : chB { M with N := "_law_script" :: "_law_h" :: N1 } scope code rest = true)
    (hrun : ∀ (a a0 : Addr) (g : Dr), ∃ g', ex K (Γ a0) code ⟨some (false, .ref a) :: some (false, .ref a0) :: List.replicate N1.length none, g⟩ = .rt (.bl true) g') :
    FnOk P w K.K mg base (L2.CX P w) (k + 1) f fd ["_law_script"] (spLaw K.K) := by
  refine Fn.ok (CX := L2.CX P w) S (fun vs H Q E h => ?_) (fun cdv A outer s H vs Q E hr h2 => ⟨_, pss_cons (ps_set S.nd (i := 1) rfl (locC_ok hl) (pe_call FM (hr.mono hk) hm gM kp bM .nil (ctx_fn (K := K) hw S hr).pass (pa_cons (pe_var (i := 0) rfl (vis_par S List.mem_cons_self)) (pa_cons pe_int pa_nil)))) (pss_self _ _), ?_⟩)
  · obtain ⟨a, ns, rfl, _⟩ := h
    rfl
  · obtain ⟨a, ns, rfl, h1, h2, hQ⟩ := h2
    refine ⟨.ref a, rfl, ⟨a, ns, seed, rfl, h2, h1, fun st a1 a0 n1 n0 ne => ?_⟩⟩
    obtain ⟨g', e⟩ := hrun a a0 ⟨st, ns, 0⟩
    have R : Rl K (drT a0 a1 ne) (fun _ => none) (upd (upd H a1 (.lst (ns.map V.int))) a0 (.lst [.int st, .ref a1, .int 0])) ⟨some (false, .ref a) :: some (false, .ref a0) :: List.replicate N1.length none, ⟨st, ns, 0⟩⟩ (some (.ref a) :: some (.ref a0) :: List.replicate N1.length none) := by
      have no : ∀ (i : Nat) (y : Bool × D), (some (false, D.ref a) :: some (false, D.ref a0) :: List.replicate N1.length none)[i]? = some (some y) → (i = 0 ∧ y = (false, D.ref a)) ∨ (i = 1 ∧ y = (false, D.ref a0)) := fun i y h => by
        match i with
        | 0 => cases h; exact .inl ⟨rfl, rfl⟩
        | 1 => cases h; exact .inr ⟨rfl, rfl⟩
        | i + 2 =>
          have h : (List.replicate N1.length (none : Option (Bool × D)))[i]? = some (some y) := h
          rw [List.getElem?_replicate] at h
          split at h <;> cases h
      refine ⟨(fun a o e => by cases e), by simp, fun i d h => ?_, fun i d h => ?_, fun i j d e p h1 => ?_, ⟨upd_same, (upd_ne (Ne.symm ne)).trans upd_same, h1⟩, fun _ _ => rfl⟩
      · rcases no i _ h with ⟨rfl, e⟩ | ⟨rfl, e⟩
        · cases e; exact ⟨_, rfl, .ref a⟩
        · cases e; exact ⟨_, rfl, .ref a0⟩
      · rcases no i _ h with ⟨rfl, e⟩ | ⟨rfl, e⟩ <;> cases e
      · rcases no i _ h1 with ⟨rfl, e⟩ | ⟨rfl, e⟩ <;> cases e
    refine good_b code _ _ _ _ ((h a0 a1 ne).sndF S hr) hc _ _ _ _ _ R ?_
    rw [e]
    intro v F' H' xs rv
    cases rv
    exact hQ H'
end BF
set_option Elab.async false
set_option linter.all false
set_option autoImplicit false
set_option maxRecDepth 100000
set_option maxHeartbeats 4000000
namespace BF
open PySem PySem.Spec PyProof.Rows L2
section
variable {G : Type} {P : Program} {w : World} {mg : Str → Option Value} {base : Heap} {K : Env1} {T : Gt G} {k : Nat} {M : Pm} {Γ : Gam G}
theorem G0.nil {cs : List Str} {ats : List (Str × Str)} {bl : List Str} (hw : K.w = w) (hb : ∀ x ∈ bl, mg x = none) (hE : cs = K.cs) (hc : ∀ c ∈ K.cs, ClsOk K c) (hg : ∀ c ∈ K.cs, mg c = some (.ref (K.co c))) (ha : ∀ q ∈ ats, Cls K.K (K.co q.1) ∧ NoAttr K.K (K.co q.1) q.2) : G0 P w mg base K T 0 ⟨[], [], cs, ats, bl⟩ [] where
  hw := hw
  gn := rfl
  cst := fun j x d e => by cases e
  fn := fun j x n m e => by cases e
  mks := fun j x c f n m e => by cases e
  bl := hb
  csE := hE
  cs := hc
  csG := hg
  ats := ha
theorem G0.snocC {x : Str} {d : D} {u : Value} {v : V} (h : G0 P w mg base K T k M Γ) (hm : mg x = some u) (hr : RelV v u) (hR : ∀ F, Rep K F v d) : G0 P w mg base K T k { M with gn := M.gn ++ [(x, .cst)] } (Γ ++ [(x, .cst d)]) where
  hw := h.hw
  gn := by rw [List.map_append, ← h.gn]; rfl
  cst := fun j y d e => by
    rcases snoc_get e with e | e
    · exact h.cst j y d e
    · cases e; exact ⟨u, v, hm, hr, hR⟩
  fn := fun j y n' m' e => by
    rcases snoc_get e with e | e
    · exact h.fn j y n' m' e
    · cases e
  mks := fun j y c f' n' m' e => by
    rcases snoc_get e with e | e
    · exact h.mks j y c f' n' m' e
    · cases e
  bl := h.bl
  csE := h.csE
  cs := h.cs
  csG := h.csG
  ats := h.ats
/-- a def that calls itself, to a depth -/
def recM (K : Env1) (Γ : Gam G) (x : Str) (np nN : Nat) (code : Cs) : Nat → Mir G
  | 0 => fun _ _ => .no
  | n + 1 => runF nN (ex K (Γ ++ [(x, .fn np (recM K Γ x np nN code n))]) code)
theorem rec_ok {x qual : Str} {params : Arguments} {body : List Stmt} {scope : Scope} {f : Addr} {fd : FuncData} {N ps : List Str} {code : Cs} (h : G0 P w mg base K T k M Γ) (Fn : FunD K.K x qual params body scope [] [] f fd) (S : FnScope N ps scope) (hm : mg x = some (.ref f)) (kp : PySem.W.keepIn K.K (.ref f) = true) (hb : Binds K.K fd ps [])
    (hc : chB { { M with gn := M.gn ++ [(x, Gk.fn ps.length)] } with N := N } scope code body = true) : ∀ n, FnOk P w K.K mg base (L2.CX P w) (k + 1 + n) f fd ps (spD K T ps.length (recM K Γ x ps.length N.length code n))
  | 0 => def_no k ps.length Fn S
  | n + 1 => def_ok (h.snoc (k' := k + 1 + n) (by omega) (Nat.le_refl _) (rec_ok h Fn S hm kp hb hc n) hm kp hb) Fn S hc
end
/-- nothing leaves a law -/
theorem law0 {P : Program} {w : World} {K : PySem.W.Frag} {mg : Str → Option Value} {base : Heap} {k : Nat} {f : Addr} {fd : FuncData} {ps : List Str} (F : FnOk P w K mg base (L2.CX P w) k f fd ps (spLaw K)) : FnOk P w K mg base CX0 k f fd ps (spLaw K) := by
  refine ⟨F.len, fun A outer s H args us vs Q E hr he hb hv hs => codeAny_mono (F.run A outer s H args us vs Q (fun _ _ _ => False) hr he hb hv hs) fun r s' h => ?_⟩
  cases r with
  | ok v => cases v <;> exact h
  | error e =>
    obtain ⟨_, _, _, _, _, _, _, _, _, _, _, _, z⟩ := h
    exact z
end BF
set_option Elab.async false
set_option linter.all false
set_option autoImplicit false
set_option maxRecDepth 100000
set_option maxHeartbeats 2000000
namespace BF
open PySem PySem.Spec PyProof.Rows L2
/-! ## how the evaluator is run by rewriting -/
section
variable {G : Type} {α β : Type}
@[simp] theorem rb_ok {a : α} {s : Sg G} {f : α → Sg G → Rs G β} : (Rs.ok a s).bind f = f a s := rfl
@[simp] theorem rb_er {x : Er} {g : G} {f : α → Sg G → Rs G β} : (Rs.er x g : Rs G α).bind f = .er x g := rfl
@[simp] theorem rb_no {f : α → Sg G → Rs G β} : (Rs.no : Rs G α).bind f = .no := rfl
theorem rb_congr {r r' : Rs G α} {f : α → Sg G → Rs G β} (h : r = r') : r.bind f = r'.bind f := by rw [h]
end
@[simp] theorem isi_non_int (K : Env1) : isiO K (.bty "int") [.non, .ty "int"] = some (.vl (.bl false)) := rfl
@[simp] theorem isi_non_bool (K : Env1) : isiO K (.bty "bool") [.non, .ty "bool"] = some (.vl (.bl false)) := rfl
@[simp] theorem isi_non_tuple (K : Env1) : isiO K (.bty "tuple") [.non, .ty "tuple"] = some (.vl (.bl false)) := rfl
@[simp] theorem isi_non_list (K : Env1) : isiO K (.bty "list") [.non, .ty "list"] = some (.vl (.bl false)) := rfl
@[simp] theorem isi_non_str (K : Env1) : isiO K (.bty "str") [.non, .ty "str"] = some (.vl (.bl false)) := rfl
@[simp] theorem isiT_non (K : Env1) : isiTO K "tuple" "list" [.non, .tup [.ty "tuple", .ty "list"]] = some (.vl (.bl false)) := rfl
@[simp] theorem isi_bl_int (K : Env1) (b : Bool) : isiO K (.bty "int") [(.bl b), .ty "int"] = some (.vl (.bl true)) := rfl
@[simp] theorem isi_bl_bool (K : Env1) (b : Bool) : isiO K (.bty "bool") [(.bl b), .ty "bool"] = some (.vl (.bl true)) := rfl
@[simp] theorem isi_bl_tuple (K : Env1) (b : Bool) : isiO K (.bty "tuple") [(.bl b), .ty "tuple"] = some (.vl (.bl false)) := rfl
@[simp] theorem isi_bl_list (K : Env1) (b : Bool) : isiO K (.bty "list") [(.bl b), .ty "list"] = some (.vl (.bl false)) := rfl
@[simp] theorem isi_bl_str (K : Env1) (b : Bool) : isiO K (.bty "str") [(.bl b), .ty "str"] = some (.vl (.bl false)) := rfl
@[simp] theorem isiT_bl (K : Env1) (b : Bool) : isiTO K "tuple" "list" [(.bl b), .tup [.ty "tuple", .ty "list"]] = some (.vl (.bl false)) := rfl
@[simp] theorem isi_int_int (K : Env1) (i : Int) : isiO K (.bty "int") [(.int i), .ty "int"] = some (.vl (.bl true)) := rfl
@[simp] theorem isi_int_bool (K : Env1) (i : Int) : isiO K (.bty "bool") [(.int i), .ty "bool"] = some (.vl (.bl false)) := rfl
@[simp] theorem isi_int_tuple (K : Env1) (i : Int) : isiO K (.bty "tuple") [(.int i), .ty "tuple"] = some (.vl (.bl false)) := rfl
@[simp] theorem isi_int_list (K : Env1) (i : Int) : isiO K (.bty "list") [(.int i), .ty "list"] = some (.vl (.bl false)) := rfl
@[simp] theorem isi_int_str (K : Env1) (i : Int) : isiO K (.bty "str") [(.int i), .ty "str"] = some (.vl (.bl false)) := rfl
@[simp] theorem isiT_int (K : Env1) (i : Int) : isiTO K "tuple" "list" [(.int i), .tup [.ty "tuple", .ty "list"]] = some (.vl (.bl false)) := rfl
@[simp] theorem isi_str_int (K : Env1) (z : Str) : isiO K (.bty "int") [(.str z), .ty "int"] = some (.vl (.bl false)) := rfl
@[simp] theorem isi_str_bool (K : Env1) (z : Str) : isiO K (.bty "bool") [(.str z), .ty "bool"] = some (.vl (.bl false)) := rfl
@[simp] theorem isi_str_tuple (K : Env1) (z : Str) : isiO K (.bty "tuple") [(.str z), .ty "tuple"] = some (.vl (.bl false)) := rfl
@[simp] theorem isi_str_list (K : Env1) (z : Str) : isiO K (.bty "list") [(.str z), .ty "list"] = some (.vl (.bl false)) := rfl
@[simp] theorem isi_str_str (K : Env1) (z : Str) : isiO K (.bty "str") [(.str z), .ty "str"] = some (.vl (.bl true)) := rfl
@[simp] theorem isiT_str (K : Env1) (z : Str) : isiTO K "tuple" "list" [(.str z), .tup [.ty "tuple", .ty "list"]] = some (.vl (.bl false)) := rfl
@[simp] theorem isi_lst_int (K : Env1) (xs : List D) : isiO K (.bty "int") [(.lst xs), .ty "int"] = some (.vl (.bl false)) := rfl
@[simp] theorem isi_lst_bool (K : Env1) (xs : List D) : isiO K (.bty "bool") [(.lst xs), .ty "bool"] = some (.vl (.bl false)) := rfl
@[simp] theorem isi_lst_tuple (K : Env1) (xs : List D) : isiO K (.bty "tuple") [(.lst xs), .ty "tuple"] = some (.vl (.bl false)) := rfl
@[simp] theorem isi_lst_list (K : Env1) (xs : List D) : isiO K (.bty "list") [(.lst xs), .ty "list"] = some (.vl (.bl true)) := rfl
@[simp] theorem isi_lst_str (K : Env1) (xs : List D) : isiO K (.bty "str") [(.lst xs), .ty "str"] = some (.vl (.bl false)) := rfl
@[simp] theorem isiT_lst (K : Env1) (xs : List D) : isiTO K "tuple" "list" [(.lst xs), .tup [.ty "tuple", .ty "list"]] = some (.vl (.bl true)) := rfl
@[simp] theorem isi_tup_int (K : Env1) (xs : List D) : isiO K (.bty "int") [(.tup xs), .ty "int"] = some (.vl (.bl false)) := rfl
@[simp] theorem isi_tup_bool (K : Env1) (xs : List D) : isiO K (.bty "bool") [(.tup xs), .ty "bool"] = some (.vl (.bl false)) := rfl
@[simp] theorem isi_tup_tuple (K : Env1) (xs : List D) : isiO K (.bty "tuple") [(.tup xs), .ty "tuple"] = some (.vl (.bl true)) := rfl
@[simp] theorem isi_tup_list (K : Env1) (xs : List D) : isiO K (.bty "list") [(.tup xs), .ty "list"] = some (.vl (.bl false)) := rfl
@[simp] theorem isi_tup_str (K : Env1) (xs : List D) : isiO K (.bty "str") [(.tup xs), .ty "str"] = some (.vl (.bl false)) := rfl
@[simp] theorem isiT_tup (K : Env1) (xs : List D) : isiTO K "tuple" "list" [(.tup xs), .tup [.ty "tuple", .ty "list"]] = some (.vl (.bl true)) := rfl
@[simp] theorem clD_bty (K : Env1) (n : String) : clD K (.bty n) = .ty n := rfl
@[simp] theorem sq_runF_1 : type_of% @runF.eq_1 := @runF.eq_1
@[simp] theorem sq_ex_1 : type_of% @ex.eq_1 := @ex.eq_1
@[simp] theorem sq_ex_2 : type_of% @ex.eq_2 := @ex.eq_2
@[simp] theorem sq_ex_3 : type_of% @ex.eq_3 := @ex.eq_3
@[simp] theorem sq_ex_4 : type_of% @ex.eq_4 := @ex.eq_4
@[simp] theorem sq_ex_5 : type_of% @ex.eq_5 := @ex.eq_5
@[simp] theorem sq_ex_6 : type_of% @ex.eq_6 := @ex.eq_6
@[simp] theorem sq_ex_7 : type_of% @ex.eq_7 := @ex.eq_7
@[simp] theorem sq_ex_8 : type_of% @ex.eq_8 := @ex.eq_8
@[simp] theorem sq_ex_9 : type_of% @ex.eq_9 := @ex.eq_9
@[simp] theorem sq_ex_10 : type_of% @ex.eq_10 := @ex.eq_10
@[simp] theorem sq_ex_11 : type_of% @ex.eq_11 := @ex.eq_11
@[simp] theorem sq_ex_12 : type_of% @ex.eq_12 := @ex.eq_12
@[simp] theorem sq_ex_13 : type_of% @ex.eq_13 := @ex.eq_13
@[simp] theorem sq_ex_14 : type_of% @ex.eq_14 := @ex.eq_14
@[simp] theorem sq_ex_15 : type_of% @ex.eq_15 := @ex.eq_15
@[simp] theorem sq_ex_16 : type_of% @ex.eq_16 := @ex.eq_16
@[simp] theorem sq_ex_17 : type_of% @ex.eq_17 := @ex.eq_17
@[simp] theorem sq_ex_18 : type_of% @ex.eq_18 := @ex.eq_18
@[simp] theorem sq_ex_19 : type_of% @ex.eq_19 := @ex.eq_19
@[simp] theorem sq_ex_20 : type_of% @ex.eq_20 := @ex.eq_20
@[simp] theorem sq_exSeq_1 : type_of% @exSeq.eq_1 := @exSeq.eq_1
@[simp] theorem sq_exRet_1 : type_of% @exRet.eq_1 := @exRet.eq_1
@[simp] theorem sq_exE_1 : type_of% @exE.eq_1 := @exE.eq_1
@[simp] theorem sq_exIf_1 : type_of% @exIf.eq_1 := @exIf.eq_1
@[simp] theorem sq_exAsg_1 : type_of% @exAsg.eq_1 := @exAsg.eq_1
@[simp] theorem sq_exDrop_1 : type_of% @exDrop.eq_1 := @exDrop.eq_1
@[simp] theorem sq_exFor_1 : type_of% @exFor.eq_1 := @exFor.eq_1
@[simp] theorem sq_exPar_1 : type_of% @exPar.eq_1 := @exPar.eq_1
@[simp] theorem sq_exL_1 : type_of% @exL.eq_1 := @exL.eq_1
@[simp] theorem sq_exUnp_1 : type_of% @exUnp.eq_1 := @exUnp.eq_1
@[simp] theorem sq_exAppend_1 : type_of% @exAppend.eq_1 := @exAppend.eq_1
@[simp] theorem sq_exApp_1 : type_of% @exApp.eq_1 := @exApp.eq_1
@[simp] theorem sq_exStore_1 : type_of% @exStore.eq_1 := @exStore.eq_1
@[simp] theorem sq_exAug_1 : type_of% @exAug.eq_1 := @exAug.eq_1
@[simp] theorem sq_ev_1 : type_of% @ev.eq_1 := @ev.eq_1
@[simp] theorem sq_ev_2 : type_of% @ev.eq_2 := @ev.eq_2
@[simp] theorem sq_ev_3 : type_of% @ev.eq_3 := @ev.eq_3
@[simp] theorem sq_ev_4 : type_of% @ev.eq_4 := @ev.eq_4
@[simp] theorem sq_ev_5 : type_of% @ev.eq_5 := @ev.eq_5
@[simp] theorem sq_ev_6 : type_of% @ev.eq_6 := @ev.eq_6
@[simp] theorem sq_ev_7 : type_of% @ev.eq_7 := @ev.eq_7
@[simp] theorem sq_ev_8 : type_of% @ev.eq_8 := @ev.eq_8
@[simp] theorem sq_ev_9 : type_of% @ev.eq_9 := @ev.eq_9
@[simp] theorem sq_ev_10 : type_of% @ev.eq_10 := @ev.eq_10
@[simp] theorem sq_ev_11 : type_of% @ev.eq_11 := @ev.eq_11
@[simp] theorem sq_ev_12 : type_of% @ev.eq_12 := @ev.eq_12
@[simp] theorem sq_ev_13 : type_of% @ev.eq_13 := @ev.eq_13
@[simp] theorem sq_ev_14 : type_of% @ev.eq_14 := @ev.eq_14
@[simp] theorem sq_ev_15 : type_of% @ev.eq_15 := @ev.eq_15
@[simp] theorem sq_ev_16 : type_of% @ev.eq_16 := @ev.eq_16
@[simp] theorem sq_ev_17 : type_of% @ev.eq_17 := @ev.eq_17
@[simp] theorem sq_ev_18 : type_of% @ev.eq_18 := @ev.eq_18
@[simp] theorem sq_ev_19 : type_of% @ev.eq_19 := @ev.eq_19
@[simp] theorem sq_ev_20 : type_of% @ev.eq_20 := @ev.eq_20
@[simp] theorem sq_ev_21 : type_of% @ev.eq_21 := @ev.eq_21
@[simp] theorem sq_ev_22 : type_of% @ev.eq_22 := @ev.eq_22
@[simp] theorem sq_ev_23 : type_of% @ev.eq_23 := @ev.eq_23
@[simp] theorem sq_ev_24 : type_of% @ev.eq_24 := @ev.eq_24
@[simp] theorem sq_ev_25 : type_of% @ev.eq_25 := @ev.eq_25
@[simp] theorem sq_ev_26 : type_of% @ev.eq_26 := @ev.eq_26
@[simp] theorem sq_ev_27 : type_of% @ev.eq_27 := @ev.eq_27
@[simp] theorem sq_ev_28 : type_of% @ev.eq_28 := @ev.eq_28
@[simp] theorem sq_ev_29 : type_of% @ev.eq_29 := @ev.eq_29
@[simp] theorem sq_ev_30 : type_of% @ev.eq_30 := @ev.eq_30
@[simp] theorem sq_evA_1 : type_of% @evA.eq_1 := @evA.eq_1
@[simp] theorem sq_evA_2 : type_of% @evA.eq_2 := @evA.eq_2
@[simp] theorem sq_evB_1 : type_of% @evB.eq_1 := @evB.eq_1
@[simp] theorem sq_evB_2 : type_of% @evB.eq_2 := @evB.eq_2
@[simp] theorem sq_evB_3 : type_of% @evB.eq_3 := @evB.eq_3
@[simp] theorem sq_evI_1 : type_of% @evI.eq_1 := @evI.eq_1
@[simp] theorem sq_evI_2 : type_of% @evI.eq_2 := @evI.eq_2
@[simp] theorem sq_evI_3 : type_of% @evI.eq_3 := @evI.eq_3
@[simp] theorem sq_evI_4 : type_of% @evI.eq_4 := @evI.eq_4
@[simp] theorem sq_evI_5 : type_of% @evI.eq_5 := @evI.eq_5
@[simp] theorem sq_evOp_1 : type_of% @evOp.eq_1 := @evOp.eq_1
@[simp] theorem sq_evCons_1 : type_of% @evCons.eq_1 := @evCons.eq_1
@[simp] theorem sq_evNil_1 : type_of% @evNil.eq_1 := @evNil.eq_1
@[simp] theorem sq_evVar_1 : type_of% @evVar.eq_1 := @evVar.eq_1
@[simp] theorem sq_evC_1 : type_of% @evC.eq_1 := @evC.eq_1
@[simp] theorem sq_evIf_1 : type_of% @evIf.eq_1 := @evIf.eq_1
@[simp] theorem sq_evAnd_1 : type_of% @evAnd.eq_1 := @evAnd.eq_1
@[simp] theorem sq_evOr_1 : type_of% @evOr.eq_1 := @evOr.eq_1
@[simp] theorem sq_evNot_1 : type_of% @evNot.eq_1 := @evNot.eq_1
@[simp] theorem sq_evTup_1 : type_of% @evTup.eq_1 := @evTup.eq_1
@[simp] theorem sq_evLst_1 : type_of% @evLst.eq_1 := @evLst.eq_1
@[simp] theorem sq_evCall_1 : type_of% @evCall.eq_1 := @evCall.eq_1
@[simp] theorem sq_evChain_1 : type_of% @evChain.eq_1 := @evChain.eq_1
@[simp] theorem sq_evSeq_1 : type_of% @evSeq.eq_1 := @evSeq.eq_1
@[simp] theorem sq_evRg1_1 : type_of% @evRg1.eq_1 := @evRg1.eq_1
@[simp] theorem sq_evRg2_1 : type_of% @evRg2.eq_1 := @evRg2.eq_1
@[simp] theorem sq_evEnum_1 : type_of% @evEnum.eq_1 := @evEnum.eq_1
@[simp] theorem sq_pks_1 : type_of% @pks.eq_1 := @pks.eq_1
@[simp] theorem sq_pks_2 : type_of% @pks.eq_2 := @pks.eq_2
@[simp] theorem sq_pk_1 : type_of% @pk.eq_1 := @pk.eq_1
@[simp] theorem sq_pk_2 : type_of% @pk.eq_2 := @pk.eq_2
@[simp] theorem sq_pk_3 : type_of% @pk.eq_3 := @pk.eq_3
@[simp] theorem sq_look_1 : type_of% @look.eq_1 := @look.eq_1
@[simp] theorem sq_use_1 : type_of% @use.eq_1 := @use.eq_1
@[simp] theorem sq_use_2 : type_of% @use.eq_2 := @use.eq_2
@[simp] theorem sq_use_3 : type_of% @use.eq_3 := @use.eq_3
@[simp] theorem sq_uses_1 : type_of% @uses.eq_1 := @uses.eq_1
@[simp] theorem sq_uses_2 : type_of% @uses.eq_2 := @uses.eq_2
@[simp] theorem sq_frzS_1 : type_of% @frzS.eq_1 := @frzS.eq_1
@[simp] theorem sq_tst_1 : type_of% @tst.eq_1 := @tst.eq_1
@[simp] theorem sq_one_1 : type_of% @one.eq_1 := @one.eq_1
@[simp] theorem sq_one_2 : type_of% @one.eq_2 := @one.eq_2
@[simp] theorem sq_two_1 : type_of% @two.eq_1 := @two.eq_1
@[simp] theorem sq_two_2 : type_of% @two.eq_2 := @two.eq_2
@[simp] theorem sq_sc_1 : type_of% @sc.eq_1 := @sc.eq_1
@[simp] theorem sq_boF_1 : type_of% @boF.eq_1 := @boF.eq_1
@[simp] theorem sq_boF_2 : type_of% @boF.eq_2 := @boF.eq_2
@[simp] theorem sq_boF_3 : type_of% @boF.eq_3 := @boF.eq_3
@[simp] theorem sq_boF_4 : type_of% @boF.eq_4 := @boF.eq_4
@[simp] theorem sq_boF_5 : type_of% @boF.eq_5 := @boF.eq_5
@[simp] theorem sq_boF_6 : type_of% @boF.eq_6 := @boF.eq_6
@[simp] theorem sq_coF_1 : type_of% @coF.eq_1 := @coF.eq_1
@[simp] theorem sq_coF_2 : type_of% @coF.eq_2 := @coF.eq_2
@[simp] theorem sq_coF_3 : type_of% @coF.eq_3 := @coF.eq_3
@[simp] theorem sq_coF_4 : type_of% @coF.eq_4 := @coF.eq_4
@[simp] theorem sq_coF_5 : type_of% @coF.eq_5 := @coF.eq_5
@[simp] theorem sq_coF_6 : type_of% @coF.eq_6 := @coF.eq_6
@[simp] theorem sq_coF_7 : type_of% @coF.eq_7 := @coF.eq_7
@[simp] theorem sq_coF_8 : type_of% @coF.eq_8 := @coF.eq_8
@[simp] theorem sq_coF_9 : type_of% @coF.eq_9 := @coF.eq_9
@[simp] theorem sq_coF_10 : type_of% @coF.eq_10 := @coF.eq_10
@[simp] theorem sq_blF_1 : type_of% @blF.eq_1 := @blF.eq_1
@[simp] theorem sq_blF_2 : type_of% @blF.eq_2 := @blF.eq_2
@[simp] theorem sq_blF_3 : type_of% @blF.eq_3 := @blF.eq_3
@[simp] theorem sq_blF_4 : type_of% @blF.eq_4 := @blF.eq_4
@[simp] theorem sq_blF_5 : type_of% @blF.eq_5 := @blF.eq_5
@[simp] theorem sq_blF_6 : type_of% @blF.eq_6 := @blF.eq_6
@[simp] theorem sq_blF_7 : type_of% @blF.eq_7 := @blF.eq_7
@[simp] theorem sq_blF_8 : type_of% @blF.eq_8 := @blF.eq_8
@[simp] theorem sq_blF_9 : type_of% @blF.eq_9 := @blF.eq_9
@[simp] theorem sq_blF_10 : type_of% @blF.eq_10 := @blF.eq_10
@[simp] theorem sq_blF_11 : type_of% @blF.eq_11 := @blF.eq_11
@[simp] theorem sq_blF_12 : type_of% @blF.eq_12 := @blF.eq_12
@[simp] theorem sq_blF_13 : type_of% @blF.eq_13 := @blF.eq_13
@[simp] theorem sq_addO_1 : type_of% @addO.eq_1 := @addO.eq_1
@[simp] theorem sq_addO_2 : type_of% @addO.eq_2 := @addO.eq_2
@[simp] theorem sq_addO_3 : type_of% @addO.eq_3 := @addO.eq_3
@[simp] theorem sq_addO_4 : type_of% @addO.eq_4 := @addO.eq_4
@[simp] theorem sq_addO_5 : type_of% @addO.eq_5 := @addO.eq_5
@[simp] theorem sq_subO_1 : type_of% @subO.eq_1 := @subO.eq_1
@[simp] theorem sq_subO_2 : type_of% @subO.eq_2 := @subO.eq_2
@[simp] theorem sq_modO_1 : type_of% @modO.eq_1 := @modO.eq_1
@[simp] theorem sq_modO_2 : type_of% @modO.eq_2 := @modO.eq_2
@[simp] theorem sq_fdivO_1 : type_of% @fdivO.eq_1 := @fdivO.eq_1
@[simp] theorem sq_fdivO_2 : type_of% @fdivO.eq_2 := @fdivO.eq_2
@[simp] theorem sq_powO_1 : type_of% @powO.eq_1 := @powO.eq_1
@[simp] theorem sq_powO_2 : type_of% @powO.eq_2 := @powO.eq_2
@[simp] theorem sq_ltO_1 : type_of% @ltO.eq_1 := @ltO.eq_1
@[simp] theorem sq_ltO_2 : type_of% @ltO.eq_2 := @ltO.eq_2
@[simp] theorem sq_leO_1 : type_of% @leO.eq_1 := @leO.eq_1
@[simp] theorem sq_leO_2 : type_of% @leO.eq_2 := @leO.eq_2
@[simp] theorem sq_gtO_1 : type_of% @gtO.eq_1 := @gtO.eq_1
@[simp] theorem sq_gtO_2 : type_of% @gtO.eq_2 := @gtO.eq_2
@[simp] theorem sq_geO_1 : type_of% @geO.eq_1 := @geO.eq_1
@[simp] theorem sq_geO_2 : type_of% @geO.eq_2 := @geO.eq_2
@[simp] theorem sq_isO_1 : type_of% @isO.eq_1 := @isO.eq_1
@[simp] theorem sq_isO_2 : type_of% @isO.eq_2 := @isO.eq_2
@[simp] theorem sq_isnO_1 : type_of% @isnO.eq_1 := @isnO.eq_1
@[simp] theorem sq_isnO_2 : type_of% @isnO.eq_2 := @isnO.eq_2
@[simp] theorem sq_negO_1 : type_of% @negO.eq_1 := @negO.eq_1
@[simp] theorem sq_negO_2 : type_of% @negO.eq_2 := @negO.eq_2
@[simp] theorem sq_ixO_1 : type_of% @ixO.eq_1 := @ixO.eq_1
@[simp] theorem sq_ixO_2 : type_of% @ixO.eq_2 := @ixO.eq_2
@[simp] theorem sq_ixO_3 : type_of% @ixO.eq_3 := @ixO.eq_3
@[simp] theorem sq_lenO_1 : type_of% @lenO.eq_1 := @lenO.eq_1
@[simp] theorem sq_lenO_2 : type_of% @lenO.eq_2 := @lenO.eq_2
@[simp] theorem sq_lenO_3 : type_of% @lenO.eq_3 := @lenO.eq_3
@[simp] theorem sq_lenO_4 : type_of% @lenO.eq_4 := @lenO.eq_4
@[simp] theorem sq_intO_1 : type_of% @intO.eq_1 := @intO.eq_1
@[simp] theorem sq_intO_2 : type_of% @intO.eq_2 := @intO.eq_2
@[simp] theorem sq_intO_3 : type_of% @intO.eq_3 := @intO.eq_3
@[simp] theorem sq_isNon_1 : type_of% @isNon.eq_1 := @isNon.eq_1
@[simp] theorem sq_isNon_2 : type_of% @isNon.eq_2 := @isNon.eq_2
@[simp] theorem sq_asgO_1 : type_of% @asgO.eq_1 := @asgO.eq_1
@[simp] theorem sq_asgO_2 : type_of% @asgO.eq_2 := @asgO.eq_2
@[simp] theorem sq_asgO_3 : type_of% @asgO.eq_3 := @asgO.eq_3
@[simp] theorem sq_asgT_1 : type_of% @asgT.eq_1 := @asgT.eq_1
@[simp] theorem sq_asgT_2 : type_of% @asgT.eq_2 := @asgT.eq_2
@[simp] theorem sq_asgT_3 : type_of% @asgT.eq_3 := @asgT.eq_3
@[simp] theorem sq_asgN_1 : type_of% @asgN.eq_1 := @asgN.eq_1
@[simp] theorem sq_asgs_1 : type_of% @asgs.eq_1 := @asgs.eq_1
@[simp] theorem sq_asgs_2 : type_of% @asgs.eq_2 := @asgs.eq_2
@[simp] theorem sq_asgs_3 : type_of% @asgs.eq_3 := @asgs.eq_3
@[simp] theorem sq_asgsO_1 : type_of% @asgsO.eq_1 := @asgsO.eq_1
@[simp] theorem sq_asgsO_2 : type_of% @asgsO.eq_2 := @asgsO.eq_2
@[simp] theorem sq_asgsO_3 : type_of% @asgsO.eq_3 := @asgsO.eq_3
@[simp] theorem sq_nrms_1 : type_of% @nrms.eq_1 := @nrms.eq_1
@[simp] theorem sq_nrms_2 : type_of% @nrms.eq_2 := @nrms.eq_2
@[simp] theorem sq_nrms_3 : type_of% @nrms.eq_3 := @nrms.eq_3
@[simp] theorem sq_nrms_4 : type_of% @nrms.eq_4 := @nrms.eq_4
@[simp] theorem sq_setS_1 : type_of% @setS.eq_1 := @setS.eq_1
@[simp] theorem sq_isOwnL_1 : type_of% @isOwnL.eq_1 := @isOwnL.eq_1
@[simp] theorem sq_tupleO_1 : type_of% @tupleO.eq_1 := @tupleO.eq_1
@[simp] theorem sq_tupleO_2 : type_of% @tupleO.eq_2 := @tupleO.eq_2
@[simp] theorem sq_tupleO_3 : type_of% @tupleO.eq_3 := @tupleO.eq_3
@[simp] theorem sq_listO_1 : type_of% @listO.eq_1 := @listO.eq_1
@[simp] theorem sq_listO_2 : type_of% @listO.eq_2 := @listO.eq_2
@[simp] theorem sq_listO_3 : type_of% @listO.eq_3 := @listO.eq_3
@[simp] theorem sq_max2O_1 : type_of% @max2O.eq_1 := @max2O.eq_1
@[simp] theorem sq_max2O_2 : type_of% @max2O.eq_2 := @max2O.eq_2
@[simp] theorem sq_min2O_1 : type_of% @min2O.eq_1 := @min2O.eq_1
@[simp] theorem sq_min2O_2 : type_of% @min2O.eq_2 := @min2O.eq_2
@[simp] theorem sq_attrO_1 : type_of% @attrO.eq_1 := @attrO.eq_1
@[simp] theorem sq_attrO_2 : type_of% @attrO.eq_2 := @attrO.eq_2
@[simp] theorem sq_slcO_1 : type_of% @slcO.eq_1 := @slcO.eq_1
@[simp] theorem sq_slcO_2 : type_of% @slcO.eq_2 := @slcO.eq_2
@[simp] theorem sq_slcO_3 : type_of% @slcO.eq_3 := @slcO.eq_3
@[simp] theorem sq_slLo_1 : type_of% @slLo.eq_1 := @slLo.eq_1
@[simp] theorem sq_slLo_2 : type_of% @slLo.eq_2 := @slLo.eq_2
@[simp] theorem sq_slHi_1 : type_of% @slHi.eq_1 := @slHi.eq_1
@[simp] theorem sq_slHi_2 : type_of% @slHi.eq_2 := @slHi.eq_2
@[simp] theorem sq_mkM_1 : type_of% @mkM.eq_1 := @mkM.eq_1
@[simp] theorem sq_evLc_1 : type_of% @evLc.eq_1 := @evLc.eq_1
@[simp] theorem sq_wipeS_1 : type_of% @wipeS.eq_1 := @wipeS.eq_1
@[simp] theorem sq_wipeO_1 : type_of% @wipeO.eq_1 := @wipeO.eq_1
@[simp] theorem sq_wipeO_2 : type_of% @wipeO.eq_2 := @wipeO.eq_2
@[simp] theorem sq_restS_1 : type_of% @restS.eq_1 := @restS.eq_1
@[simp] theorem sq_restL_1 : type_of% @restL.eq_1 := @restL.eq_1
@[simp] theorem sq_restL_2 : type_of% @restL.eq_2 := @restL.eq_2
@[simp] theorem sq_evDnew_1 : type_of% @evDnew.eq_1 := @evDnew.eq_1
@[simp] theorem sq_evD1_1 : type_of% @evD1.eq_1 := @evD1.eq_1
@[simp] theorem sq_evGet_1 : type_of% @evGet.eq_1 := @evGet.eq_1
@[simp] theorem sq_evPop_1 : type_of% @evPop.eq_1 := @evPop.eq_1
@[simp] theorem sq_evLzip_1 : type_of% @evLzip.eq_1 := @evLzip.eq_1
@[simp] theorem sq_evZip_1 : type_of% @evZip.eq_1 := @evZip.eq_1
@[simp] theorem sq_inO2_1 : type_of% @inO2.eq_1 := @inO2.eq_1
@[simp] theorem sq_inO2_2 : type_of% @inO2.eq_2 := @inO2.eq_2
@[simp] theorem sq_ninO2_1 : type_of% @ninO2.eq_1 := @ninO2.eq_1
@[simp] theorem sq_ninO2_2 : type_of% @ninO2.eq_2 := @ninO2.eq_2
@[simp] theorem sq_ixO2_1 : type_of% @ixO2.eq_1 := @ixO2.eq_1
@[simp] theorem sq_ixO2_2 : type_of% @ixO2.eq_2 := @ixO2.eq_2
@[simp] theorem sq_lenO2_1 : type_of% @lenO2.eq_1 := @lenO2.eq_1
@[simp] theorem sq_lenO2_2 : type_of% @lenO2.eq_2 := @lenO2.eq_2
@[simp] theorem sq_isOwnC_1 : type_of% @isOwnC.eq_1 := @isOwnC.eq_1
@[simp] theorem sq_stO_1 : type_of% @stO.eq_1 := @stO.eq_1
@[simp] theorem sq_stO_2 : type_of% @stO.eq_2 := @stO.eq_2
@[simp] theorem sq_stO_3 : type_of% @stO.eq_3 := @stO.eq_3
@[simp] theorem sq_getO_1 : type_of% @getO.eq_1 := @getO.eq_1
@[simp] theorem sq_getO_2 : type_of% @getO.eq_2 := @getO.eq_2
@[simp] theorem sq_isDct_1 : type_of% @isDct.eq_1 := @isDct.eq_1
@[simp] theorem sq_isDct_2 : type_of% @isDct.eq_2 := @isDct.eq_2
@[simp] theorem sq_seqO_1 : type_of% @seqO.eq_1 := @seqO.eq_1
@[simp] theorem sq_seqO_2 : type_of% @seqO.eq_2 := @seqO.eq_2
@[simp] theorem sq_seqO_3 : type_of% @seqO.eq_3 := @seqO.eq_3
@[simp] theorem sq_seqO_4 : type_of% @seqO.eq_4 := @seqO.eq_4
@[simp] theorem sq_evHid_1 : type_of% @evHid.eq_1 := @evHid.eq_1
@[simp] theorem sq_evLcD_1 : type_of% @evLcD.eq_1 := @evLcD.eq_1
@[simp] theorem sq_hidS_1 : type_of% @hidS.eq_1 := @hidS.eq_1
@[simp] theorem sq_exAugS_1 : type_of% @exAugS.eq_1 := @exAugS.eq_1
@[simp] theorem sq_exNst_1 : type_of% @exNst.eq_1 := @exNst.eq_1
@[simp] theorem sq_minO2_1 : type_of% @minO2.eq_1 := @minO2.eq_1
@[simp] theorem sq_minO2_2 : type_of% @minO2.eq_2 := @minO2.eq_2
theorem forL_nil {G : Type} {t : Tg} {body : Sg G → Ro G} {s : Sg G} : forL t body [] s = .nx s := rfl
end BF
set_option Elab.async false
set_option linter.all false
set_option autoImplicit false
set_option maxRecDepth 100000
set_option maxHeartbeats 2000000
namespace BF
open PySem PySem.Spec PyProof.Rows L2
/-! ## loops and comprehensions by an invariant -/
inductive All2 {α β : Type} (R : α → β → Prop) : List α → List β → Prop
  | nil : All2 R [] []
  | cons {a : α} {b : β} {as : List α} {bs : List β} : R a b → All2 R as bs → All2 R (a :: as) (b :: bs)
theorem All2.length {α β : Type} {R : α → β → Prop} {as : List α} {bs : List β} (h : All2 R as bs) : bs.length = as.length := by
  induction h with
  | nil => rfl
  | cons _ _ ih => simp [ih]
theorem All2.right {α β : Type} {R : α → β → Prop} {P : β → Prop} (hp : ∀ a b, R a b → P b) {as : List α} {bs : List β} (h : All2 R as bs) : ∀ b ∈ bs, P b := by
  induction h with
  | nil => intro b hb; cases hb
  | cons r _ ih =>
    intro b hb
    rcases List.mem_cons.mp hb with rfl | hb
    · exact hp _ _ r
    · exact ih b hb
theorem All2.map {α β γ : Type} {f : α → γ → β} {as : List α} {bs : List β} (h : All2 (fun a b => ∃ c, b = f a c) as bs) : True := trivial
section
variable {G : Type} {t : Tg} {body : Sg G → Ro G} {ft fe : Sg G → Rs G Ov} {own : List Nat}
/-- a loop that runs to its end: I tells of what is left and of the state -/
theorem forL_ind (I : List D → Sg G → Prop) (h : ∀ d ds s, I (d :: ds) s → ∃ s1 s2, asgT t d s = some s1 ∧ body s1 = .nx s2 ∧ I ds s2) : ∀ (ds : List D) (s : Sg G), I ds s → ∃ s', forL t body ds s = .nx s' ∧ I [] s'
  | [], s, i => ⟨s, rfl, i⟩
  | d :: ds, s, i => by
    obtain ⟨s1, s2, h1, h2, h3⟩ := h d ds s i
    obtain ⟨s', h4, h5⟩ := forL_ind I h ds s2 h3
    refine ⟨s', ?_, h5⟩
    unfold forL
    rw [h1]
    show (match body s1 with
      | .nx s2 => forL t body ds s2
      | .ct s2 => forL t body ds s2
      | .bk s2 => .nx s2
      | .rt d g => .rt d g
      | .er x g => .er x g
      | .no => .no) = _
    rw [h2]
    exact h4
/-- a comprehension with no condition -/
theorem lcL_all (I : Sg G → Prop) (R : D → D → Prop) : ∀ (ds : List D) (s : Sg G), (∀ d ∈ ds, ∀ s, I s → ∃ s1 y s3 r s4, asgT t d s = some s1 ∧ fe s1 = .ok y s3 ∧ use s3 y = .ok r s4 ∧ I (wipeS s4 own) ∧ R d r) → I s → ∃ rs s', lcL t (evC (.bl true)) fe own ds s = .ok rs s' ∧ I s' ∧ All2 R ds rs
  | [], s, _, i => ⟨[], s, rfl, i, .nil⟩
  | d :: ds, s, h, i => by
    obtain ⟨s1, y, s3, r, s4, h1, h2, h3, h4, h5⟩ := h d List.mem_cons_self s i
    obtain ⟨rs, s', h6, h7, h8⟩ := lcL_all I R ds (wipeS s4 own) (fun d hd => h d (List.mem_cons_of_mem _ hd)) h4
    refine ⟨r :: rs, s', ?_, h7, .cons h5 h8⟩
    unfold lcL
    rw [h1]
    simp only [evC, tst, pk]
    rw [h2]
    simp only []
    rw [h3]
    simp only []
    rw [h6]
    rfl
/-- a comprehension that leaves the state -/
theorem lcL_map (f : D → D) {s0 : Sg G} (ds : List D) (h : ∀ d ∈ ds, ∃ s1 y s3 s4, asgT t d s0 = some s1 ∧ fe s1 = .ok y s3 ∧ use s3 y = .ok (f d) s4 ∧ wipeS s4 own = s0) : lcL t (evC (.bl true)) fe own ds s0 = .ok (ds.map f) s0 := by
  obtain ⟨rs, s', h1, h2, h3⟩ := lcL_all (t := t) (fe := fe) (own := own) (fun s => s = s0) (fun d r => r = f d) ds s0 (fun d hd s e => by
    subst e
    obtain ⟨s1, y, s3, s4, k1, k2, k3, k4⟩ := h d hd
    exact ⟨s1, y, s3, f d, s4, k1, k2, k3, k4, rfl⟩) rfl
  subst h2
  rw [h1]
  congr 1
  clear h1 h
  induction h3 with
  | nil => rfl
  | cons r _ ih => rw [r, ih]; rfl
/-- a comprehension with a condition -/
theorem lcL_filter (p : D → Bool) (f : D → D) {s0 : Sg G} : ∀ (ds : List D), (∀ d ∈ ds, ∃ s1 x s2, asgT t d s0 = some s1 ∧ ft s1 = .ok x s2 ∧ tst s2 x = some (p d) ∧ (p d = false → wipeS s2 own = s0) ∧ (p d = true → ∃ y s3 s4, fe s2 = .ok y s3 ∧ use s3 y = .ok (f d) s4 ∧ wipeS s4 own = s0)) → lcL t ft fe own ds s0 = .ok ((ds.filter p).map f) s0
  | [], _ => rfl
  | d :: ds, h => by
    obtain ⟨s1, x, s2, h1, h2, h3, h4, h5⟩ := h d List.mem_cons_self
    have ih := lcL_filter p f ds (fun d hd => h d (List.mem_cons_of_mem _ hd))
    unfold lcL
    rw [h1]
    simp only []
    rw [h2]
    simp only []
    rw [h3]
    cases q : p d with
    | false =>
      simp only []
      rw [h4 q, ih, List.filter_cons_of_neg (by simp [q])]
    | true =>
      obtain ⟨y, s3, s4, k1, k2, k3⟩ := h5 q
      simp only []
      rw [k1]
      simp only []
      rw [k2]
      simp only []
      rw [k3, ih, List.filter_cons_of_pos (by simp [q])]
      rfl
theorem lcL_none (ds : List D) {s0 : Sg G} (h : ∀ d ∈ ds, ∃ s1 x s2, asgT t d s0 = some s1 ∧ ft s1 = .ok x s2 ∧ tst s2 x = some false ∧ wipeS s2 own = s0) : lcL t ft fe own ds s0 = .ok [] s0 := by
  have := lcL_filter (t := t) (ft := ft) (fe := fe) (own := own) (fun _ => false) id ds (s0 := s0) (fun d hd => by
    obtain ⟨s1, x, s2, h1, h2, h3, h4⟩ := h d hd
    exact ⟨s1, x, s2, h1, h2, h3, fun _ => h4, fun z => by cases z⟩)
  rw [this]
  simp
end
/-! ## the draws -/
theorem next_eq {a0 : Addr} {cap : Int} {g : Dr} (h : 0 < cap) (h2 : cap < 1073741824) : ∃ (v : Nat) (g' : Dr), mNext a0 [.ref a0, .int cap] g = .ok (.int v) g' ∧ (v : Int) < cap := by
  refine ⟨(nxV g cap).toNat, nxG g cap, ?_, ?_⟩
  · show (if a0 = a0 ∧ 0 < cap ∧ cap < 1073741824 then Fr.ok (.int (nxV g cap)) (nxG g cap) else .no) = _
    rw [if_pos ⟨rfl, h, h2⟩, Int.toNat_of_nonneg (nxV_nn h)]
  · rw [Int.toNat_of_nonneg (nxV_nn h)]; exact nxV_lt h
/-! ## machines as data -/
def nat (n : Nat) : D := .int n
def rowD (r : List Nat) : D := .tup (r.map nat)
def stepsD (s : List (List Nat)) : D := .tup (s.map rowD)
def partsD (s : List (List Nat)) (good : List Nat) : D := .tup [stepsD s, rowD good]
def machD (s : List (List Nat)) (good : List Nat) : D := .obj "Machine" [("parts", partsD s good)]
/-- what a machine's steps are: L letters -/
structure StOk (s : List (List Nat)) (L : Nat) : Prop where
  n1 : 1 ≤ s.length
  n8 : s.length ≤ 8
  l1 : 1 ≤ L
  l3 : L ≤ 3
  len : ∀ r ∈ s, r.length = L
  lt : ∀ r ∈ s, ∀ x ∈ r, x < s.length
structure GdOk (n : Nat) (good : List Nat) : Prop where
  inc : good.Pairwise (· < ·)
  lt : ∀ x ∈ good, x < n
theorem intsD_nat (n : Nat) : intsD 0 n = (List.range n).map nat := by
  unfold intsD nat
  congr 1
  funext i
  simp
theorem atI_map {α β : Type} {xs : List α} {j : Nat} {f : α → β} (h : j < xs.length) : L2.atI (xs.map f) (j : Int) = some (f xs[j]) := by
  refine atI_nat ?_
  rw [List.getElem?_map, List.getElem?_eq_getElem h]
  rfl
end BF
set_option Elab.async false
set_option linter.all false
set_option autoImplicit false
set_option maxRecDepth 100000
set_option maxHeartbeats 2000000
/-! the head's facts, with one Bool more -/
namespace BF
open PySem PySem.Spec PyProof.Rows L2 He
abbrev AlB : Type := He.AlD × Bool
def obsB (n : Nat) (fa : List Fa) (fn : List DefD) (ex : PySem.W.Frag → Bool) (g : Addr → Option Obj) : AlB := (obsD fa fn (frG g (asD g n)), ex (frG g (asD g n)))
def hookB (n : Nat) (fa : List Fa) (fn : List DefD) (ex : PySem.W.Frag → Bool) : PySem.W.Hook where
  α := AlB
  obs := fun s => obsB n fa fn ex s.heap.get?
  val := fun _ => (valD fn, true)
  says := fun _ h => ∃ K : PySem.W.Frag, K.In h ∧ SaysD fa fn K ∧ ex K = true
  of := fun _ _ e => ⟨_, frG_in, congrArg (fun z : AlB => z.1) e, congrArg (fun z : AlB => z.2) e⟩
  keeps := fun _ _ _ ⟨K, hK, c⟩ k => ⟨K, PySem.W.Frag.In.keeps hK k, c⟩
theorem obsB_eq {n : Nat} {fa : List Fa} {fn : List DefD} {ex : PySem.W.Frag → Bool} {g : Addr → Option Obj} {s : Shared} (h : ∀ a, g a = s.heap.get? a) : obsB n fa fn ex g = (hookB n fa fn ex).obs s := by
  have e : g = s.heap.get? := funext h
  rw [e] <;> rfl
/-- a module's tuple -/
theorem tup_fact {K : Env1} {x : Str} {vs : List Dv} {ds : List D} (h : tupB K.K x vs = true) (hr : ∀ F, Reps K F (vs.map (Dv.v K.K)) ds) : ∀ F, Rep K F (.ref (ga K.K x)) (.tup ds) := fun F => by
  refine .tup ?_ (hr F)
  rcases tupB_ok h (fun _ => none) with (q | ⟨o, q⟩) | q
  · cases q
  · cases q
  · exact .inr q
end BF
set_option Elab.async false
set_option linter.all false
set_option maxRecDepth 100000
set_option maxHeartbeats 0
namespace BF
open PySem PySem.Spec PyProof.Rows L2
def N_is_integer : List PySem.Str := (["thing", "low", "high"] : List PySem.Str)
def c_is_integer : Cs :=
  (.cons (.ret (.bop true (.cons (.isi (.bty "int") (.var 0)) (.cons (.not (.isi (.bty "bool") (.var 0))) (.cons (.chain .le .le (.var 1) (.var 0) (.var 2)) .nil)))))
  .nil)
def N_check_steps : List PySem.Str := (["thing", "index", "row", "stand"] : List PySem.Str)
def c_check_steps_e1 (u_is_integer : Nat) : Ce :=
  (.call u_is_integer (.cons (.var 3) (.cons (.cst (.int 0)) (.cons (.bin .sub (.blt .len (.cons (.var 0) .nil)) (.cst (.int 1))) .nil))))
def c_check_steps_b1 (u_MOST_LETTERS u_is_integer : Nat) : Cs :=
  (.cons (.ife (.bop false (.cons (.not (.isi (.bty "tuple") (.var 2))) (.cons (.not (.chain .le .le (.cst (.int 1)) (.blt .len (.cons (.var 2) .nil)) (.glo u_MOST_LETTERS))) (.cons (.cmp .ne (.blt .len (.cons (.var 2) .nil)) (.blt .len (.cons (.ix (.var 0) (.cst (.int 0))) .nil))) .nil)))) (.cons .stuck
  .nil) .nil)
  (.cons (.ife (.not (.blt .all (.cons (.lc0 (c_check_steps_e1 u_is_integer) (.nm 3) (.seq (.var 2)) [3]) .nil))) (.cons .stuck
  .nil) .nil)
  .nil))
def c_check_steps (u_MOST_STANDS u_MOST_LETTERS u_is_integer : Nat) : Cs :=
  (.cons (.ife (.bop false (.cons (.not (.isi (.bty "tuple") (.var 0))) (.cons (.not (.chain .le .le (.cst (.int 1)) (.blt .len (.cons (.var 0) .nil)) (.glo u_MOST_STANDS))) .nil))) (.cons .stuck
  .nil) .nil)
  (.cons (.for_ (.tp [1, 2]) (.enum (.var 0)) (c_check_steps_b1 u_MOST_LETTERS u_is_integer))
  .nil))
def N_check_good : List PySem.Str := (["thing", "stands", "last", "stand"] : List PySem.Str)
def c_check_good_b1 (u_is_integer : Nat) : Cs :=
  (.cons (.ife (.not (.call u_is_integer (.cons (.var 3) (.cons (.bin .add (.var 2) (.cst (.int 1))) (.cons (.bin .sub (.var 1) (.cst (.int 1))) .nil))))) (.cons .stuck
  .nil) .nil)
  (.cons (.asg 2 (.var 3))
  .nil))
def c_check_good (u_is_integer : Nat) : Cs :=
  (.cons (.ife (.not (.isi (.bty "tuple") (.var 0))) (.cons .stuck
  .nil) .nil)
  (.cons (.asg 2 (.neg (.cst (.int 1))))
  (.cons (.for_ (.nm 3) (.seq (.var 0)) (c_check_good_b1 u_is_integer))
  .nil)))
def N_Machine_init : List PySem.Str := (["self", "steps", "good"] : List PySem.Str)
def cp_Machine_init (u_check_steps u_check_good : Nat) : List Ce := [(.call u_check_steps (.cons (.var 1) .nil)), (.call u_check_good (.cons (.var 2) (.cons (.blt .len (.cons (.var 1) .nil)) .nil)))]
def ce_Machine_init : Ce := (.tup (.cons (.var 1) (.cons (.var 2) .nil)))
def N__law_alike : List PySem.Str := (["_law_found", "_law_due", "_law_k"] : List PySem.Str)
def c__law_alike_e1 : Ce :=
  (.var 2)
def c__law_alike_t1 (u__law_alike : Nat) : Ce :=
  (.not (.call u__law_alike (.cons (.ix (.var 0) (.var 2)) (.cons (.ix (.var 1) (.var 2)) .nil))))
def c__law_alike (u__law_alike : Nat) : Cs :=
  (.cons (.ife (.isiT "tuple" "list" (.var 1)) (.cons (.ife (.bop false (.cons (.not (.isiT "tuple" "list" (.var 0))) (.cons (.cmp .ne (.isi (.bty "list") (.var 0)) (.isi (.bty "list") (.var 1))) .nil))) (.cons (.ret (.cst (.bl false)))
  .nil) .nil)
  (.cons (.ife (.cmp .ne (.blt .len (.cons (.var 0) .nil)) (.blt .len (.cons (.var 1) .nil))) (.cons (.ret (.cst (.bl false)))
  .nil) .nil)
  (.cons (.ret (.cmp .eq (.lc1 c__law_alike_e1 (.nm 2) (.rg1 (.blt .len (.cons (.var 1) .nil))) (c__law_alike_t1 u__law_alike) [2]) (.lst .nil)))
  .nil))) .nil)
  (.cons (.ife (.bop false (.cons (.cmp .is (.var 1) (.cst .non)) (.cons (.isi (.bty "str") (.var 1)) .nil))) (.cons (.ret (.bop true (.cons (.cmp .eq (.var 0) (.var 1)) (.cons (.cmp .eq (.isi (.bty "str") (.var 0)) (.isi (.bty "str") (.var 1))) .nil))))
  .nil) .nil)
  (.cons (.ret (.bop true (.cons (.isi (.bty "int") (.var 0)) (.cons (.cmp .eq (.isi (.bty "bool") (.var 0)) (.isi (.bty "bool") (.var 1))) (.cons (.cmp .eq (.var 0) (.var 1)) .nil)))))
  .nil)))
def N__law_pick : List PySem.Str := (["_law_h", "_law_things"] : List PySem.Str)
def c__law_pick (u__law_next : Nat) : Cs :=
  (.cons (.ret (.ix (.var 1) (.call u__law_next (.cons (.var 0) (.cons (.blt .len (.cons (.var 1) .nil)) .nil)))))
  .nil)
def N_check_row : List PySem.Str := (["machine", "thing", "index", "letter"] : List PySem.Str)
def c_check_row_b1 (u_is_integer : Nat) : Cs :=
  (.cons (.ife (.not (.call u_is_integer (.cons (.var 3) (.cons (.cst (.int 0)) (.cons (.bin .sub (.blt .len (.cons (.ix (.ix (.attr "Machine" "parts" (.var 0)) (.cst (.int 0))) (.cst (.int 0))) .nil)) (.cst (.int 1))) .nil))))) (.cons .stuck
  .nil) .nil)
  .nil)
def c_check_row (u_MOST_LONG u_is_integer : Nat) : Cs :=
  (.cons (.ife (.bop false (.cons (.not (.isi (.bty "tuple") (.var 1))) (.cons (.cmp .gt (.blt .len (.cons (.var 1) .nil)) (.glo u_MOST_LONG)) .nil))) (.cons .stuck
  .nil) .nil)
  (.cons (.for_ (.tp [2, 3]) (.enum (.var 1)) (c_check_row_b1 u_is_integer))
  .nil))
def N_stand_behind : List PySem.Str := (["machine", "row", "here", "letter"] : List PySem.Str)
def c_stand_behind_b1 : Cs :=
  (.cons (.asg 2 (.ix (.ix (.ix (.attr "Machine" "parts" (.var 0)) (.cst (.int 0))) (.var 2)) (.var 3)))
  .nil)
def c_stand_behind (u_check_row : Nat) : Cs :=
  (.cons (.expr (.call u_check_row (.cons (.var 0) (.cons (.var 1) .nil))))
  (.cons (.asg 2 (.cst (.int 0)))
  (.cons (.for_ (.nm 3) (.seq (.var 1)) c_stand_behind_b1)
  (.cons (.ret (.var 2))
  .nil))))
def N_lets : List PySem.Str := (["machine", "row"] : List PySem.Str)
def c_lets (u_stand_behind : Nat) : Cs :=
  (.cons (.ret (.cmp .isin (.call u_stand_behind (.cons (.var 0) (.cons (.var 1) .nil))) (.ix (.attr "Machine" "parts" (.var 0)) (.cst (.int 1)))))
  .nil)
def N__law_parts : List PySem.Str := (["_law_h", "_law_letters", "_law_many", "_law_early", "_law_steps", "_law_good", "_law_stand", "_law_low", "_law_letter"] : List PySem.Str)
def c__law_parts_e1 (u__law_next : Nat) : Ce :=
  (.bin .add (.var 7) (.call u__law_next (.cons (.var 0) (.cons (.bin .sub (.var 2) (.var 7)) .nil))))
def c__law_parts_b1 (u__law_pick u__law_next : Nat) : Cs :=
  (.cons (.asg 7 (.ife (.bop true (.cons (.cmp .lt (.var 6) (.var 3)) (.cons (.cmp .lt (.bin .add (.var 6) (.cst (.int 1))) (.var 2)) .nil))) (.bin .add (.var 6) (.cst (.int 1))) (.call u__law_pick (.cons (.var 0) (.cons (.lst (.cons (.cst (.int 0)) (.cons (.blt .min2 (.cons (.var 3) (.cons (.bin .sub (.var 2) (.cst (.int 1))) .nil))) .nil))) .nil)))))
  (.cons (.app 4 (.blt .tuple (.cons (.lc0 (c__law_parts_e1 u__law_next) (.nm 8) (.rg1 (.var 1)) [8]) .nil)))
  (.cons (.ife (.cmp .eq (.call u__law_next (.cons (.var 0) (.cons (.cst (.int 2)) .nil))) (.cst (.int 0))) (.cons (.app 5 (.var 6))
  .nil) .nil)
  .nil)))
def c__law_parts (u__law_next u__law_pick : Nat) : Cs :=
  (.cons (.par [2, 3] (.cons (.bin .add (.cst (.int 1)) (.call u__law_next (.cons (.var 0) (.cons (.call u__law_pick (.cons (.var 0) (.cons (.lst (.cons (.cst (.int 3)) (.cons (.cst (.int 8)) .nil))) .nil))) .nil)))) (.cons (.call u__law_next (.cons (.var 0) (.cons (.cst (.int 5)) .nil))) .nil)))
  (.cons (.par [4, 5] (.cons (.lst .nil) (.cons (.lst .nil) .nil)))
  (.cons (.for_ (.nm 6) (.rg1 (.var 2)) (c__law_parts_b1 u__law_pick u__law_next))
  (.cons (.ret (.tup (.cons (.blt .tuple (.cons (.var 4) .nil)) (.cons (.blt .tuple (.cons (.var 5) .nil)) .nil))))
  .nil))))
def N__law_end : List PySem.Str := (["_law_parts_here", "_law_stand", "_law_row", "_law_letter"] : List PySem.Str)
def c__law_end_b1 : Cs :=
  (.cons (.asg 1 (.ix (.ix (.ix (.var 0) (.cst (.int 0))) (.var 1)) (.var 3)))
  .nil)
def c__law_end : Cs :=
  (.cons (.for_ (.nm 3) (.seq (.var 2)) c__law_end_b1)
  (.cons (.ret (.var 1))
  .nil))
def N_check_pair : List PySem.Str := (["one", "other"] : List PySem.Str)
def c_check_pair : Cs :=
  (.cons (.ife (.cmp .ne (.blt .len (.cons (.ix (.ix (.attr "Machine" "parts" (.var 0)) (.cst (.int 0))) (.cst (.int 0))) .nil)) (.blt .len (.cons (.ix (.ix (.attr "Machine" "parts" (.var 1)) (.cst (.int 0))) (.cst (.int 0))) .nil))) (.cons .stuck
  .nil) .nil)
  .nil)
def N_is_unlike : List PySem.Str := (["one", "other", "pair"] : List PySem.Str)
def c_is_unlike : Cs :=
  (.cons (.ret (.cmp .ne (.cmp .isin (.ix (.var 2) (.cst (.int 0))) (.ix (.attr "Machine" "parts" (.var 0)) (.cst (.int 1)))) (.cmp .isin (.ix (.var 2) (.cst (.int 1))) (.ix (.attr "Machine" "parts" (.var 1)) (.cst (.int 1))))))
  .nil)
def N_goals_of : List PySem.Str := (["one", "other", "pair"] : List PySem.Str)
def c_goals_of : Cs :=
  (.cons (.ret (.lzip (.ix (.ix (.attr "Machine" "parts" (.var 0)) (.cst (.int 0))) (.ix (.var 2) (.cst (.int 0)))) (.ix (.ix (.attr "Machine" "parts" (.var 1)) (.cst (.int 0))) (.ix (.var 2) (.cst (.int 1))))))
  .nil)
def N_come_to : List PySem.Str := (["one", "other", "begin", "known", "line", "found", "here", "goal"] : List PySem.Str)
def c_come_to_w1 : Ce :=
  (.cmp .lt (.blt .len (.cons (.var 5) .nil)) (.blt .len (.cons (.var 4) .nil)))
def c_come_to_b1 : Cs :=
  (.cons (.ife (.cmp .nin (.var 7) (.var 3)) (.cons (.store 3 (.var 7) (.cst (.bl true)))
  (.cons (.app 4 (.var 7))
  .nil)) .nil)
  .nil)
def c_come_to_b2 (u_goals_of : Nat) : Cs :=
  (.cons (.asg 6 (.ix (.var 4) (.blt .len (.cons (.var 5) .nil))))
  (.cons (.app 5 (.var 6))
  (.cons (.for_ (.nm 7) (.seq (.call u_goals_of (.cons (.var 0) (.cons (.var 1) (.cons (.var 6) .nil))))) c_come_to_b1)
  .nil)))
def c_come_to (u_goals_of : Nat) : Cs :=
  (.cons (.par [3, 4] (.cons (.d1 (.var 2) (.cst (.bl true))) (.cons (.lst (.cons (.var 2) .nil)) .nil)))
  (.cons (.asg 5 (.lst .nil))
  (.cons (.whl 1000 c_come_to_w1 (c_come_to_b2 u_goals_of))
  (.cons (.ret (.var 5))
  .nil))))
def N_useful : List PySem.Str := (["one", "other", "begin", "known", "found", "pair", "before", "goal"] : List PySem.Str)
def c_useful_b1 (u_is_unlike : Nat) : Cs :=
  (.cons (.ife (.call u_is_unlike (.cons (.var 0) (.cons (.var 1) (.cons (.var 5) .nil)))) (.cons (.store 4 (.var 5) (.cst (.bl true)))
  .nil) .nil)
  .nil)
def c_useful_w1 : Ce :=
  (.cmp .lt (.var 6) (.blt .len (.cons (.var 4) .nil)))
def c_useful_e1 : Ce :=
  (.cmp .isin (.var 7) (.var 4))
def c_useful_b2 (u_goals_of : Nat) : Cs :=
  (.cons (.ife (.blt .any (.cons (.lc0 c_useful_e1 (.nm 7) (.seq (.call u_goals_of (.cons (.var 0) (.cons (.var 1) (.cons (.var 5) .nil))))) [7]) .nil)) (.cons (.store 4 (.var 5) (.cst (.bl true)))
  .nil) .nil)
  .nil)
def c_useful_b3 (u_goals_of : Nat) : Cs :=
  (.cons (.asg 6 (.blt .len (.cons (.var 4) .nil)))
  (.cons (.for_ (.nm 5) (.seq (.var 3)) (c_useful_b2 u_goals_of))
  .nil))
def c_useful (u_come_to u_is_unlike u_goals_of : Nat) : Cs :=
  (.cons (.asg 3 (.call u_come_to (.cons (.var 0) (.cons (.var 1) (.cons (.var 2) .nil)))))
  (.cons (.asg 4 .dnew)
  (.cons (.for_ (.nm 5) (.seq (.var 3)) (c_useful_b1 u_is_unlike))
  (.cons (.asg 6 (.neg (.cst (.int 1))))
  (.cons (.whl 1000 c_useful_w1 (c_useful_b3 u_goals_of))
  (.cons (.ret (.var 4))
  .nil))))))
def N_counted : List PySem.Str := (["one", "other", "begin", "some", "known", "changed", "pair", "goals", "own", "many", "goal"] : List PySem.Str)
def c_counted_w1 : Ce :=
  (.var 5)
def c_counted_e1 : Ce :=
  (.var 10)
def c_counted_t1 : Ce :=
  (.cmp .isin (.var 10) (.var 3))
def c_counted_e2 : Ce :=
  (.cmp .isin (.var 10) (.var 4))
def c_counted_e3 : Ce :=
  (.ix (.ix (.var 4) (.var 10)) (.cst (.int 0)))
def c_counted_e4 : Ce :=
  (.bin .add (.ix (.ix (.var 4) (.var 10)) (.cst (.int 1))) (.cst (.int 1)))
def c_counted_b1 (u_goals_of u_is_unlike : Nat) : Cs :=
  (.cons (.asg 7 (.lc1 c_counted_e1 (.nm 10) (.seq (.call u_goals_of (.cons (.var 0) (.cons (.var 1) (.cons (.var 6) .nil))))) c_counted_t1 [10]))
  (.cons (.ife (.bop true (.cons (.cmp .nin (.var 6) (.var 4)) (.cons (.blt .all (.cons (.lc0 c_counted_e2 (.nm 10) (.seq (.var 7)) [10]) .nil)) .nil))) (.cons (.asg 8 (.ife (.call u_is_unlike (.cons (.var 0) (.cons (.var 1) (.cons (.var 6) .nil)))) (.cst (.int 1)) (.cst (.int 0))))
  (.cons (.asg 9 (.bin .add (.var 8) (.blt .sum (.cons (.lc0 c_counted_e3 (.nm 10) (.seq (.var 7)) [10]) .nil))))
  (.cons (.store 4 (.var 6) (.tup (.cons (.var 9) (.cons (.blt .max (.cons (.bin .add (.lst (.cons (.bin .sub (.var 8) (.cst (.int 1))) .nil)) (.lc0 c_counted_e4 (.nm 10) (.seq (.var 7)) [10])) .nil)) .nil))))
  (.cons (.asg 5 (.cst (.bl true)))
  .nil)))) .nil)
  .nil))
def c_counted_b2 (u_goals_of u_is_unlike : Nat) : Cs :=
  (.cons (.asg 5 (.cst (.bl false)))
  (.cons (.for_ (.nm 6) (.seq (.var 3)) (c_counted_b1 u_goals_of u_is_unlike))
  .nil))
def c_counted (u_useful u_goals_of u_is_unlike : Nat) : Cs :=
  (.cons (.par [3, 4] (.cons (.call u_useful (.cons (.var 0) (.cons (.var 1) (.cons (.var 2) .nil)))) (.cons .dnew .nil)))
  (.cons (.asg 5 (.cst (.bl true)))
  (.cons (.whl 1000 c_counted_w1 (c_counted_b2 u_goals_of u_is_unlike))
  (.cons (.ife (.cmp .lt (.blt .len (.cons (.var 4) .nil)) (.blt .len (.cons (.var 3) .nil))) (.cons (.ret (.cst .non))
  .nil) .nil)
  (.cons (.ret (.get 4 (.var 2) (.tup (.cons (.cst (.int 0)) (.cons (.neg (.cst (.int 1))) .nil)))))
  .nil)))))
def N_by_length : List PySem.Str := (["one", "other", "begin", "length", "pairs", "found", "pair", "again", "later", "goal"] : List PySem.Str)
def c_by_length_k1 : Ce :=
  (.var 6)
def c_by_length_e1 (u_is_unlike : Nat) : Ce :=
  (.ife (.call u_is_unlike (.cons (.var 0) (.cons (.var 1) (.cons (.var 6) .nil)))) (.cst (.int 1)) (.cst (.int 0)))
def c_by_length_e2 : Ce :=
  (.ix (.ix (.var 5) (.neg (.cst (.int 1)))) (.var 9))
def c_by_length_b1 (u_goals_of : Nat) : Cs :=
  (.cons (.store 8 (.var 6) (.blt .sum (.cons (.lc0 c_by_length_e2 (.nm 9) (.seq (.call u_goals_of (.cons (.var 0) (.cons (.var 1) (.cons (.var 6) .nil))))) [9]) .nil)))
  .nil)
def c_by_length_b2 (u_goals_of : Nat) : Cs :=
  (.cons (.asg 8 .dnew)
  (.cons (.for_ (.nm 6) (.seq (.var 4)) (c_by_length_b1 u_goals_of))
  (.cons (.app 5 (.var 8))
  .nil)))
def c_by_length (u_come_to u_is_unlike u_goals_of : Nat) : Cs :=
  (.cons (.asg 4 (.call u_come_to (.cons (.var 0) (.cons (.var 1) (.cons (.var 2) .nil)))))
  (.nst 5 (.nm 6) (.seq (.var 4)) c_by_length_k1 (c_by_length_e1 u_is_unlike)
  (.cons (.for_ (.nm 7) (.rg1 (.var 3)) (c_by_length_b2 u_goals_of))
  (.cons (.ret (.var 5))
  .nil))))
def N_word : List PySem.Str := (["one", "other", "found"] : List PySem.Str)
def c_word (u_check_pair u_counted u_BEGIN u_MANY u_FEW u_ALIKE : Nat) : Cs :=
  (.cons (.expr (.call u_check_pair (.cons (.var 0) (.cons (.var 1) .nil))))
  (.cons (.asg 2 (.call u_counted (.cons (.var 0) (.cons (.var 1) (.cons (.glo u_BEGIN) .nil)))))
  (.cons (.ife (.cmp .is (.var 2) (.cst .non)) (.cons (.ret (.glo u_MANY))
  .nil) .nil)
  (.cons (.ret (.ife (.cmp .gt (.ix (.var 2) (.cst (.int 0))) (.cst (.int 0))) (.glo u_FEW) (.glo u_ALIKE)))
  .nil))))
def N_count_unlike : List PySem.Str := (["one", "other", "found"] : List PySem.Str)
def c_count_unlike (u_check_pair u_counted u_BEGIN : Nat) : Cs :=
  (.cons (.expr (.call u_check_pair (.cons (.var 0) (.cons (.var 1) .nil))))
  (.cons (.asg 2 (.call u_counted (.cons (.var 0) (.cons (.var 1) (.cons (.glo u_BEGIN) .nil)))))
  (.cons (.ret (.ife (.cmp .isn (.var 2) (.cst .non)) (.ix (.var 2) (.cst (.int 0))) (.cst .non)))
  .nil)))
def N_longest : List PySem.Str := (["one", "other", "found"] : List PySem.Str)
def c_longest (u_check_pair u_counted u_BEGIN : Nat) : Cs :=
  (.cons (.expr (.call u_check_pair (.cons (.var 0) (.cons (.var 1) .nil))))
  (.cons (.asg 2 (.call u_counted (.cons (.var 0) (.cons (.var 1) (.cons (.glo u_BEGIN) .nil)))))
  (.cons (.ret (.ife (.cmp .isn (.var 2) (.cst .non)) (.ix (.var 2) (.cst (.int 1))) (.cst .non)))
  .nil)))
def N_unlike_of : List PySem.Str := (["one", "other", "length"] : List PySem.Str)
def c_unlike_of (u_check_pair u_is_integer u_MOST_LENGTH u_by_length u_BEGIN : Nat) : Cs :=
  (.cons (.expr (.call u_check_pair (.cons (.var 0) (.cons (.var 1) .nil))))
  (.cons (.ife (.not (.call u_is_integer (.cons (.var 2) (.cons (.cst (.int 0)) (.cons (.glo u_MOST_LENGTH) .nil))))) (.cons .stuck
  .nil) .nil)
  (.cons (.ret (.ix (.ix (.call u_by_length (.cons (.var 0) (.cons (.var 1) (.cons (.glo u_BEGIN) (.cons (.var 2) .nil))))) (.var 2)) (.glo u_BEGIN)))
  .nil)))
def N__law_near : List PySem.Str := (["_law_h", "_law_parts_here", "_law_steps", "_law_good", "_law_change", "_law_stand", "_law_spot", "_law_row", "_law_one"] : List PySem.Str)
def c__law_near_e1 : Ce :=
  (.var 8)
def c__law_near_t1 : Ce :=
  (.cmp .ne (.cmp .isin (.var 8) (.var 3)) (.cmp .eq (.var 8) (.var 5)))
def c__law_near_b1 (u__law_next u__law_pick : Nat) : Cs :=
  (.cons (.asg 5 (.call u__law_next (.cons (.var 0) (.cons (.call u__law_pick (.cons (.var 0) (.cons (.lst (.cons (.cst (.int 1)) (.cons (.blt .len (.cons (.var 2) .nil)) .nil))) .nil))) .nil))))
  (.cons (.ife (.cmp .eq (.call u__law_next (.cons (.var 0) (.cons (.cst (.int 2)) .nil))) (.cst (.int 0))) (.cons (.asg 3 (.blt .tuple (.cons (.lc1 c__law_near_e1 (.nm 8) (.rg1 (.blt .len (.cons (.var 2) .nil))) c__law_near_t1 [8]) .nil)))
  .nil) (.cons (.asg 6 (.call u__law_next (.cons (.var 0) (.cons (.blt .len (.cons (.ix (.var 2) (.cst (.int 0))) .nil)) .nil))))
  (.cons (.asg 7 (.bin .add (.bin .add (.slHi (.ix (.var 2) (.var 5)) (.var 6)) (.tup (.cons (.call u__law_next (.cons (.var 0) (.cons (.blt .len (.cons (.var 2) .nil)) .nil))) .nil))) (.slLo (.ix (.var 2) (.var 5)) (.bin .add (.var 6) (.cst (.int 1))))))
  (.cons (.asg 2 (.bin .add (.bin .add (.slHi (.var 2) (.var 5)) (.tup (.cons (.var 7) .nil))) (.slLo (.var 2) (.bin .add (.var 5) (.cst (.int 1))))))
  .nil))))
  .nil))
def c__law_near (u__law_pick u__law_next : Nat) : Cs :=
  (.cons (.unp (.tp [2, 3]) (.var 1))
  (.cons (.for_ (.nm 4) (.rg1 (.call u__law_pick (.cons (.var 0) (.cons (.lst (.cons (.cst (.int 0)) (.cons (.cst (.int 1)) (.cons (.cst (.int 1)) (.cons (.cst (.int 2)) .nil))))) .nil)))) (c__law_near_b1 u__law_next u__law_pick))
  (.cons (.ret (.tup (.cons (.var 2) (.cons (.var 3) .nil))))
  .nil)))
def N__law_two : List PySem.Str := (["_law_h", "_law_letters", "_law_one"] : List PySem.Str)
def c__law_two (u__law_next u__law_parts u__law_near : Nat) : Cs :=
  (.cons (.asg 1 (.bin .add (.cst (.int 1)) (.call u__law_next (.cons (.var 0) (.cons (.cst (.int 3)) .nil)))))
  (.cons (.asg 2 (.call u__law_parts (.cons (.var 0) (.cons (.var 1) .nil))))
  (.cons (.ret (.tup (.cons (.var 2) (.cons (.ife (.cmp .gt (.call u__law_next (.cons (.var 0) (.cons (.cst (.int 3)) .nil))) (.cst (.int 0))) (.call u__law_near (.cons (.var 0) (.cons (.var 2) .nil))) (.call u__law_parts (.cons (.var 0) (.cons (.var 1) .nil)))) .nil))))
  .nil)))
def N__law_lengths : List PySem.Str := (["_law_one", "_law_other", "_law_begin", "_law_most", "_law_found", "_law_here", "_law_length", "_law_later", "_law_own", "_law_pair", "_law_goal"] : List PySem.Str)
def c__law_lengths_b1 : Cs :=
  (.cons (.store 7 (.var 10) (.bin .add (.get 7 (.var 10) (.cst (.int 0))) (.ix (.var 5) (.var 9))))
  .nil)
def c__law_lengths_b2 : Cs :=
  (.cons (.asg 8 (.bin .add (.var 8) (.ife (.cmp .ne (.cmp .isin (.ix (.var 9) (.cst (.int 0))) (.ix (.var 0) (.cst (.int 1)))) (.cmp .isin (.ix (.var 9) (.cst (.int 1))) (.ix (.var 1) (.cst (.int 1))))) (.ix (.var 5) (.var 9)) (.cst (.int 0)))))
  (.cons (.for_ (.nm 10) (.zip false (.ix (.ix (.var 0) (.cst (.int 0))) (.ix (.var 9) (.cst (.int 0)))) (.ix (.ix (.var 1) (.cst (.int 0))) (.ix (.var 9) (.cst (.int 1))))) c__law_lengths_b1)
  .nil))
def c__law_lengths_b3 : Cs :=
  (.cons (.par [7, 8] (.cons .dnew (.cons (.cst (.int 0)) .nil)))
  (.cons (.for_ (.nm 9) (.seq (.var 5)) c__law_lengths_b2)
  (.cons (.app 4 (.var 8))
  (.cons (.asg 5 (.var 7))
  .nil))))
def c__law_lengths : Cs :=
  (.cons (.par [4, 5] (.cons (.lst .nil) (.cons (.d1 (.var 2) (.cst (.int 1))) .nil)))
  (.cons (.for_ (.nm 6) (.rg1 (.var 3)) c__law_lengths_b3)
  (.cons (.ret (.var 4))
  .nil)))
def N__law_pairs : List PySem.Str := (["_law_one", "_law_other", "_law_begin", "_law_known", "_law_row", "_law_pair", "_law_goal"] : List PySem.Str)
def c__law_pairs_w1 : Ce :=
  (.cmp .ne (.var 4) (.lst .nil))
def c__law_pairs_b1 : Cs :=
  (.cons (.ife (.cmp .nin (.var 6) (.var 3)) (.cons (.store 3 (.var 6) (.cst (.bl true)))
  (.cons (.app 4 (.var 6))
  .nil)) .nil)
  .nil)
def c__law_pairs_b2 : Cs :=
  (.cons (.asg 5 (.pop 4))
  (.cons (.for_ (.nm 6) (.zip false (.ix (.ix (.var 0) (.cst (.int 0))) (.ix (.var 5) (.cst (.int 0)))) (.ix (.ix (.var 1) (.cst (.int 0))) (.ix (.var 5) (.cst (.int 1))))) c__law_pairs_b1)
  .nil))
def c__law_pairs : Cs :=
  (.cons (.par [3, 4] (.cons (.d1 (.var 2) (.cst (.bl true))) (.cons (.lst (.cons (.var 2) .nil)) .nil)))
  (.cons (.whl 1000 c__law_pairs_w1 c__law_pairs_b2)
  (.cons (.ret (.var 3))
  .nil)))
def N__law_unlike : List PySem.Str := (["_law_one", "_law_other", "_law_begin", "_law_known", "_law_many", "_law_found", "_law_pair", "_law_k"] : List PySem.Str)
def c__law_unlike_e1 : Ce :=
  (.var 6)
def c__law_unlike_t1 : Ce :=
  (.cmp .ne (.cmp .isin (.ix (.var 6) (.cst (.int 0))) (.ix (.var 0) (.cst (.int 1)))) (.cmp .isin (.ix (.var 6) (.cst (.int 1))) (.ix (.var 1) (.cst (.int 1)))))
def c__law_unlike_e2 : Ce :=
  (.var 7)
def c__law_unlike_t2 : Ce :=
  (.cmp .gt (.ix (.var 5) (.var 7)) (.cst (.int 0)))
def c__law_unlike (u__law_pairs u__law_lengths : Nat) : Cs :=
  (.cons (.asg 3 (.call u__law_pairs (.cons (.var 0) (.cons (.var 1) (.cons (.var 2) .nil)))))
  (.cons (.ife (.cmp .eq (.lc1 c__law_unlike_e1 (.nm 6) (.seq (.var 3)) c__law_unlike_t1 [6]) (.lst .nil)) (.cons (.ret (.tup (.cons (.cst (.int 0)) (.cons (.neg (.cst (.int 1))) .nil))))
  .nil) .nil)
  (.cons (.asg 4 (.blt .len (.cons (.var 3) .nil)))
  (.cons (.asg 5 (.call u__law_lengths (.cons (.var 0) (.cons (.var 1) (.cons (.var 2) (.cons (.bin .mul (.cst (.int 2)) (.var 4)) .nil))))))
  (.cons (.ife (.cmp .gt (.blt .sum (.cons (.slLo (.var 5) (.var 4)) .nil)) (.cst (.int 0))) (.cons (.ret (.cst .non))
  .nil) .nil)
  (.cons (.ret (.tup (.cons (.blt .sum (.cons (.var 5) .nil)) (.cons (.blt .max (.cons (.bin .add (.lst (.cons (.neg (.cst (.int 1))) .nil)) (.lc1 c__law_unlike_e2 (.nm 7) (.rg1 (.var 4)) c__law_unlike_t2 [7])) .nil)) .nil))))
  .nil))))))
def N_kth_unlike : List PySem.Str := (["one", "other", "k", "found", "most", "length", "counts"] : List PySem.Str)
def c_kth_unlike_w1 (u_BEGIN : Nat) : Ce :=
  (.cmp .ge (.var 2) (.ix (.ix (.var 6) (.var 5)) (.glo u_BEGIN)))
def c_kth_unlike_b1 (u_BEGIN u_grown : Nat) : Cs :=
  (.cons (.aug true 2 (.ix (.ix (.var 6) (.var 5)) (.glo u_BEGIN)))
  (.cons (.aug false 5 (.cst (.int 1)))
  (.cons (.asg 6 (.call u_grown (.cons (.var 0) (.cons (.var 1) (.cons (.var 6) .nil)))))
  .nil)))
def c_kth_unlike (u_check_pair u_counted u_BEGIN u_MOST_INDEX u_is_integer u_by_length u_grown u_row_by : Nat) : Cs :=
  (.cons (.expr (.call u_check_pair (.cons (.var 0) (.cons (.var 1) .nil))))
  (.cons (.asg 3 (.call u_counted (.cons (.var 0) (.cons (.var 1) (.cons (.glo u_BEGIN) .nil)))))
  (.cons (.asg 4 (.ife (.cmp .is (.var 3) (.cst .non)) (.glo u_MOST_INDEX) (.blt .min2 (.cons (.glo u_MOST_INDEX) (.cons (.bin .sub (.ix (.var 3) (.cst (.int 0))) (.cst (.int 1))) .nil)))))
  (.cons (.ife (.not (.call u_is_integer (.cons (.var 2) (.cons (.cst (.int 0)) (.cons (.var 4) .nil))))) (.cons .stuck
  .nil) .nil)
  (.cons (.par [5, 6] (.cons (.cst (.int 0)) (.cons (.call u_by_length (.cons (.var 0) (.cons (.var 1) (.cons (.glo u_BEGIN) (.cons (.cst (.int 0)) .nil))))) .nil)))
  (.cons (.whl 1000 (c_kth_unlike_w1 u_BEGIN) (c_kth_unlike_b1 u_BEGIN u_grown))
  (.cons (.ret (.call u_row_by (.cons (.var 0) (.cons (.var 1) (.cons (.glo u_BEGIN) (.cons (.var 5) (.cons (.var 2) (.cons (.var 6) .nil))))))))
  .nil)))))))
def N_grown : List PySem.Str := (["one", "other", "counts", "later", "pair", "goal"] : List PySem.Str)
def c_grown_e1 : Ce :=
  (.ix (.ix (.var 2) (.neg (.cst (.int 1)))) (.var 5))
def c_grown_b1 (u_goals_of : Nat) : Cs :=
  (.cons (.store 3 (.var 4) (.blt .sum (.cons (.lc0 c_grown_e1 (.nm 5) (.seq (.call u_goals_of (.cons (.var 0) (.cons (.var 1) (.cons (.var 4) .nil))))) [5]) .nil)))
  .nil)
def c_grown (u_goals_of : Nat) : Cs :=
  (.cons (.asg 3 .dnew)
  (.cons (.for_ (.nm 4) (.seq (.ix (.var 2) (.cst (.int 0)))) (c_grown_b1 u_goals_of))
  (.cons (.ret (.bin .add (.var 2) (.lst (.cons (.var 3) .nil))))
  .nil)))
def N_ways_from : List PySem.Str := (["one", "other", "begin", "known", "rows", "later", "row", "here", "letter", "goal"] : List PySem.Str)
def c_ways_from_w1 : Ce :=
  (.cmp .ne (.var 4) (.lst .nil))
def c_ways_from_b1 : Cs :=
  (.cons (.ife (.cmp .nin (.var 9) (.var 3)) (.cons (.store 3 (.var 9) (.bin .add (.var 6) (.tup (.cons (.var 8) .nil))))
  (.cons (.app 5 (.tup (.cons (.bin .add (.var 6) (.tup (.cons (.var 8) .nil))) (.cons (.var 9) .nil))))
  .nil)) .nil)
  .nil)
def c_ways_from_b2 (u_goals_of : Nat) : Cs :=
  (.cons (.for_ (.tp [8, 9]) (.enum (.call u_goals_of (.cons (.var 0) (.cons (.var 1) (.cons (.var 7) .nil))))) c_ways_from_b1)
  .nil)
def c_ways_from_b3 (u_goals_of : Nat) : Cs :=
  (.cons (.asg 5 (.lst .nil))
  (.cons (.for_ (.tp [6, 7]) (.seq (.var 4)) (c_ways_from_b2 u_goals_of))
  (.cons (.asg 4 (.var 5))
  .nil)))
def c_ways_from (u_goals_of : Nat) : Cs :=
  (.cons (.par [3, 4] (.cons .dnew (.cons (.lst (.cons (.tup (.cons (.tup .nil) (.cons (.var 2) .nil))) .nil)) .nil)))
  (.cons (.whl 1000 c_ways_from_w1 (c_ways_from_b3 u_goals_of))
  (.cons (.ret (.var 3))
  .nil)))
def N_ring : List PySem.Str := (["one", "other", "some", "pair", "ways", "head", "ends", "tail", "goal"] : List PySem.Str)
def c_ring_e1 : Ce :=
  (.tup (.cons (.blt .len (.cons (.ix (.var 4) (.var 8)) .nil)) (.cons (.ix (.var 4) (.var 8)) .nil)))
def c_ring_t1 (u_is_unlike : Nat) : Ce :=
  (.call u_is_unlike (.cons (.var 0) (.cons (.var 1) (.cons (.var 8) .nil))))
def c_ring_b1 (u_ways_from u_BEGIN u_is_unlike : Nat) : Cs :=
  (.cons (.asg 4 (.call u_ways_from (.cons (.var 0) (.cons (.var 1) (.cons (.var 3) .nil)))))
  (.cons (.ife (.bop true (.cons (.cmp .isin (.var 3) (.var 2)) (.cons (.cmp .isin (.var 3) (.var 4)) .nil))) (.cons (.asg 5 (.ife (.cmp .eq (.var 3) (.glo u_BEGIN)) (.tup .nil) (.ix (.call u_ways_from (.cons (.var 0) (.cons (.var 1) (.cons (.glo u_BEGIN) .nil)))) (.var 3))))
  (.cons (.asg 6 (.lc1 c_ring_e1 (.nm 8) (.seq (.var 4)) (c_ring_t1 u_is_unlike) [8]))
  (.cons (.asg 7 (.ife (.call u_is_unlike (.cons (.var 0) (.cons (.var 1) (.cons (.var 3) .nil)))) (.tup .nil) (.ix (.blt .minD (.cons (.var 6) .nil)) (.cst (.int 1)))))
  (.cons (.ret (.tup (.cons (.var 5) (.cons (.ix (.var 4) (.var 3)) (.cons (.var 7) .nil)))))
  .nil)))) .nil)
  .nil))
def c_ring (u_check_pair u_counted u_BEGIN u_useful u_come_to u_ways_from u_is_unlike : Nat) : Cs :=
  (.cons (.expr (.call u_check_pair (.cons (.var 0) (.cons (.var 1) .nil))))
  (.cons (.ife (.cmp .isn (.call u_counted (.cons (.var 0) (.cons (.var 1) (.cons (.glo u_BEGIN) .nil)))) (.cst .non)) (.cons (.ret (.cst .non))
  .nil) .nil)
  (.cons (.asg 2 (.call u_useful (.cons (.var 0) (.cons (.var 1) (.cons (.glo u_BEGIN) .nil)))))
  (.cons (.for_ (.nm 3) (.seq (.call u_come_to (.cons (.var 0) (.cons (.var 1) (.cons (.glo u_BEGIN) .nil))))) (c_ring_b1 u_ways_from u_BEGIN u_is_unlike))
  (.cons (.ret (.cst .non))
  .nil)))))
def N_check_stand : List PySem.Str := (["machine", "thing"] : List PySem.Str)
def c_check_stand (u_is_integer : Nat) : Cs :=
  (.cons (.ife (.not (.call u_is_integer (.cons (.var 1) (.cons (.cst (.int 0)) (.cons (.bin .sub (.blt .len (.cons (.ix (.attr "Machine" "parts" (.var 0)) (.cst (.int 0))) .nil)) (.cst (.int 1))) .nil))))) (.cons .stuck
  .nil) .nil)
  .nil)
def N_apart : List PySem.Str := (["machine", "one", "other", "found"] : List PySem.Str)
def c_apart (u_check_stand u_counted : Nat) : Cs :=
  (.cons (.expr (.call u_check_stand (.cons (.var 0) (.cons (.var 1) .nil))))
  (.cons (.expr (.call u_check_stand (.cons (.var 0) (.cons (.var 2) .nil))))
  (.cons (.asg 3 (.call u_counted (.cons (.var 0) (.cons (.var 0) (.cons (.tup (.cons (.var 1) (.cons (.var 2) .nil))) .nil)))))
  (.cons (.ret (.ife (.cmp .isn (.var 3) (.cst .non)) (.ix (.var 3) (.cst (.int 0))) (.cst .non)))
  .nil))))
def N_kinds_of : List PySem.Str := (["machine", "found", "firsts", "stand", "like", "at", "first"] : List PySem.Str)
def c_kinds_of_e1 : Ce :=
  (.var 5)
def c_kinds_of_t1 (u_counted : Nat) : Ce :=
  (.cmp .isn (.call u_counted (.cons (.var 0) (.cons (.var 0) (.cons (.tup (.cons (.var 6) (.cons (.var 3) .nil))) .nil)))) (.cst .non))
def c_kinds_of_b1 (u_counted : Nat) : Cs :=
  (.cons (.asg 4 (.hl1 c_kinds_of_e1 (.tp [5, 6]) 2 true (c_kinds_of_t1 u_counted) [5, 6]))
  (.cons (.ife (.cmp .eq (.var 4) (.lst .nil)) (.cons (.app 1 (.blt .len (.cons (.var 2) .nil)))
  (.cons (.app 2 (.var 3))
  .nil)) (.cons (.app 1 (.ix (.var 4) (.cst (.int 0))))
  .nil))
  .nil))
def c_kinds_of (u_counted : Nat) : Cs :=
  (.cons (.par [1, 2] (.cons (.lst .nil) (.cons (.lst .nil) .nil)))
  (.cons (.for_ (.nm 3) (.rg1 (.blt .len (.cons (.ix (.attr "Machine" "parts" (.var 0)) (.cst (.int 0))) .nil))) (c_kinds_of_b1 u_counted))
  (.cons (.ret (.var 1))
  .nil)))
def N_kinds : List PySem.Str := (["machine"] : List PySem.Str)
def c_kinds (u_kinds_of : Nat) : Cs :=
  (.cons (.ret (.blt .tuple (.cons (.call u_kinds_of (.cons (.var 0) .nil)) .nil)))
  .nil)
def N_rows_to : List PySem.Str := (["machine", "stand"] : List PySem.Str)
def c_rows_to (u_check_stand u_come_counts : Nat) : Cs :=
  (.cons (.expr (.call u_check_stand (.cons (.var 0) (.cons (.var 1) .nil))))
  (.cons (.ret (.ix (.call u_come_counts (.cons (.var 0) .nil)) (.var 1)))
  .nil))
def N_come_counts : List PySem.Str := (["machine", "steps", "many", "before", "found", "late", "length", "later", "stand", "row", "goal", "own", "more"] : List PySem.Str)
def c_come_counts_b1 : Cs :=
  (.cons (.augs 7 (.var 10) (.ix (.var 3) (.var 8)))
  .nil)
def c_come_counts_b2 : Cs :=
  (.cons (.for_ (.nm 10) (.seq (.var 9)) c_come_counts_b1)
  .nil)
def c_come_counts_e1 : Ce :=
  (.bin .add (.var 11) (.var 12))
def c_come_counts_b3 : Cs :=
  (.cons (.ife (.cmp .gt (.ix (.var 7) (.var 8)) (.cst (.int 0))) (.cons (.store 5 (.var 8) (.cst (.bl true)))
  .nil) .nil)
  .nil)
def c_come_counts_b4 : Cs :=
  (.cons (.asg 7 (.bin .mul (.lst (.cons (.cst (.int 0)) .nil)) (.var 2)))
  (.cons (.for_ (.tp [8, 9]) (.enum (.var 1)) c_come_counts_b2)
  (.cons (.asg 4 (.lc0 c_come_counts_e1 (.tp [11, 12]) (.zip true (.var 4) (.var 7)) [11, 12]))
  (.cons (.asg 3 (.var 7))
  (.cons (.ife (.cmp .ge (.var 6) (.var 2)) (.cons (.for_ (.nm 8) (.rg1 (.var 2)) c_come_counts_b3)
  .nil) .nil)
  .nil)))))
def c_come_counts_e2 : Ce :=
  (.ife (.cmp .isin (.var 8) (.var 5)) (.cst .non) (.ix (.var 4) (.var 8)))
def c_come_counts : Cs :=
  (.cons (.asg 1 (.ix (.attr "Machine" "parts" (.var 0)) (.cst (.int 0))))
  (.cons (.asg 2 (.blt .len (.cons (.var 1) .nil)))
  (.cons (.par [3, 4] (.cons (.bin .add (.lst (.cons (.cst (.int 1)) .nil)) (.bin .mul (.lst (.cons (.cst (.int 0)) .nil)) (.bin .sub (.var 2) (.cst (.int 1))))) (.cons (.bin .add (.lst (.cons (.cst (.int 1)) .nil)) (.bin .mul (.lst (.cons (.cst (.int 0)) .nil)) (.bin .sub (.var 2) (.cst (.int 1))))) .nil)))
  (.cons (.asg 5 .dnew)
  (.cons (.for_ (.nm 6) (.rg2 (.cst (.int 1)) (.bin .add (.bin .mul (.cst (.int 2)) (.var 2)) (.cst (.int 1)))) c_come_counts_b4)
  (.cons (.ret (.lc0 c_come_counts_e2 (.nm 8) (.rg1 (.var 2)) [8]))
  .nil))))))
def N_numbered : List PySem.Str := (["values", "known", "found", "value"] : List PySem.Str)
def c_numbered_b1 : Cs :=
  (.cons (.ife (.cmp .nin (.var 3) (.var 1)) (.cons (.store 1 (.var 3) (.blt .len (.cons (.var 1) .nil)))
  .nil) .nil)
  (.cons (.app 2 (.ix (.var 1) (.var 3)))
  .nil))
def c_numbered : Cs :=
  (.cons (.par [1, 2] (.cons .dnew (.cons (.lst .nil) .nil)))
  (.cons (.for_ (.nm 3) (.seq (.var 0)) c_numbered_b1)
  (.cons (.ret (.var 2))
  .nil)))
def N_classes_by : List PySem.Str := (["steps", "marks", "found", "many", "at", "row", "goal"] : List PySem.Str)
def c_classes_by_w1 : Ce :=
  (.cmp .lt (.var 3) (.bin .add (.blt .max (.cons (.var 2) .nil)) (.cst (.int 1))))
def c_classes_by_e1 : Ce :=
  (.ix (.var 2) (.var 6))
def c_classes_by_e2 : Ce :=
  (.tup (.cons (.ix (.var 2) (.var 4)) (.cons (.blt .tuple (.cons (.lc0 c_classes_by_e1 (.nm 6) (.seq (.var 5)) [6]) .nil)) .nil)))
def c_classes_by_b1 (u_numbered : Nat) : Cs :=
  (.cons (.asg 3 (.bin .add (.blt .max (.cons (.var 2) .nil)) (.cst (.int 1))))
  (.cons (.asg 2 (.call u_numbered (.cons (.lc0 c_classes_by_e2 (.tp [4, 5]) (.enum (.var 0)) [4, 5]) .nil)))
  .nil))
def c_classes_by (u_numbered : Nat) : Cs :=
  (.cons (.par [2, 3] (.cons (.call u_numbered (.cons (.var 1) .nil)) (.cons (.cst (.int 0)) .nil)))
  (.cons (.whl 1000 c_classes_by_w1 (c_classes_by_b1 u_numbered))
  (.cons (.ret (.var 2))
  .nil)))
def N_shrunk : List PySem.Str := (["steps", "marks", "classes", "line", "known", "rows", "found", "here", "row", "goal"] : List PySem.Str)
def c_shrunk_w1 : Ce :=
  (.cmp .lt (.blt .len (.cons (.var 5) .nil)) (.blt .len (.cons (.var 3) .nil)))
def c_shrunk_b1 : Cs :=
  (.cons (.ife (.cmp .nin (.ix (.var 2) (.var 9)) (.var 4)) (.cons (.store 4 (.ix (.var 2) (.var 9)) (.blt .len (.cons (.var 3) .nil)))
  (.cons (.app 3 (.var 9))
  .nil)) .nil)
  (.cons (.app 8 (.ix (.var 4) (.ix (.var 2) (.var 9))))
  .nil))
def c_shrunk_b2 : Cs :=
  (.cons (.par [7, 8] (.cons (.ix (.var 3) (.blt .len (.cons (.var 5) .nil))) (.cons (.lst .nil) .nil)))
  (.cons (.for_ (.nm 9) (.seq (.ix (.var 0) (.var 7))) c_shrunk_b1)
  (.cons (.app 5 (.blt .tuple (.cons (.var 8) .nil)))
  (.cons (.app 6 (.ix (.var 1) (.var 7)))
  .nil))))
def c_shrunk (u_classes_by : Nat) : Cs :=
  (.cons (.asg 2 (.call u_classes_by (.cons (.var 0) (.cons (.var 1) .nil))))
  (.cons (.par [3, 4] (.cons (.lst (.cons (.cst (.int 0)) .nil)) (.cons (.d1 (.ix (.var 2) (.cst (.int 0))) (.cst (.int 0))) .nil)))
  (.cons (.par [5, 6] (.cons (.lst .nil) (.cons (.lst .nil) .nil)))
  (.cons (.whl 1000 c_shrunk_w1 c_shrunk_b2)
  (.cons (.ret (.tup (.cons (.blt .tuple (.cons (.var 5) .nil)) (.cons (.var 6) .nil))))
  .nil)))))
def N_machine_by : List PySem.Str := (["steps", "marks", "stand", "mark"] : List PySem.Str)
def c_machine_by_e1 : Ce :=
  (.var 2)
def c_machine_by_t1 : Ce :=
  (.var 3)
def c_machine_by (u_Machine : Nat) : Cs :=
  (.cons (.ret (.call u_Machine (.cons (.var 0) (.cons (.blt .tuple (.cons (.lc1 c_machine_by_e1 (.tp [2, 3]) (.enum (.var 1)) c_machine_by_t1 [2, 3]) .nil)) .nil))))
  .nil)
def N_marks_of : List PySem.Str := (["machine", "stand"] : List PySem.Str)
def c_marks_of_e1 : Ce :=
  (.cmp .isin (.var 1) (.ix (.attr "Machine" "parts" (.var 0)) (.cst (.int 1))))
def c_marks_of : Cs :=
  (.cons (.ret (.lc0 c_marks_of_e1 (.nm 1) (.rg1 (.blt .len (.cons (.ix (.attr "Machine" "parts" (.var 0)) (.cst (.int 0))) .nil))) [1]))
  .nil)
def N_small : List PySem.Str := (["machine", "steps", "marks"] : List PySem.Str)
def c_small (u_shrunk u_marks_of u_machine_by : Nat) : Cs :=
  (.cons (.unp (.tp [1, 2]) (.call u_shrunk (.cons (.ix (.attr "Machine" "parts" (.var 0)) (.cst (.int 0))) (.cons (.call u_marks_of (.cons (.var 0) .nil)) .nil))))
  (.cons (.ret (.call u_machine_by (.cons (.var 1) (.cons (.var 2) .nil))))
  .nil))
def N__law_same : List PySem.Str := (["_law_parts_here", "_law_one", "_law_other", "_law_known", "_law_pair"] : List PySem.Str)
def c__law_same_e1 : Ce :=
  (.var 4)
def c__law_same_t1 : Ce :=
  (.cmp .ne (.cmp .isin (.ix (.var 4) (.cst (.int 0))) (.ix (.var 0) (.cst (.int 1)))) (.cmp .isin (.ix (.var 4) (.cst (.int 1))) (.ix (.var 0) (.cst (.int 1)))))
def c__law_same (u__law_pairs : Nat) : Cs :=
  (.cons (.asg 3 (.call u__law_pairs (.cons (.var 0) (.cons (.var 0) (.cons (.tup (.cons (.var 1) (.cons (.var 2) .nil))) .nil)))))
  (.cons (.ret (.cmp .eq (.lc1 c__law_same_e1 (.nm 4) (.seq (.var 3)) c__law_same_t1 [4]) (.lst .nil)))
  .nil))
def N__law_least : List PySem.Str := (["_law_parts_here", "_law_line", "_law_rows", "_law_k", "_law_row", "_law_goal", "_law_like", "_law_at"] : List PySem.Str)
def c__law_least_e1 : Ce :=
  (.var 7)
def c__law_least_t1 (u__law_same : Nat) : Ce :=
  (.call u__law_same (.cons (.var 0) (.cons (.ix (.var 1) (.var 7)) (.cons (.var 5) .nil))))
def c__law_least_b1 (u__law_same : Nat) : Cs :=
  (.cons (.asg 6 (.lc1 c__law_least_e1 (.nm 7) (.rg1 (.blt .len (.cons (.var 1) .nil))) (c__law_least_t1 u__law_same) [7]))
  (.cons (.ife (.cmp .eq (.var 6) (.lst .nil)) (.cons (.asg 6 (.lst (.cons (.blt .len (.cons (.var 1) .nil)) .nil)))
  (.cons (.app 1 (.var 5))
  .nil)) .nil)
  (.cons (.app 4 (.ix (.var 6) (.cst (.int 0))))
  .nil)))
def c__law_least_b2 (u__law_same : Nat) : Cs :=
  (.cons (.ife (.cmp .lt (.var 3) (.blt .len (.cons (.var 1) .nil))) (.cons (.asg 4 (.lst .nil))
  (.cons (.for_ (.nm 5) (.seq (.ix (.ix (.var 0) (.cst (.int 0))) (.ix (.var 1) (.var 3)))) (c__law_least_b1 u__law_same))
  (.cons (.app 2 (.blt .tuple (.cons (.var 4) .nil)))
  .nil))) .nil)
  .nil)
def c__law_least_e2 : Ce :=
  (.var 3)
def c__law_least_t2 : Ce :=
  (.cmp .isin (.ix (.var 1) (.var 3)) (.ix (.var 0) (.cst (.int 1))))
def c__law_least (u__law_same : Nat) : Cs :=
  (.cons (.par [1, 2] (.cons (.lst (.cons (.cst (.int 0)) .nil)) (.cons (.lst .nil) .nil)))
  (.cons (.for_ (.nm 3) (.rg1 (.blt .len (.cons (.ix (.var 0) (.cst (.int 0))) .nil))) (c__law_least_b2 u__law_same))
  (.cons (.ret (.tup (.cons (.blt .tuple (.cons (.var 2) .nil)) (.cons (.blt .tuple (.cons (.lc1 c__law_least_e2 (.nm 3) (.rg1 (.blt .len (.cons (.var 1) .nil))) c__law_least_t2 [3]) .nil)) .nil))))
  .nil)))
def N_is_marked : List PySem.Str := (["one", "other", "how"] : List PySem.Str)
def c_is_marked (u_EITHER u_BOTH : Nat) : Cs :=
  (.cons (.ife (.cmp .eq (.var 2) (.glo u_EITHER)) (.cons (.ret (.bop false (.cons (.var 0) (.cons (.var 1) .nil))))
  .nil) .nil)
  (.cons (.ret (.ife (.cmp .eq (.var 2) (.glo u_BOTH)) (.bop true (.cons (.var 0) (.cons (.var 1) .nil))) (.cmp .ne (.var 0) (.var 1))))
  .nil))
def N_joined : List PySem.Str := (["one", "other", "how", "wide", "steps", "marks", "mine", "row", "yours", "more", "goal", "end"] : List PySem.Str)
def c_joined_e1 : Ce :=
  (.bin .add (.bin .mul (.var 10) (.var 3)) (.var 11))
def c_joined_b1 (u_is_marked : Nat) : Cs :=
  (.cons (.app 4 (.blt .tuple (.cons (.lc0 c_joined_e1 (.tp [10, 11]) (.zip true (.var 7) (.var 9)) [10, 11]) .nil)))
  (.cons (.app 5 (.call u_is_marked (.cons (.cmp .isin (.var 6) (.ix (.attr "Machine" "parts" (.var 0)) (.cst (.int 1)))) (.cons (.cmp .isin (.var 8) (.ix (.attr "Machine" "parts" (.var 1)) (.cst (.int 1)))) (.cons (.var 2) .nil)))))
  .nil))
def c_joined_b2 (u_is_marked : Nat) : Cs :=
  (.cons (.for_ (.tp [8, 9]) (.enum (.ix (.attr "Machine" "parts" (.var 1)) (.cst (.int 0)))) (c_joined_b1 u_is_marked))
  .nil)
def c_joined (u_check_pair u_HOWS u_is_marked u_shrunk u_MOST_STANDS u_machine_by : Nat) : Cs :=
  (.cons (.expr (.call u_check_pair (.cons (.var 0) (.cons (.var 1) .nil))))
  (.cons (.ife (.bop false (.cons (.not (.isi (.bty "str") (.var 2))) (.cons (.cmp .nin (.var 2) (.glo u_HOWS)) .nil))) (.cons .stuck
  .nil) .nil)
  (.cons (.asg 3 (.blt .len (.cons (.ix (.attr "Machine" "parts" (.var 1)) (.cst (.int 0))) .nil)))
  (.cons (.par [4, 5] (.cons (.lst .nil) (.cons (.lst .nil) .nil)))
  (.cons (.for_ (.tp [6, 7]) (.enum (.ix (.attr "Machine" "parts" (.var 0)) (.cst (.int 0)))) (c_joined_b2 u_is_marked))
  (.cons (.unp (.tp [4, 5]) (.call u_shrunk (.cons (.blt .tuple (.cons (.var 4) .nil)) (.cons (.var 5) .nil))))
  (.cons (.ife (.cmp .gt (.blt .len (.cons (.var 4) .nil)) (.glo u_MOST_STANDS)) (.cons .stuck
  .nil) .nil)
  (.cons (.ret (.call u_machine_by (.cons (.var 4) (.cons (.var 5) .nil))))
  .nil))))))))
def N__law_alike_2 : List PySem.Str := (["_law_found", "_law_due_here", "_law_k"] : List PySem.Str)
def c__law_alike_2_e1 : Ce :=
  (.var 2)
def c__law_alike_2_t1 (u__law_alike : Nat) : Ce :=
  (.not (.call u__law_alike (.cons (.ix (.var 0) (.var 2)) (.cons (.ix (.var 1) (.var 2)) .nil))))
def c__law_alike_2 (u__law_alike : Nat) : Cs :=
  (.cons (.ife (.isiT "tuple" "list" (.var 1)) (.cons (.ife (.bop false (.cons (.not (.isiT "tuple" "list" (.var 0))) (.cons (.cmp .ne (.isi (.bty "list") (.var 0)) (.isi (.bty "list") (.var 1))) .nil))) (.cons (.ret (.cst (.bl false)))
  .nil) .nil)
  (.cons (.ife (.cmp .ne (.blt .len (.cons (.var 0) .nil)) (.blt .len (.cons (.var 1) .nil))) (.cons (.ret (.cst (.bl false)))
  .nil) .nil)
  (.cons (.ret (.cmp .eq (.lc1 c__law_alike_2_e1 (.nm 2) (.rg1 (.blt .len (.cons (.var 1) .nil))) (c__law_alike_2_t1 u__law_alike) [2]) (.lst .nil)))
  .nil))) .nil)
  (.cons (.ife (.bop false (.cons (.cmp .is (.var 1) (.cst .non)) (.cons (.isi (.bty "str") (.var 1)) .nil))) (.cons (.ret (.bop true (.cons (.cmp .eq (.var 0) (.var 1)) (.cons (.cmp .eq (.isi (.bty "str") (.var 0)) (.isi (.bty "str") (.var 1))) .nil))))
  .nil) .nil)
  (.cons (.ret (.bop true (.cons (.isi (.bty "int") (.var 0)) (.cons (.cmp .eq (.isi (.bty "bool") (.var 0)) (.isi (.bty "bool") (.var 1))) (.cons (.cmp .eq (.var 0) (.var 1)) .nil)))))
  .nil)))
def N_fewest : List PySem.Str := (["machine"] : List PySem.Str)
def c_fewest (u_lean_parts : Nat) : Cs :=
  (.cons (.ret (.blt .len (.cons (.ix (.call u_lean_parts (.cons (.var 0) .nil)) (.cst (.int 0))) .nil)))
  .nil)
def N_lean : List PySem.Str := (["machine", "steps", "marks", "stand", "mark"] : List PySem.Str)
def c_lean_e1 : Ce :=
  (.var 3)
def c_lean_t1 : Ce :=
  (.var 4)
def c_lean (u_lean_parts u_Machine : Nat) : Cs :=
  (.cons (.unp (.tp [1, 2]) (.call u_lean_parts (.cons (.var 0) .nil)))
  (.cons (.ret (.call u_Machine (.cons (.var 1) (.cons (.blt .tuple (.cons (.lc1 c_lean_e1 (.tp [3, 4]) (.enum (.var 2)) c_lean_t1 [3, 4]) .nil)) .nil))))
  .nil))
def N_lean_parts : List PySem.Str := (["machine", "steps", "marks", "least", "classes", "counts", "keeps", "stand", "goals", "line", "known", "rows", "row", "goal", "mark"] : List PySem.Str)
def c_lean_parts_e1 : Ce :=
  (.var 7)
def c_lean_parts_t1 : Ce :=
  (.var 14)
def c_lean_parts_b1 : Cs :=
  (.cons (.ife (.bop true (.cons (.cmp .is (.ix (.var 5) (.var 7)) (.cst .non)) (.cons (.cmp .nin (.ix (.var 4) (.var 7)) (.var 6)) .nil))) (.cons (.store 6 (.ix (.var 4) (.var 7)) (.var 7))
  .nil) .nil)
  .nil)
def c_lean_parts_b2 : Cs :=
  (.cons (.ife (.cmp .nin (.ix (.var 4) (.var 7)) (.var 6)) (.cons (.store 6 (.ix (.var 4) (.var 7)) (.var 7))
  .nil) .nil)
  .nil)
def c_lean_parts_e2 : Ce :=
  (.ife (.cmp .is (.ix (.var 5) (.var 7)) (.cst .non)) (.var 7) (.ix (.var 6) (.ix (.var 4) (.var 7))))
def c_lean_parts_w1 : Ce :=
  (.cmp .lt (.blt .len (.cons (.var 11) .nil)) (.blt .len (.cons (.var 9) .nil)))
def c_lean_parts_b3 : Cs :=
  (.cons (.ife (.cmp .nin (.ix (.var 8) (.var 13)) (.var 10)) (.cons (.store 10 (.ix (.var 8) (.var 13)) (.blt .len (.cons (.var 9) .nil)))
  (.cons (.app 9 (.ix (.var 8) (.var 13)))
  .nil)) .nil)
  (.cons (.app 12 (.ix (.var 10) (.ix (.var 8) (.var 13))))
  .nil))
def c_lean_parts_b4 : Cs :=
  (.cons (.asg 12 (.lst .nil))
  (.cons (.for_ (.nm 13) (.seq (.ix (.var 1) (.ix (.var 9) (.blt .len (.cons (.var 11) .nil))))) c_lean_parts_b3)
  (.cons (.app 11 (.blt .tuple (.cons (.var 12) .nil)))
  .nil)))
def c_lean_parts_e3 : Ce :=
  (.ix (.var 2) (.var 7))
def c_lean_parts (u_shrunk u_marks_of u_Machine u_kinds_of u_come_counts : Nat) : Cs :=
  (.cons (.unp (.tp [1, 2]) (.call u_shrunk (.cons (.ix (.attr "Machine" "parts" (.var 0)) (.cst (.int 0))) (.cons (.call u_marks_of (.cons (.var 0) .nil)) .nil))))
  (.cons (.asg 3 (.call u_Machine (.cons (.var 1) (.cons (.blt .tuple (.cons (.lc1 c_lean_parts_e1 (.tp [7, 14]) (.enum (.var 2)) c_lean_parts_t1 [7, 14]) .nil)) .nil))))
  (.cons (.par [4, 5] (.cons (.call u_kinds_of (.cons (.var 3) .nil)) (.cons (.call u_come_counts (.cons (.var 3) .nil)) .nil)))
  (.cons (.asg 6 .dnew)
  (.cons (.for_ (.nm 7) (.rg1 (.blt .len (.cons (.var 1) .nil))) c_lean_parts_b1)
  (.cons (.for_ (.nm 7) (.rg1 (.blt .len (.cons (.var 1) .nil))) c_lean_parts_b2)
  (.cons (.asg 8 (.lc0 c_lean_parts_e2 (.nm 7) (.rg1 (.blt .len (.cons (.var 1) .nil))) [7]))
  (.cons (.par [9, 10, 11] (.cons (.lst (.cons (.ix (.var 8) (.cst (.int 0))) .nil)) (.cons (.d1 (.ix (.var 8) (.cst (.int 0))) (.cst (.int 0))) (.cons (.lst .nil) .nil))))
  (.cons (.whl 1000 c_lean_parts_w1 c_lean_parts_b4)
  (.cons (.ret (.tup (.cons (.blt .tuple (.cons (.var 11) .nil)) (.cons (.hl0 c_lean_parts_e3 (.nm 7) 9 false [7]) .nil))))
  .nil))))))))))
def N__law_all : List PySem.Str := (["_law_letters", "_law_many", "_law_rows", "_law_tables", "_law_letter", "_law_longer", "_law_row", "_law_stand", "_law_table", "_law_found", "_law_good"] : List PySem.Str)
def c__law_all_e1 : Ce :=
  (.bin .add (.var 6) (.tup (.cons (.var 7) .nil)))
def c__law_all_b1 : Cs :=
  (.cons (.asg 5 (.bin .add (.var 5) (.lc0 c__law_all_e1 (.nm 7) (.rg1 (.var 1)) [7])))
  .nil)
def c__law_all_b2 : Cs :=
  (.cons (.asg 5 (.lst .nil))
  (.cons (.for_ (.nm 6) (.seq (.var 2)) c__law_all_b1)
  (.cons (.asg 2 (.var 5))
  .nil)))
def c__law_all_e2 : Ce :=
  (.bin .add (.var 8) (.tup (.cons (.var 6) .nil)))
def c__law_all_b3 : Cs :=
  (.cons (.asg 5 (.bin .add (.var 5) (.lc0 c__law_all_e2 (.nm 6) (.seq (.var 2)) [6])))
  .nil)
def c__law_all_b4 : Cs :=
  (.cons (.asg 5 (.lst .nil))
  (.cons (.for_ (.nm 8) (.seq (.var 3)) c__law_all_b3)
  (.cons (.asg 3 (.var 5))
  .nil)))
def c__law_all_b5 : Cs :=
  (.cons (.app 9 (.tup (.cons (.var 8) (.cons (.var 10) .nil))))
  .nil)
def c__law_all_b6 : Cs :=
  (.cons (.for_ (.nm 10) (.seq (.slHi (.lst (.cons (.tup .nil) (.cons (.tup (.cons (.cst (.int 0)) .nil)) (.cons (.tup (.cons (.cst (.int 1)) .nil)) (.cons (.tup (.cons (.cst (.int 0)) (.cons (.cst (.int 1)) .nil))) .nil))))) (.bin .mul (.cst (.int 2)) (.var 1)))) c__law_all_b5)
  .nil)
def c__law_all : Cs :=
  (.cons (.par [2, 3] (.cons (.lst (.cons (.tup .nil) .nil)) (.cons (.lst (.cons (.tup .nil) .nil)) .nil)))
  (.cons (.for_ (.nm 4) (.rg1 (.var 0)) c__law_all_b2)
  (.cons (.for_ (.nm 7) (.rg1 (.var 1)) c__law_all_b4)
  (.cons (.asg 9 (.lst .nil))
  (.cons (.for_ (.nm 8) (.seq (.var 3)) c__law_all_b6)
  (.cons (.ret (.var 9))
  .nil))))))
def N__law_three : List PySem.Str := (["_law_found", "_law_code", "_law_cells", "_law_left", "_law_line", "_law_k", "_law_table", "_law_stand", "_law_goal"] : List PySem.Str)
def c__law_three_b1 : Cs :=
  (.cons (.app 2 (.bin .mod (.blt .int (.cons (.var 3) .nil)) (.cst (.int 3))))
  (.cons (.asg 3 (.bin .fdiv (.var 3) (.cst (.int 3))))
  .nil))
def c__law_three_b2 : Cs :=
  (.cons (.asg 4 (.bin .add (.var 4) (.ife (.cmp .nin (.var 8) (.var 4)) (.lst (.cons (.var 8) .nil)) (.lst .nil))))
  .nil)
def c__law_three_b3 : Cs :=
  (.cons (.for_ (.nm 8) (.seq (.ife (.cmp .lt (.var 7) (.blt .len (.cons (.var 4) .nil))) (.ix (.var 6) (.ix (.var 4) (.var 7))) (.tup .nil))) c__law_three_b2)
  .nil)
def c__law_three_b4 : Cs :=
  (.cons (.par [2, 3, 4] (.cons (.lst .nil) (.cons (.var 1) (.cons (.lst (.cons (.cst (.int 0)) .nil)) .nil))))
  (.cons (.for_ (.nm 5) (.rg1 (.cst (.int 6))) c__law_three_b1)
  (.cons (.asg 6 (.tup (.cons (.blt .tuple (.cons (.slHi (.var 2) (.cst (.int 2))) .nil)) (.cons (.blt .tuple (.cons (.slBo (.var 2) (.cst (.int 2)) (.cst (.int 4))) .nil)) (.cons (.blt .tuple (.cons (.slLo (.var 2) (.cst (.int 4))) .nil)) .nil)))))
  (.cons (.for_ (.nm 7) (.rg1 (.cst (.int 3))) c__law_three_b3)
  (.cons (.ife (.cmp .eq (.var 4) (.lst (.cons (.cst (.int 0)) (.cons (.cst (.int 1)) (.cons (.cst (.int 2)) .nil))))) (.cons (.app 0 (.var 6))
  .nil) .nil)
  .nil)))))
def c__law_three : Cs :=
  (.cons (.asg 0 (.lst .nil))
  (.cons (.for_ (.nm 1) (.rg1 (.cst (.int 729))) c__law_three_b4)
  (.cons (.ret (.var 0))
  .nil)))
def N__law_long : List PySem.Str := (["_law_h", "_law_parts_here", "_law_found", "_law_k", "_law_row", "_law_letter"] : List PySem.Str)
def c__law_long_e1 (u__law_next : Nat) : Ce :=
  (.call u__law_next (.cons (.var 0) (.cons (.cst (.int 2)) .nil)))
def c__law_long_b1 (u__law_next u__law_end : Nat) : Cs :=
  (.cons (.asg 4 (.blt .tuple (.cons (.lc0 (c__law_long_e1 u__law_next) (.nm 5) (.rg1 (.cst (.int 30))) [5]) .nil)))
  (.cons (.app 2 (.tup (.cons (.var 4) (.cons (.cmp .isin (.call u__law_end (.cons (.var 1) (.cons (.cst (.int 0)) (.cons (.var 4) .nil)))) (.ix (.var 1) (.cst (.int 1)))) .nil))))
  .nil))
def c__law_long (u__law_next u__law_end : Nat) : Cs :=
  (.cons (.asg 2 (.lst .nil))
  (.cons (.for_ (.nm 3) (.rg1 (.cst (.int 12))) (c__law_long_b1 u__law_next u__law_end))
  (.cons (.ret (.var 2))
  .nil)))
def N_with_step : List PySem.Str := (["machine", "stand", "letter", "goal", "steps", "good", "row"] : List PySem.Str)
def c_with_step (u_Machine : Nat) : Cs :=
  (.cons (.unp (.tp [4, 5]) (.attr "Machine" "parts" (.var 0)))
  (.cons (.asg 6 (.bin .add (.bin .add (.slHi (.ix (.var 4) (.var 1)) (.var 2)) (.tup (.cons (.var 3) .nil))) (.slLo (.ix (.var 4) (.var 1)) (.bin .add (.var 2) (.cst (.int 1))))))
  (.cons (.ret (.call u_Machine (.cons (.bin .add (.bin .add (.slHi (.var 4) (.var 1)) (.tup (.cons (.var 6) .nil))) (.slLo (.var 4) (.bin .add (.var 1) (.cst (.int 1))))) (.cons (.var 5) .nil))))
  .nil)))
def N_check_step : List PySem.Str := (["machine", "stand", "letter", "goal"] : List PySem.Str)
def c_check_step (u_check_stand u_is_integer : Nat) : Cs :=
  (.cons (.expr (.call u_check_stand (.cons (.var 0) (.cons (.var 1) .nil))))
  (.cons (.ife (.not (.call u_is_integer (.cons (.var 2) (.cons (.cst (.int 0)) (.cons (.bin .sub (.blt .len (.cons (.ix (.ix (.attr "Machine" "parts" (.var 0)) (.cst (.int 0))) (.cst (.int 0))) .nil)) (.cst (.int 1))) .nil))))) (.cons .stuck
  .nil) .nil)
  (.cons (.expr (.call u_check_stand (.cons (.var 0) (.cons (.var 3) .nil))))
  .nil)))
def N_changed : List PySem.Str := (["machine", "stand", "letter", "goal"] : List PySem.Str)
def c_changed (u_check_step u_with_step : Nat) : Cs :=
  (.cons (.expr (.call u_check_step (.cons (.var 0) (.cons (.var 1) (.cons (.var 2) (.cons (.var 3) .nil))))))
  (.cons (.ret (.call u_with_step (.cons (.var 0) (.cons (.var 1) (.cons (.var 2) (.cons (.var 3) .nil))))))
  .nil))
def N_harmless : List PySem.Str := (["machine", "found", "stand", "row", "letter", "now", "goal"] : List PySem.Str)
def c_harmless_b1 (u_word u_with_step u_MANY : Nat) : Cs :=
  (.cons (.ife (.bop true (.cons (.cmp .ne (.var 6) (.var 5)) (.cons (.cmp .ne (.call u_word (.cons (.var 0) (.cons (.call u_with_step (.cons (.var 0) (.cons (.var 2) (.cons (.var 4) (.cons (.var 6) .nil))))) .nil))) (.glo u_MANY)) .nil))) (.cons (.app 1 (.tup (.cons (.var 2) (.cons (.var 4) (.cons (.var 6) .nil)))))
  .nil) .nil)
  .nil)
def c_harmless_b2 (u_word u_with_step u_MANY : Nat) : Cs :=
  (.cons (.for_ (.nm 6) (.rg1 (.blt .len (.cons (.ix (.attr "Machine" "parts" (.var 0)) (.cst (.int 0))) .nil))) (c_harmless_b1 u_word u_with_step u_MANY))
  .nil)
def c_harmless_b3 (u_word u_with_step u_MANY : Nat) : Cs :=
  (.cons (.for_ (.tp [4, 5]) (.enum (.var 3)) (c_harmless_b2 u_word u_with_step u_MANY))
  .nil)
def c_harmless (u_word u_with_step u_MANY : Nat) : Cs :=
  (.cons (.asg 1 (.lst .nil))
  (.cons (.for_ (.tp [2, 3]) (.enum (.ix (.attr "Machine" "parts" (.var 0)) (.cst (.int 0)))) (c_harmless_b3 u_word u_with_step u_MANY))
  (.cons (.ret (.var 1))
  .nil)))
def N_stand_of : List PySem.Str := (["word", "stands", "stand"] : List PySem.Str)
def c_stand_of_b1 : Cs :=
  (.cons (.ife (.cmp .eq (.var 0) (.blt .str (.cons (.var 2) .nil))) (.cons (.ret (.var 2))
  .nil) .nil)
  .nil)
def c_stand_of : Cs :=
  (.cons (.for_ (.nm 2) (.rg1 (.var 1)) c_stand_of_b1)
  (.cons (.ret (.cst .non))
  .nil))
def N_lots_of : List PySem.Str := (["one", "other", "some", "reach", "pair", "known", "waiting", "goal", "found"] : List PySem.Str)
def c_lots_of_w1 : Ce :=
  (.cmp .ne (.var 6) (.lst .nil))
def c_lots_of_b1 : Cs :=
  (.cons (.ife (.bop true (.cons (.cmp .isin (.var 7) (.var 2)) (.cons (.cmp .nin (.var 7) (.var 5)) .nil))) (.cons (.store 5 (.var 7) (.cst (.bl true)))
  (.cons (.app 6 (.var 7))
  .nil)) .nil)
  .nil)
def c_lots_of_b2 (u_goals_of : Nat) : Cs :=
  (.cons (.for_ (.nm 7) (.seq (.call u_goals_of (.cons (.var 0) (.cons (.var 1) (.cons (.pop 6) .nil))))) c_lots_of_b1)
  .nil)
def c_lots_of_b3 (u_goals_of : Nat) : Cs :=
  (.cons (.par [5, 6] (.cons (.d1 (.var 4) (.cst (.bl true))) (.cons (.lst (.cons (.var 4) .nil)) .nil)))
  (.cons (.whl 1000 c_lots_of_w1 (c_lots_of_b2 u_goals_of))
  (.cons (.store 3 (.var 4) (.var 5))
  .nil)))
def c_lots_of_e1 : Ce :=
  (.var 7)
def c_lots_of_t1 : Ce :=
  (.cmp .isin (.var 4) (.ix (.var 3) (.var 7)))
def c_lots_of_b4 : Cs :=
  (.cons (.store 8 (.var 4) (.lc1 c_lots_of_e1 (.nm 7) (.seq (.ix (.var 3) (.var 4))) c_lots_of_t1 [7]))
  .nil)
def c_lots_of (u_useful u_BEGIN u_goals_of : Nat) : Cs :=
  (.cons (.asg 2 (.call u_useful (.cons (.var 0) (.cons (.var 1) (.cons (.glo u_BEGIN) .nil)))))
  (.cons (.asg 3 .dnew)
  (.cons (.for_ (.nm 4) (.seq (.var 2)) (c_lots_of_b3 u_goals_of))
  (.cons (.asg 8 .dnew)
  (.cons (.for_ (.nm 4) (.seq (.var 2)) c_lots_of_b4)
  (.cons (.ret (.var 8))
  .nil))))))
def N_inner_letters : List PySem.Str := (["one", "other", "pair", "lot", "letter", "goal"] : List PySem.Str)
def c_inner_letters_e1 : Ce :=
  (.var 4)
def c_inner_letters_t1 : Ce :=
  (.cmp .isin (.var 5) (.var 3))
def c_inner_letters (u_goals_of : Nat) : Cs :=
  (.cons (.ret (.lc1 c_inner_letters_e1 (.tp [4, 5]) (.enum (.call u_goals_of (.cons (.var 0) (.cons (.var 1) (.cons (.var 2) .nil))))) c_inner_letters_t1 [4, 5]))
  .nil)
def N_first_fork : List PySem.Str := (["one", "other", "lots", "some", "pair"] : List PySem.Str)
def c_first_fork_e1 : Ce :=
  (.var 4)
def c_first_fork_t1 (u_inner_letters : Nat) : Ce :=
  (.cmp .gt (.blt .len (.cons (.call u_inner_letters (.cons (.var 0) (.cons (.var 1) (.cons (.var 4) (.cons (.ix (.var 2) (.var 4)) .nil))))) .nil)) (.cst (.int 1)))
def c_first_fork (u_lots_of u_inner_letters : Nat) : Cs :=
  (.cons (.asg 2 (.call u_lots_of (.cons (.var 0) (.cons (.var 1) .nil))))
  (.cons (.asg 3 (.lc1 c_first_fork_e1 (.nm 4) (.seq (.var 2)) (c_first_fork_t1 u_inner_letters) [4]))
  (.cons (.ret (.ife (.cmp .ne (.var 3) (.lst .nil)) (.blt .min (.cons (.var 3) .nil)) (.cst .non)))
  .nil)))
def N_rings_ahead : List PySem.Str := (["one", "other", "lots", "pair", "known", "lot", "own", "behind", "here", "goal"] : List PySem.Str)
def c_rings_ahead_b1 (u_rings_ahead : Nat) : Cs :=
  (.cons (.ife (.bop true (.cons (.cmp .isin (.var 9) (.var 2)) (.cons (.cmp .nin (.var 9) (.var 5)) .nil))) (.cons (.app 7 (.call u_rings_ahead (.cons (.var 0) (.cons (.var 1) (.cons (.var 2) (.cons (.var 9) (.cons (.var 4) .nil)))))))
  .nil) .nil)
  .nil)
def c_rings_ahead_b2 (u_goals_of u_rings_ahead : Nat) : Cs :=
  (.cons (.for_ (.nm 9) (.seq (.call u_goals_of (.cons (.var 0) (.cons (.var 1) (.cons (.var 8) .nil))))) (c_rings_ahead_b1 u_rings_ahead))
  .nil)
def c_rings_ahead_b3 : Cs :=
  (.cons (.store 4 (.var 8) (.bin .add (.var 6) (.blt .max (.cons (.var 7) .nil))))
  .nil)
def c_rings_ahead (u_inner_letters u_goals_of u_rings_ahead : Nat) : Cs :=
  (.cons (.ife (.cmp .nin (.var 3) (.var 4)) (.cons (.asg 5 (.ix (.var 2) (.var 3)))
  (.cons (.asg 6 (.ife (.cmp .ne (.call u_inner_letters (.cons (.var 0) (.cons (.var 1) (.cons (.var 3) (.cons (.var 5) .nil))))) (.lst .nil)) (.cst (.int 1)) (.cst (.int 0))))
  (.cons (.asg 7 (.lst (.cons (.cst (.int 0)) .nil)))
  (.cons (.for_ (.nm 8) (.seq (.var 5)) (c_rings_ahead_b2 u_goals_of u_rings_ahead))
  (.cons (.for_ (.nm 8) (.seq (.var 5)) c_rings_ahead_b3)
  .nil))))) .nil)
  (.cons (.ret (.ix (.var 4) (.var 3)))
  .nil))
def N_growth : List PySem.Str := (["one", "other", "lots"] : List PySem.Str)
def c_growth (u_check_pair u_first_fork u_lots_of u_BEGIN u_rings_ahead : Nat) : Cs :=
  (.cons (.expr (.call u_check_pair (.cons (.var 0) (.cons (.var 1) .nil))))
  (.cons (.ife (.cmp .isn (.call u_first_fork (.cons (.var 0) (.cons (.var 1) .nil))) (.cst .non)) (.cons (.ret (.cst .non))
  .nil) .nil)
  (.cons (.asg 2 (.call u_lots_of (.cons (.var 0) (.cons (.var 1) .nil))))
  (.cons (.ret (.ife (.cmp .isin (.glo u_BEGIN) (.var 2)) (.call u_rings_ahead (.cons (.var 0) (.cons (.var 1) (.cons (.var 2) (.cons (.glo u_BEGIN) (.cons .dnew .nil)))))) (.cst (.int 0))))
  .nil))))
def N__law_growth : List PySem.Str := (["_law_one", "_law_other", "_law_bunches", "_law_inner", "_law_pair", "_law_goals", "_law_rank", "_law_again", "_law_own", "_law_ahead", "_law_goal"] : List PySem.Str)
def c__law_growth_e1 : Ce :=
  (.var 10)
def c__law_growth_t1 : Ce :=
  (.cmp .isin (.var 10) (.ix (.var 2) (.var 4)))
def c__law_growth_b1 : Cs :=
  (.cons (.asg 5 (.lzip (.ix (.ix (.var 0) (.cst (.int 0))) (.ix (.var 4) (.cst (.int 0)))) (.ix (.ix (.var 1) (.cst (.int 0))) (.ix (.var 4) (.cst (.int 1))))))
  (.cons (.store 3 (.var 4) (.blt .len (.cons (.lc1 c__law_growth_e1 (.nm 10) (.seq (.var 5)) c__law_growth_t1 [10]) .nil)))
  (.cons (.ife (.cmp .gt (.ix (.var 3) (.var 4)) (.cst (.int 1))) (.cons (.ret (.cst .non))
  .nil) .nil)
  .nil)))
def c__law_growth_b2 : Cs :=
  (.cons (.store 6 (.var 4) (.cst (.int 0)))
  .nil)
def c__law_growth_e2 : Ce :=
  (.bin .sub (.ix (.var 6) (.var 10)) (.var 8))
def c__law_growth_b3 : Cs :=
  (.cons (.ife (.bop true (.cons (.cmp .isin (.var 10) (.var 2)) (.cons (.cmp .nin (.var 10) (.ix (.var 2) (.var 4))) .nil))) (.cons (.app 9 (.ix (.var 6) (.var 10)))
  .nil) .nil)
  .nil)
def c__law_growth_b4 : Cs :=
  (.cons (.asg 8 (.ife (.cmp .gt (.ix (.var 3) (.var 4)) (.cst (.int 0))) (.cst (.int 1)) (.cst (.int 0))))
  (.cons (.asg 9 (.bin .add (.lst (.cons (.cst (.int 0)) .nil)) (.lc0 c__law_growth_e2 (.nm 10) (.seq (.ix (.var 2) (.var 4))) [10])))
  (.cons (.for_ (.nm 10) (.zip false (.ix (.ix (.var 0) (.cst (.int 0))) (.ix (.var 4) (.cst (.int 0)))) (.ix (.ix (.var 1) (.cst (.int 0))) (.ix (.var 4) (.cst (.int 1))))) c__law_growth_b3)
  (.cons (.store 6 (.var 4) (.bin .add (.blt .max (.cons (.var 9) .nil)) (.var 8)))
  .nil))))
def c__law_growth_b5 : Cs :=
  (.cons (.for_ (.nm 4) (.seq (.var 2)) c__law_growth_b4)
  .nil)
def c__law_growth (u__law_lots : Nat) : Cs :=
  (.cons (.par [2, 3] (.cons (.call u__law_lots (.cons (.var 0) (.cons (.var 1) .nil))) (.cons .dnew .nil)))
  (.cons (.for_ (.nm 4) (.seq (.var 2)) c__law_growth_b1)
  (.cons (.asg 6 .dnew)
  (.cons (.for_ (.nm 4) (.seq (.var 2)) c__law_growth_b2)
  (.cons (.for_ (.nm 7) (.rg1 (.bin .add (.blt .len (.cons (.var 2) .nil)) (.cst (.int 1)))) c__law_growth_b5)
  (.cons (.ret (.ife (.cmp .isin (.tup (.cons (.cst (.int 0)) (.cons (.cst (.int 0)) .nil))) (.var 2)) (.ix (.var 6) (.tup (.cons (.cst (.int 0)) (.cons (.cst (.int 0)) .nil)))) (.cst (.int 0))))
  .nil))))))
def N_way_in : List PySem.Str := (["one", "other", "begin", "letter", "lot", "first", "known", "rows", "later", "row", "here", "more", "goal"] : List PySem.Str)
def c_way_in_w1 : Ce :=
  (.cmp .ne (.var 7) (.lst .nil))
def c_way_in_b1 (u_goals_of : Nat) : Cs :=
  (.cons (.asg 12 (.ix (.call u_goals_of (.cons (.var 0) (.cons (.var 1) (.cons (.var 10) .nil)))) (.var 11)))
  (.cons (.ife (.cmp .eq (.var 12) (.var 2)) (.cons (.ret (.bin .add (.var 9) (.tup (.cons (.var 11) .nil))))
  .nil) .nil)
  (.cons (.ife (.cmp .nin (.var 12) (.var 6)) (.cons (.store 6 (.var 12) (.cst (.bl true)))
  (.cons (.app 8 (.tup (.cons (.bin .add (.var 9) (.tup (.cons (.var 11) .nil))) (.cons (.var 12) .nil))))
  .nil)) .nil)
  .nil)))
def c_way_in_b2 (u_inner_letters u_goals_of : Nat) : Cs :=
  (.cons (.for_ (.nm 11) (.seq (.call u_inner_letters (.cons (.var 0) (.cons (.var 1) (.cons (.var 10) (.cons (.var 4) .nil)))))) (c_way_in_b1 u_goals_of))
  .nil)
def c_way_in_b3 (u_inner_letters u_goals_of : Nat) : Cs :=
  (.cons (.asg 8 (.lst .nil))
  (.cons (.for_ (.tp [9, 10]) (.seq (.var 7)) (c_way_in_b2 u_inner_letters u_goals_of))
  (.cons (.asg 7 (.var 8))
  .nil)))
def c_way_in (u_goals_of u_inner_letters : Nat) : Cs :=
  (.cons (.asg 5 (.ix (.call u_goals_of (.cons (.var 0) (.cons (.var 1) (.cons (.var 2) .nil)))) (.var 3)))
  (.cons (.ife (.cmp .eq (.var 5) (.var 2)) (.cons (.ret (.tup (.cons (.var 3) .nil)))
  .nil) .nil)
  (.cons (.par [6, 7] (.cons (.d1 (.var 5) (.cst (.bl true))) (.cons (.lst (.cons (.tup (.cons (.tup (.cons (.var 3) .nil)) (.cons (.var 5) .nil))) .nil)) .nil)))
  (.cons (.whl 1000 c_way_in_w1 (c_way_in_b3 u_inner_letters u_goals_of))
  (.cons (.ret (.cst .non))
  .nil)))))
def N_twins : List PySem.Str := (["one", "other", "fork", "lot", "letters", "ways", "ends", "head", "tail", "goal"] : List PySem.Str)
def c_twins_e1 : Ce :=
  (.tup (.cons (.blt .len (.cons (.ix (.var 5) (.var 9)) .nil)) (.cons (.ix (.var 5) (.var 9)) .nil)))
def c_twins_t1 (u_is_unlike : Nat) : Ce :=
  (.call u_is_unlike (.cons (.var 0) (.cons (.var 1) (.cons (.var 9) .nil))))
def c_twins (u_check_pair u_first_fork u_lots_of u_inner_letters u_ways_from u_is_unlike u_BEGIN u_way_in : Nat) : Cs :=
  (.cons (.expr (.call u_check_pair (.cons (.var 0) (.cons (.var 1) .nil))))
  (.cons (.asg 2 (.call u_first_fork (.cons (.var 0) (.cons (.var 1) .nil))))
  (.cons (.ife (.cmp .is (.var 2) (.cst .non)) (.cons (.ret (.cst .non))
  .nil) .nil)
  (.cons (.asg 3 (.ix (.call u_lots_of (.cons (.var 0) (.cons (.var 1) .nil))) (.var 2)))
  (.cons (.asg 4 (.call u_inner_letters (.cons (.var 0) (.cons (.var 1) (.cons (.var 2) (.cons (.var 3) .nil))))))
  (.cons (.asg 5 (.call u_ways_from (.cons (.var 0) (.cons (.var 1) (.cons (.var 2) .nil)))))
  (.cons (.asg 6 (.lc1 c_twins_e1 (.nm 9) (.seq (.var 5)) (c_twins_t1 u_is_unlike) [9]))
  (.cons (.asg 7 (.ife (.cmp .eq (.var 2) (.glo u_BEGIN)) (.tup .nil) (.ix (.call u_ways_from (.cons (.var 0) (.cons (.var 1) (.cons (.glo u_BEGIN) .nil)))) (.var 2))))
  (.cons (.asg 8 (.ife (.call u_is_unlike (.cons (.var 0) (.cons (.var 1) (.cons (.var 2) .nil)))) (.tup .nil) (.ix (.blt .min (.cons (.var 6) .nil)) (.cst (.int 1)))))
  (.cons (.ret (.tup (.cons (.var 7) (.cons (.call u_way_in (.cons (.var 0) (.cons (.var 1) (.cons (.var 2) (.cons (.ix (.var 4) (.cst (.int 0))) (.cons (.var 3) .nil)))))) (.cons (.call u_way_in (.cons (.var 0) (.cons (.var 1) (.cons (.var 2) (.cons (.ix (.var 4) (.cst (.int 1))) (.cons (.var 3) .nil)))))) (.cons (.var 8) .nil))))))
  .nil))))))))))
def N_levels_of : List PySem.Str := (["machine", "found", "line", "at", "goal"] : List PySem.Str)
def c_levels_of_w1 : Ce :=
  (.cmp .lt (.var 3) (.blt .len (.cons (.var 2) .nil)))
def c_levels_of_b1 : Cs :=
  (.cons (.ife (.cmp .nin (.var 4) (.var 1)) (.cons (.store 1 (.var 4) (.bin .add (.ix (.var 1) (.ix (.var 2) (.var 3))) (.cst (.int 1))))
  (.cons (.app 2 (.var 4))
  .nil)) .nil)
  .nil)
def c_levels_of_b2 : Cs :=
  (.cons (.for_ (.nm 4) (.seq (.ix (.ix (.attr "Machine" "parts" (.var 0)) (.cst (.int 0))) (.ix (.var 2) (.var 3)))) c_levels_of_b1)
  (.cons (.aug false 3 (.cst (.int 1)))
  .nil))
def c_levels_of : Cs :=
  (.cons (.par [1, 2] (.cons (.d1 (.cst (.int 0)) (.cst (.int 0))) (.cons (.lst (.cons (.cst (.int 0)) .nil)) .nil)))
  (.cons (.asg 3 (.cst (.int 0)))
  (.cons (.whl 1000 c_levels_of_w1 c_levels_of_b2)
  (.cons (.ret (.var 1))
  .nil))))
def N_depths_of : List PySem.Str := (["machine", "steps", "good", "many", "found", "one", "other", "changed", "least", "mine", "yours"] : List PySem.Str)
def c_depths_of_b1 (u_FAR : Nat) : Cs :=
  (.cons (.store 4 (.tup (.cons (.var 5) (.cons (.var 6) .nil))) (.ife (.cmp .ne (.cmp .isin (.var 5) (.var 2)) (.cmp .isin (.var 6) (.var 2))) (.cst (.int 0)) (.glo u_FAR)))
  .nil)
def c_depths_of_b2 (u_FAR : Nat) : Cs :=
  (.cons (.for_ (.nm 6) (.rg1 (.var 3)) (c_depths_of_b1 u_FAR))
  .nil)
def c_depths_of_w1 : Ce :=
  (.var 7)
def c_depths_of_e1 : Ce :=
  (.bin .add (.ix (.var 4) (.tup (.cons (.var 9) (.cons (.var 10) .nil)))) (.cst (.int 1)))
def c_depths_of_b3 : Cs :=
  (.cons (.asg 8 (.blt .min (.cons (.lc0 c_depths_of_e1 (.tp [9, 10]) (.zip true (.ix (.var 1) (.var 5)) (.ix (.var 1) (.var 6))) [9, 10]) .nil)))
  (.cons (.ife (.cmp .lt (.var 8) (.ix (.var 4) (.tup (.cons (.var 5) (.cons (.var 6) .nil))))) (.cons (.store 4 (.tup (.cons (.var 5) (.cons (.var 6) .nil))) (.var 8))
  (.cons (.asg 7 (.cst (.bl true)))
  .nil)) .nil)
  .nil))
def c_depths_of_b4 : Cs :=
  (.cons (.for_ (.nm 6) (.rg1 (.var 3)) c_depths_of_b3)
  .nil)
def c_depths_of_b5 : Cs :=
  (.cons (.asg 7 (.cst (.bl false)))
  (.cons (.for_ (.nm 5) (.rg1 (.var 3)) c_depths_of_b4)
  .nil))
def c_depths_of (u_FAR : Nat) : Cs :=
  (.cons (.unp (.tp [1, 2]) (.attr "Machine" "parts" (.var 0)))
  (.cons (.asg 3 (.blt .len (.cons (.var 1) .nil)))
  (.cons (.asg 4 .dnew)
  (.cons (.for_ (.nm 5) (.rg1 (.var 3)) (c_depths_of_b2 u_FAR))
  (.cons (.asg 7 (.cst (.bl true)))
  (.cons (.whl 1000 c_depths_of_w1 c_depths_of_b5)
  (.cons (.ret (.var 4))
  .nil)))))))
def N_check_length : List PySem.Str := (["thing"] : List PySem.Str)
def c_check_length (u_is_integer u_MOST_LONG : Nat) : Cs :=
  (.cons (.ife (.not (.call u_is_integer (.cons (.var 0) (.cons (.cst (.int 0)) (.cons (.glo u_MOST_LONG) .nil))))) (.cons .stuck
  .nil) .nil)
  .nil)
def N_cover : List PySem.Str := (["machine", "length"] : List PySem.Str)
def c_cover (u_check_length u_keeps_of : Nat) : Cs :=
  (.cons (.expr (.call u_check_length (.cons (.var 1) .nil)))
  (.cons (.ret (.blt .len (.cons (.ix (.call u_keeps_of (.cons (.var 0) (.cons (.var 1) .nil))) (.cst (.int 0))) .nil)))
  .nil))
def N__law_apart : List PySem.Str := (["_law_one", "_law_other", "_law_begin", "_law_known", "_law_row", "_law_many", "_law_pair", "_law_later", "_law_goal"] : List PySem.Str)
def c__law_apart_b1 : Cs :=
  (.cons (.ife (.cmp .ne (.cmp .isin (.ix (.var 6) (.cst (.int 0))) (.ix (.var 0) (.cst (.int 1)))) (.cmp .isin (.ix (.var 6) (.cst (.int 1))) (.ix (.var 1) (.cst (.int 1))))) (.cons (.ret (.var 5))
  .nil) .nil)
  .nil)
def c__law_apart_b2 : Cs :=
  (.cons (.ife (.cmp .nin (.var 8) (.var 3)) (.cons (.store 3 (.var 8) (.cst (.bl true)))
  (.cons (.app 7 (.var 8))
  .nil)) .nil)
  .nil)
def c__law_apart_b3 : Cs :=
  (.cons (.for_ (.nm 8) (.zip false (.ix (.ix (.var 0) (.cst (.int 0))) (.ix (.var 6) (.cst (.int 0)))) (.ix (.ix (.var 1) (.cst (.int 0))) (.ix (.var 6) (.cst (.int 1))))) c__law_apart_b2)
  .nil)
def c__law_apart_b4 : Cs :=
  (.cons (.for_ (.nm 6) (.seq (.var 4)) c__law_apart_b1)
  (.cons (.asg 7 (.lst .nil))
  (.cons (.for_ (.nm 6) (.seq (.var 4)) c__law_apart_b3)
  (.cons (.asg 4 (.var 7))
  .nil))))
def c__law_apart : Cs :=
  (.cons (.par [3, 4] (.cons (.d1 (.var 2) (.cst (.bl true))) (.cons (.lst (.cons (.var 2) .nil)) .nil)))
  (.cons (.for_ (.nm 5) (.rg1 (.cst (.int 70))) c__law_apart_b4)
  (.cons (.ret (.cst .non))
  .nil)))
def N_is_short : List PySem.Str := (["machine", "thing", "letter"] : List PySem.Str)
def c_is_short_e1 (u_is_integer : Nat) : Ce :=
  (.call u_is_integer (.cons (.var 2) (.cons (.cst (.int 0)) (.cons (.bin .sub (.blt .len (.cons (.ix (.ix (.attr "Machine" "parts" (.var 0)) (.cst (.int 0))) (.cst (.int 0))) .nil)) (.cst (.int 1))) .nil))))
def c_is_short (u_MOST_SHORT u_is_integer : Nat) : Cs :=
  (.cons (.ife (.bop false (.cons (.not (.isi (.bty "tuple") (.var 1))) (.cons (.cmp .gt (.blt .len (.cons (.var 1) .nil)) (.glo u_MOST_SHORT)) .nil))) (.cons (.ret (.cst (.bl false)))
  .nil) .nil)
  (.cons (.ret (.blt .all (.cons (.lc0 (c_is_short_e1 u_is_integer) (.nm 2) (.seq (.var 1)) [2]) .nil)))
  .nil))
def N_check_rows : List PySem.Str := (["machine", "thing", "index", "row"] : List PySem.Str)
def c_check_rows_b1 (u_is_short : Nat) : Cs :=
  (.cons (.ife (.bop false (.cons (.not (.call u_is_short (.cons (.var 0) (.cons (.var 3) .nil)))) (.cons (.cmp .isin (.var 3) (.slHi (.var 1) (.var 2))) .nil))) (.cons .stuck
  .nil) .nil)
  .nil)
def c_check_rows (u_MOST_ROWS u_is_short : Nat) : Cs :=
  (.cons (.ife (.bop false (.cons (.not (.isiT "list" "tuple" (.var 1))) (.cons (.not (.chain .le .le (.cst (.int 1)) (.blt .len (.cons (.var 1) .nil)) (.glo u_MOST_ROWS))) .nil))) (.cons .stuck
  .nil) .nil)
  (.cons (.for_ (.tp [2, 3]) (.enum (.var 1)) (c_check_rows_b1 u_is_short))
  .nil))
def N_branches_of : List PySem.Str := (["rows", "found", "row", "many"] : List PySem.Str)
def c_branches_of_b1 : Cs :=
  (.cons (.store 1 (.slHi (.var 2) (.var 3)) (.cst (.bl true)))
  .nil)
def c_branches_of_b2 : Cs :=
  (.cons (.for_ (.nm 3) (.rg1 (.bin .add (.blt .len (.cons (.var 2) .nil)) (.cst (.int 1)))) c_branches_of_b1)
  .nil)
def c_branches_of : Cs :=
  (.cons (.asg 1 .dnew)
  (.cons (.for_ (.nm 2) (.seq (.var 0)) c_branches_of_b2)
  (.cons (.ret (.var 1))
  .nil)))
def N_mended : List PySem.Str := (["machine", "rows", "steps", "good", "begin", "known", "line", "lines", "marks", "beginnings", "stand", "begun", "line_steps", "letter", "goal", "later", "small_steps", "small_marks"] : List PySem.Str)
def c_mended_w1 : Ce :=
  (.cmp .lt (.blt .len (.cons (.var 7) .nil)) (.blt .len (.cons (.var 6) .nil)))
def c_mended_b1 : Cs :=
  (.cons (.asg 15 (.ife (.bop true (.cons (.cmp .isn (.var 11) (.cst .non)) (.cons (.cmp .isin (.bin .add (.var 11) (.tup (.cons (.var 13) .nil))) (.var 9)) .nil))) (.bin .add (.var 11) (.tup (.cons (.var 13) .nil))) (.cst .non)))
  (.cons (.ife (.cmp .nin (.tup (.cons (.var 14) (.cons (.var 15) .nil))) (.var 5)) (.cons (.store 5 (.tup (.cons (.var 14) (.cons (.var 15) .nil))) (.blt .len (.cons (.var 6) .nil)))
  (.cons (.app 6 (.tup (.cons (.var 14) (.cons (.var 15) .nil))))
  .nil)) .nil)
  (.cons (.app 12 (.ix (.var 5) (.tup (.cons (.var 14) (.cons (.var 15) .nil)))))
  .nil)))
def c_mended_b2 : Cs :=
  (.cons (.unp (.tp [10, 11]) (.ix (.var 6) (.blt .len (.cons (.var 7) .nil))))
  (.cons (.asg 12 (.lst .nil))
  (.cons (.for_ (.tp [13, 14]) (.enum (.ix (.var 2) (.var 10))) c_mended_b1)
  (.cons (.app 7 (.blt .tuple (.cons (.var 12) .nil)))
  (.cons (.app 8 (.cmp .ne (.cmp .isin (.var 10) (.var 3)) (.bop true (.cons (.cmp .isn (.var 11) (.cst .non)) (.cons (.cmp .isin (.var 11) (.var 1)) .nil)))))
  .nil)))))
def c_mended (u_check_rows u_branches_of u_shrunk u_MOST_STANDS u_machine_by : Nat) : Cs :=
  (.cons (.expr (.call u_check_rows (.cons (.var 0) (.cons (.var 1) .nil))))
  (.cons (.unp (.tp [2, 3]) (.attr "Machine" "parts" (.var 0)))
  (.cons (.asg 4 (.tup (.cons (.cst (.int 0)) (.cons (.tup .nil) .nil))))
  (.cons (.par [5, 6, 7, 8] (.cons (.d1 (.var 4) (.cst (.int 0))) (.cons (.lst (.cons (.var 4) .nil)) (.cons (.lst .nil) (.cons (.lst .nil) .nil)))))
  (.cons (.asg 9 (.call u_branches_of (.cons (.var 1) .nil)))
  (.cons (.whl 1000 c_mended_w1 c_mended_b2)
  (.cons (.unp (.tp [16, 17]) (.call u_shrunk (.cons (.blt .tuple (.cons (.var 7) .nil)) (.cons (.var 8) .nil))))
  (.cons (.ife (.cmp .gt (.blt .len (.cons (.var 16) .nil)) (.glo u_MOST_STANDS)) (.cons .stuck
  .nil) .nil)
  (.cons (.ret (.call u_machine_by (.cons (.var 16) (.cons (.var 17) .nil))))
  .nil)))))))))
def N_unlike_rows : List PySem.Str := (["one", "other", "many", "found", "length", "counts", "k"] : List PySem.Str)
def c_unlike_rows_w1 : Ce :=
  (.cmp .lt (.blt .len (.cons (.var 3) .nil)) (.var 2))
def c_unlike_rows_e1 (u_row_by u_BEGIN : Nat) : Ce :=
  (.call u_row_by (.cons (.var 0) (.cons (.var 1) (.cons (.glo u_BEGIN) (.cons (.var 4) (.cons (.var 6) (.cons (.var 5) .nil)))))))
def c_unlike_rows_b1 (u_BEGIN u_row_by u_grown : Nat) : Cs :=
  (.cons (.aug false 3 (.lc0 (c_unlike_rows_e1 u_row_by u_BEGIN) (.nm 6) (.rg1 (.ix (.ix (.var 5) (.var 4)) (.glo u_BEGIN))) [6]))
  (.cons (.aug false 4 (.cst (.int 1)))
  (.cons (.asg 5 (.call u_grown (.cons (.var 0) (.cons (.var 1) (.cons (.var 5) .nil)))))
  .nil)))
def c_unlike_rows (u_count_unlike u_MOST_LISTED u_by_length u_BEGIN u_row_by u_grown : Nat) : Cs :=
  (.cons (.asg 2 (.call u_count_unlike (.cons (.var 0) (.cons (.var 1) .nil))))
  (.cons (.ife (.cmp .is (.var 2) (.cst .non)) (.cons (.ret (.cst .non))
  .nil) .nil)
  (.cons (.ife (.cmp .gt (.var 2) (.glo u_MOST_LISTED)) (.cons .stuck
  .nil) .nil)
  (.cons (.par [3, 4, 5] (.cons (.lst .nil) (.cons (.cst (.int 0)) (.cons (.call u_by_length (.cons (.var 0) (.cons (.var 1) (.cons (.glo u_BEGIN) (.cons (.cst (.int 0)) .nil))))) .nil))))
  (.cons (.whl 1000 c_unlike_rows_w1 (c_unlike_rows_b1 u_BEGIN u_row_by u_grown))
  (.cons (.ret (.var 3))
  .nil))))))
def N_least_wrong : List PySem.Str := (["machine"] : List PySem.Str)
def c_least_wrong (u_built : Nat) : Cs :=
  (.cons (.ret (.ix (.call u_built (.cons (.var 0) .nil)) (.cst (.int 0))))
  .nil)
def N_best_lean : List PySem.Str := (["machine", "wrong", "steps", "marks", "stand", "mark"] : List PySem.Str)
def c_best_lean_e1 : Ce :=
  (.var 4)
def c_best_lean_t1 : Ce :=
  (.var 5)
def c_best_lean (u_built u_Machine : Nat) : Cs :=
  (.cons (.unp (.tp [1, 2, 3]) (.call u_built (.cons (.var 0) .nil)))
  (.cons (.ret (.call u_Machine (.cons (.var 2) (.cons (.blt .tuple (.cons (.lc1 c_best_lean_e1 (.tp [4, 5]) (.enum (.var 3)) c_best_lean_t1 [4, 5]) .nil)) .nil))))
  .nil))
def N_check_machines : List PySem.Str := (["thing", "index", "machine"] : List PySem.Str)
def c_check_machines_b1 : Cs :=
  (.cons (.ife (.not (.isi (.own "Machine") (.var 2))) (.cons .stuck
  .nil) .nil)
  .nil)
def c_check_machines_e1 : Ce :=
  (.cmp .ne (.blt .len (.cons (.ix (.ix (.attr "Machine" "parts" (.var 2)) (.cst (.int 0))) (.cst (.int 0))) .nil)) (.blt .len (.cons (.ix (.ix (.attr "Machine" "parts" (.ix (.var 0) (.cst (.int 0)))) (.cst (.int 0))) (.cst (.int 0))) .nil)))
def c_check_machines (u_MOST_MACHINES : Nat) : Cs :=
  (.cons (.ife (.bop false (.cons (.not (.isiT "list" "tuple" (.var 0))) (.cons (.not (.chain .le .le (.cst (.int 1)) (.blt .len (.cons (.var 0) .nil)) (.glo u_MOST_MACHINES))) .nil))) (.cons .stuck
  .nil) .nil)
  (.cons (.for_ (.tp [1, 2]) (.enum (.var 0)) c_check_machines_b1)
  (.cons (.ife (.blt .any (.cons (.lc0 c_check_machines_e1 (.nm 2) (.seq (.var 0)) [2]) .nil)) (.cons .stuck
  .nil) .nil)
  .nil)))
end BF
set_option Elab.async false
set_option linter.all false
set_option autoImplicit false
set_option maxRecDepth 100000
set_option maxHeartbeats 1000000
namespace BF
open PySem PySem.Spec PyProof.Rows L2
theorem size_ge {n : Nat} (h : n ≤ 1000) : n ≤ sizeLine := by rw [sizeLine_eq]; omega
section
variable {G : Type} {K : Env1} {Γ : Gam G}
def IsInt (m : Mir G) : Prop := ∀ i lo hi g, m [.int i, .int lo, .int hi] g = .ok (.bl (decide (lo ≤ i) && decide (i ≤ hi))) g
theorem s_is_integer : IsInt (runF N_is_integer.length (ex K Γ c_is_integer)) := by
  intro i lo hi g
  unfold c_is_integer N_is_integer
  by_cases h : lo ≤ i <;> simp [h]
theorem mem_enumL : ∀ {ds : List D} {c : Int} {d : D}, d ∈ enumL c ds → ∃ i e, e ∈ ds ∧ d = .tup [.int i, e]
  | [], c, d, h => by cases h
  | x :: xs, c, d, h => by
    rcases List.mem_cons.mp (show d ∈ .tup [.int c, x] :: enumL (c + 1) xs from h) with rfl | h
    · exact ⟨c, x, List.mem_cons_self, rfl⟩
    · obtain ⟨i, e, h1, h2⟩ := mem_enumL h
      exact ⟨i, e, List.mem_cons_of_mem _ h1, h2⟩
theorem bls_true (n : Nat) : blsOf (List.replicate n (D.bl true)) = some (List.replicate n true) := by
  have := blsOf_map (List.replicate n true)
  simpa using this
theorem map_const {α : Type} (xs : List α) (d : D) : xs.map (fun _ => d) = List.replicate xs.length d := by
  induction xs with
  | nil => rfl
  | cons x xs ih => simp [ih, List.replicate_succ]
theorem eqB_int (a b : Int) : eqB (.int a) (.int b) = some (decide (a = b)) := rfl
theorem set_back {α : Type} : ∀ {l : List (Option α)} {i : Nat} {x : Option α}, l[i]? = some none → (l.set i x).set i none = l
  | [], i, x, h => by cases h
  | a :: l, 0, x, h => by cases h; rfl
  | a :: l, i + 1, x, h => by
    show a :: (l.set i x).set i none = a :: l
    rw [set_back (l := l) h]
theorem lcL_mapN (f : D → D) {fe : Sg G → Rs G Ov} {i : Nat} {s0 : Sg G} (hs : s0.sl[i]? = some none) (ds : List D) (h : ∀ d ∈ ds, fe (setS s0 i (some (false, d))) = .ok (.vl (f d)) (setS s0 i (some (false, d)))) : lcL (.nm i) (evC (.bl true)) fe [i] ds s0 = .ok (ds.map f) s0 := by
  refine lcL_map _ _ fun d hd => ⟨setS s0 i (some (false, d)), .vl (f d), setS s0 i (some (false, d)), setS s0 i (some (false, d)), ?_, h d hd, rfl, ?_⟩
  · show (if i < s0.sl.length then _ else _) = _
    rw [if_pos (lt_of_get hs)]
  · show (⟨(s0.sl.set i (some (false, d))).set i none, s0.g⟩ : Sg G) = s0
    rw [set_back hs]
theorem s_check_steps {u0 u1 u3 : Nat} {x0 x1 x3 : Str} {m : Mir G} (h0 : Γ[u0]? = some (x0, .cst (.int 8))) (h1 : Γ[u1]? = some (x1, .cst (.int 3))) (h3 : Γ[u3]? = some (x3, .fn 3 m)) (hm : IsInt m) {s : List (List Nat)} {L : Nat} (S : StOk s L) (g : G) :
    runF N_check_steps.length (ex K Γ (c_check_steps u0 u1 u3)) [stepsD s] g = .ok .non g := by
  have a1 : (1 : Int) ≤ (s.length : Int) := by have := S.n1; omega
  have a2 : (s.length : Int) ≤ 8 := by have := S.n8; omega
  refine Exists.elim (forL_ind (t := .tp [1, 2]) (body := ex K Γ (c_check_steps_b1 u1 u3)) (fun ds st => (∀ d ∈ ds, ∃ i r, r ∈ s ∧ d = .tup [.int i, rowD r]) ∧ ∃ x y, st = ⟨[some (false, stepsD s), x, y, none], g⟩) (fun d ds st I => ?_) (enumL 0 (s.map rowD)) ⟨[some (false, stepsD s), none, none, none], g⟩ ⟨fun d hd => ?_, none, none, rfl⟩) fun s' ⟨e, i⟩ => ?_
  rotate_left
  · obtain ⟨i, e, h1, h2⟩ := mem_enumL hd
    obtain ⟨r, hr, rfl⟩ := List.mem_map.mp h1
    exact ⟨i, r, hr, h2⟩
  · obtain ⟨_, x, y, rfl⟩ := i
    unfold c_check_steps N_check_steps
    unfold stepsD at e ⊢
    simp [h0, a1, a2, e]
  · obtain ⟨I, x, y, rfl⟩ := I
    obtain ⟨j, r, hr, rfl⟩ := I _ List.mem_cons_self
    refine ⟨_, ⟨[some (false, stepsD s), some (false, .int j), some (false, rowD r), none], g⟩, rfl, ?_, fun d hd => I d (List.mem_cons_of_mem _ hd), _, _, rfl⟩
    have b1 : (1 : Int) ≤ (L : Int) := by have := S.l1; omega
    have b2 : (L : Int) ≤ 3 := by have := S.l3; omega
    have b3 : L2.atI (s.map rowD) 0 = some (rowD s[0]) := atI_map (j := 0) (by have := S.n1; omega)
    have b4 : s[0].length = L := S.len _ (List.getElem_mem _)
    have b5 := S.len r hr
    have b6 : L ≤ sizeLine := size_ge (by have := S.l3; omega)
    have b7 : lcL (.nm 3) (evC (.bl true)) (ev K Γ (c_check_steps_e1 u3)) [3] (r.map nat) ⟨[some (false, stepsD s), some (false, .int j), some (false, rowD r), none], g⟩ = .ok ((r.map nat).map fun _ => .bl true) ⟨[some (false, stepsD s), some (false, .int j), some (false, rowD r), none], g⟩ := by
      refine lcL_mapN _ rfl _ fun d hd => ?_
      obtain ⟨n, hn, rfl⟩ := List.mem_map.mp hd
      have := S.lt r hr n hn
      have c1 : (n : Int) ≤ (s.length : Int) - 1 := by omega
      unfold c_check_steps_e1 stepsD nat
      simp [h3, hm _ _ _ _, c1]
    rw [map_const, List.length_map] at b7
    unfold c_check_steps_b1
    unfold stepsD rowD at *
    simp [h1, b1, b2, b3, b4, b5, neO, eqB_int, b6, b7, allO, bls_true]
end
end BF
set_option Elab.async false
set_option linter.all false
set_option autoImplicit false
set_option maxRecDepth 100000
set_option maxHeartbeats 1000000
namespace BF
open PySem PySem.Spec PyProof.Rows L2
@[simp] theorem nat_eq (n : Nat) : nat n = .int n := rfl
@[simp] theorem rowD_eq (r : List Nat) : rowD r = .tup (r.map nat) := rfl
@[simp] theorem stepsD_eq (s : List (List Nat)) : stepsD s = .tup (s.map rowD) := rfl
@[simp] theorem partsD_eq (s : List (List Nat)) (good : List Nat) : partsD s good = .tup [stepsD s, rowD good] := rfl
@[simp] theorem machD_eq (s : List (List Nat)) (good : List Nat) : machD s good = .obj "Machine" [("parts", partsD s good)] := rfl
@[simp] theorem atI_0 {α : Type} {x : α} {xs : List α} : L2.atI (x :: xs) 0 = some x := atI_nat (j := 0) rfl
@[simp] theorem atI_1 {α : Type} {x y : α} {xs : List α} : L2.atI (x :: y :: xs) 1 = some y := atI_nat (j := 1) rfl
@[simp] theorem atI_2 {α : Type} {x y z : α} {xs : List α} : L2.atI (x :: y :: z :: xs) 2 = some z := atI_nat (j := 2) rfl
theorem StOk.at0 {s : List (List Nat)} {L : Nat} (S : StOk s L) : ∃ r0 : List Nat, r0.length = L ∧ L2.atI (s.map rowD) 0 = some (.tup (r0.map nat)) := ⟨s[0]'S.n1, S.len _ (List.getElem_mem _), atI_map (j := 0) S.n1⟩
/-- where a row leads -/
def runS (s : List (List Nat)) : Nat → List Nat → Nat
  | h, [] => h
  | h, c :: r => runS s ((s.getD h []).getD c 0) r
theorem StOk.step {s : List (List Nat)} {L h c : Nat} (S : StOk s L) (hh : h < s.length) (hc : c < L) : (s.getD h []).getD c 0 < s.length ∧ L2.atI (s.map rowD) (h : Int) = some (rowD (s.getD h [])) ∧ L2.atI ((s.getD h []).map nat) (c : Int) = some (nat ((s.getD h []).getD c 0)) := by
  have e1 : s.getD h [] = s[h] := by rw [List.getD_eq_getElem?_getD, List.getElem?_eq_getElem hh]; rfl
  have m1 : s[h] ∈ s := List.getElem_mem hh
  have hl : c < s[h].length := by rw [S.len _ m1]; exact hc
  have e2 : s[h].getD c 0 = s[h][c] := by rw [List.getD_eq_getElem?_getD, List.getElem?_eq_getElem hl]; rfl
  rw [e1, e2]
  exact ⟨S.lt _ m1 _ (List.getElem_mem hl), atI_map hh, atI_map hl⟩
theorem runS_lt {s : List (List Nat)} {L : Nat} (S : StOk s L) : ∀ (r : List Nat) (h : Nat), h < s.length → (∀ c ∈ r, c < L) → runS s h r < s.length
  | [], h, hh, _ => hh
  | c :: r, h, hh, hr => runS_lt S r _ (S.step hh (hr c List.mem_cons_self)).1 fun c hc => hr c (List.mem_cons_of_mem _ hc)
section
variable {G : Type} {K : Env1} {Γ : Gam G}
theorem s_check_good {u : Nat} {x : Str} {m : Mir G} (h3 : Γ[u]? = some (x, .fn 3 m)) (hm : IsInt m) {n : Nat} {good : List Nat} (S : GdOk n good) (g : G) : runF N_check_good.length (ex K Γ (c_check_good u)) [rowD good, .int n] g = .ok .non g := by
  refine Exists.elim (forL_ind (t := .nm 3) (body := ex K Γ (c_check_good_b1 u)) (fun ds st => ∃ (rest : List Nat) (last : Int) (y : Option (Bool × D)), ds = rest.map nat ∧ (∀ x ∈ rest, last < (x : Int)) ∧ GdOk n rest ∧ st = ⟨[some (false, rowD good), some (false, .int n), some (false, .int last), y], g⟩) (fun d ds st I => ?_) (good.map nat) ⟨[some (false, rowD good), some (false, .int n), some (false, .int (-1)), none], g⟩ ⟨good, -1, none, rfl, fun x _ => by omega, S, rfl⟩) fun s' ⟨e, i⟩ => ?_
  · obtain ⟨rest, last, y, e, h1, h2, rfl⟩ := I
    cases rest with
    | nil => cases e
    | cons c rest =>
      cases e
      have a1 := h1 c List.mem_cons_self
      have a2 := h2.lt c List.mem_cons_self
      have p := List.pairwise_cons.mp h2.inc
      refine ⟨_, ⟨[some (false, rowD good), some (false, .int n), some (false, .int c), some (false, .int c)], g⟩, rfl, ?_, rest, c, _, rfl, fun x hx => by have := p.1 x hx; omega, ⟨p.2, fun x hx => h2.lt x (List.mem_cons_of_mem _ hx)⟩, rfl⟩
      unfold c_check_good_b1
      have b1 : last + 1 ≤ (c : Int) := by omega
      have b2 : (c : Int) ≤ (n : Int) - 1 := by omega
      simp [h3, hm _ _ _ _, b1, b2]
  · obtain ⟨rest, last, y, _, _, _, rfl⟩ := i
    unfold c_check_good N_check_good
    simp at e
    simp [e]
theorem s_Machine {u1 u2 : Nat} {x1 x2 : Str} {m1 m2 : Mir G} (h1 : Γ[u1]? = some (x1, .fn 1 m1)) (h2 : Γ[u2]? = some (x2, .fn 2 m2)) {s : List (List Nat)} {good : List Nat} {g : G} (k1 : m1 [stepsD s] g = .ok .non g) (k2 : m2 [rowD good, .int s.length] g = .ok .non g) :
    runI K Γ N_Machine_init.length (cp_Machine_init u1 u2) ce_Machine_init [stepsD s, rowD good] g = .ok (partsD s good) g := by
  unfold runI cp_Machine_init ce_Machine_init N_Machine_init
  simp at k1 k2
  simp [runIp, h1, h2, k1, k2]
theorem s_check_row {u1 u2 : Nat} {x1 x2 : Str} {m : Mir G} (h1 : Γ[u1]? = some (x1, .cst (.int 40))) (h2 : Γ[u2]? = some (x2, .fn 3 m)) (hm : IsInt m) {s : List (List Nat)} {L : Nat} {good row : List Nat} (S : StOk s L) (hr : ∀ c ∈ row, c < L) (hl : row.length ≤ 40) (g : G) :
    runF N_check_row.length (ex K Γ (c_check_row u1 u2)) [machD s good, rowD row] g = .ok .non g := by
  refine Exists.elim (forL_ind (t := .tp [2, 3]) (body := ex K Γ (c_check_row_b1 u2)) (fun ds st => (∀ d ∈ ds, ∃ (i : Int) (c : Nat), c < L ∧ d = .tup [.int i, nat c]) ∧ ∃ x y, st = ⟨[some (false, machD s good), some (false, rowD row), x, y], g⟩) (fun d ds st I => ?_) (enumL 0 (row.map nat)) ⟨[some (false, machD s good), some (false, rowD row), none, none], g⟩ ⟨fun d hd => ?_, none, none, rfl⟩) fun s' ⟨e, i⟩ => ?_
  · obtain ⟨I, x, y, rfl⟩ := I
    obtain ⟨j, c, hc, rfl⟩ := I _ List.mem_cons_self
    refine ⟨_, ⟨[some (false, machD s good), some (false, rowD row), some (false, .int j), some (false, nat c)], g⟩, rfl, ?_, fun d hd => I d (List.mem_cons_of_mem _ hd), _, _, rfl⟩
    obtain ⟨r0, b4, b3⟩ := S.at0
    have b6 : (c : Int) ≤ (L : Int) - 1 := by omega
    unfold c_check_row_b1
    simp [b3, b4, h2, hm _ _ _ _, b6]
  · obtain ⟨i, e, k1, k2⟩ := mem_enumL hd
    obtain ⟨c, hc, rfl⟩ := List.mem_map.mp k1
    exact ⟨i, c, hr c hc, k2⟩
  · obtain ⟨_, x, y, rfl⟩ := i
    have b1 : ¬ ((40 : Int) < (row.length : Int)) := by omega
    unfold c_check_row N_check_row
    simp at e
    simp [h1, b1, e]
theorem s_stand_behind {u : Nat} {x : Str} {m : Mir G} (h1 : Γ[u]? = some (x, .fn 2 m)) {s : List (List Nat)} {L : Nat} {good row : List Nat} (S : StOk s L) (hr : ∀ c ∈ row, c < L) (g : G) (hm : m [machD s good, rowD row] g = .ok .non g) :
    runF N_stand_behind.length (ex K Γ (c_stand_behind u)) [machD s good, rowD row] g = .ok (nat (runS s 0 row)) g := by
  refine Exists.elim (forL_ind (t := .nm 3) (body := ex K Γ c_stand_behind_b1) (fun ds st => ∃ (rest : List Nat) (h : Nat) (y : Option (Bool × D)), ds = rest.map nat ∧ h < s.length ∧ (∀ c ∈ rest, c < L) ∧ runS s h rest = runS s 0 row ∧ st = ⟨[some (false, machD s good), some (false, rowD row), some (false, nat h), y], g⟩) (fun d ds st I => ?_) (row.map nat) ⟨[some (false, machD s good), some (false, rowD row), some (false, nat 0), none], g⟩ ⟨row, 0, none, rfl, S.n1, hr, rfl, rfl⟩) fun s' ⟨e, i⟩ => ?_
  · obtain ⟨rest, h, y, e, k1, k2, k3, rfl⟩ := I
    cases rest with
    | nil => cases e
    | cons c rest =>
      cases e
      obtain ⟨p1, p2, p3⟩ := S.step k1 (k2 c List.mem_cons_self)
      refine ⟨_, ⟨[some (false, machD s good), some (false, rowD row), some (false, nat ((s.getD h []).getD c 0)), some (false, nat c)], g⟩, rfl, ?_, rest, _, _, rfl, p1, fun c hc => k2 c (List.mem_cons_of_mem _ hc), k3, rfl⟩
      unfold c_stand_behind_b1
      simp at p3 p2
      simp [p2, p3]
  · obtain ⟨rest, h, y, k0, k1, _, k3, rfl⟩ := i
    have : rest = [] := by cases rest with | nil => rfl | cons c r => cases k0
    subst this
    have k3 : h = runS s 0 row := k3
    unfold c_stand_behind N_stand_behind
    simp at e hm
    simp [h1, hm, e, k3]
end
end BF
set_option Elab.async false
set_option linter.all false
set_option autoImplicit false
set_option maxRecDepth 100000
set_option maxHeartbeats 1000000
namespace BF
open PySem PySem.Spec PyProof.Rows L2
@[simp] theorem plain_non (n : Nat) : plain n .non = true := by cases n <;> rfl
@[simp] theorem plain_bl (n : Nat) (b : Bool) : plain n (.bl b) = true := by cases n <;> rfl
@[simp] theorem plain_int (n : Nat) (i : Int) : plain n (.int i) = true := by cases n <;> rfl
@[simp] theorem plain_tup (n : Nat) (xs : List D) : plain (n + 1) (.tup xs) = xs.all (plain n) := rfl
@[simp] theorem plain_lst (n : Nat) (xs : List D) : plain (n + 1) (.lst xs) = xs.all (plain n) := rfl
theorem plain_nats (n : Nat) (r : List Nat) : (r.map nat).all (plain n) = true := by
  rw [List.all_eq_true]
  intro d hd
  obtain ⟨c, _, rfl⟩ := List.mem_map.mp hd
  simp
@[simp] theorem eqD_int (a b : Int) : eqD (.int a) (.int b) = decide (a = b) := by
  unfold eqD
  simp [toPy, PyData.eqv]
  by_cases h : a = b <;> simp [h]
@[simp] theorem eqD_bl (a b : Bool) : eqD (.bl a) (.bl b) = (a == b) := by
  unfold eqD
  simp [toPy, PyData.eqv]
@[simp] theorem eqD_non : eqD .non .non = true := by
  unfold eqD
  simp [toPy, PyData.eqv]
@[simp] theorem eqD_nil : eqD (.lst []) (.lst []) = true := by
  unfold eqD
  simp [toPy, toPys, PyData.eqv, PyData.eqvAll]
theorem any_nat (r : List Nat) (x : Nat) : ((r.map nat).any fun z => eqD z (.int x)) = decide (x ∈ r) := by
  induction r with
  | nil => rfl
  | cons c r ih =>
    rw [List.map_cons, List.any_cons, ih]
    simp
    by_cases h : c = x
    · subst h; simp
    · have h' : ¬ x = c := fun z => h z.symm
      have h2 : ¬ ((c : Int) = (x : Int)) := by omega
      simp [h, h', h2]
section
variable {G : Type} {K : Env1} {Γ : Gam G}
theorem s_lets {u : Nat} {x : Str} {m : Mir G} (h1 : Γ[u]? = some (x, .fn 2 m)) {s : List (List Nat)} {good row : List Nat} {e : Nat} (g : G) (hm : m [machD s good, rowD row] g = .ok (nat e) g) :
    runF N_lets.length (ex K Γ (c_lets u)) [machD s good, rowD row] g = .ok (.bl (decide (e ∈ good))) g := by
  unfold c_lets N_lets
  simp at hm
  have p := plain_nats 59 good
  have q := any_nat good e
  simp [h1, hm, inO, inB, p, q]
/-- data that _law_alike takes, to a depth -/
def okA : Nat → D → Bool
  | 0, _ => false
  | _ + 1, .non => true
  | _ + 1, .bl _ => true
  | _ + 1, .int _ => true
  | _ + 1, .str _ => true
  | n + 1, .lst xs => decide (xs.length ≤ 1000) && xs.all (okA n)
  | n + 1, .tup xs => decide (xs.length ≤ 1000) && xs.all (okA n)
  | _ + 1, _ => false
theorem mem_ints {n : Nat} {d : D} (h : d ∈ intsD 0 n) : ∃ k : Nat, k < n ∧ d = .int k := by
  rw [intsD_nat] at h
  obtain ⟨k, hk, rfl⟩ := List.mem_map.mp h
  exact ⟨k, List.mem_range.mp hk, rfl⟩
@[simp] theorem ints_len (lo : Int) (n : Nat) : (intsD lo n).length = n := by simp [intsD]
theorem s_alike {x : Str} {u : Nat} (hu : Γ.length = u) : ∀ (n : Nat) (d : D), okA n d = true → ∀ g : G, recM K Γ x 2 N__law_alike.length (c__law_alike u) n [d, d] g = .ok (.bl true) g := by
  intro n
  induction n with
  | zero => intro d h; cases h
  | succ n ih =>
    intro d h g
    have hl : (Γ ++ [(x, Gd.fn 2 (recM K Γ x 2 N__law_alike.length (c__law_alike u) n))])[u]? = some (x, .fn 2 (recM K Γ x 2 N__law_alike.length (c__law_alike u) n)) := by
      rw [← hu, List.getElem?_append_right (Nat.le_refl _), Nat.sub_self]; rfl
    have key : ∀ (xs : List D) (q : D), (q = .lst xs ∨ q = .tup xs) → xs.length ≤ 1000 → xs.all (okA n) = true → lcL (.nm 2) (ev K (Γ ++ [(x, Gd.fn 2 (recM K Γ x 2 N__law_alike.length (c__law_alike u) n))]) (c__law_alike_t1 u)) (ev K (Γ ++ [(x, Gd.fn 2 (recM K Γ x 2 N__law_alike.length (c__law_alike u) n))]) c__law_alike_e1) [2] (intsD 0 xs.length) ⟨[some (false, q), some (false, q), none], g⟩ = .ok [] ⟨[some (false, q), some (false, q), none], g⟩ := by
      intro xs q hq hz ha
      refine lcL_none _ fun d hd => ?_
      obtain ⟨k, hk, rfl⟩ := mem_ints hd
      have e1 : L2.atI xs (k : Int) = some xs[k] := atI_nat (List.getElem?_eq_getElem hk)
      have e2 := ih xs[k] (List.all_eq_true.mp ha _ (List.getElem_mem hk)) g
      refine ⟨_, .vl (.bl false), ⟨[some (false, q), some (false, q), some (false, .int k)], g⟩, rfl, ?_, rfl, rfl⟩
      unfold c__law_alike_t1
      generalize recM K Γ x 2 N__law_alike.length (c__law_alike u) n = m at hl e2 ⊢
      rcases hq with rfl | rfl <;> simp [hl, e1, e2]
    unfold recM
    rw [show N__law_alike.length = 3 from rfl] at *
    generalize recM K Γ x 2 3 (c__law_alike u) n = m at key hl ⊢
    cases d with
    | non => unfold c__law_alike; simp [eqO, eqB]
    | bl b => unfold c__law_alike; simp [eqO, eqB]
    | int i => unfold c__law_alike; simp [eqO, eqB]
    | str z => unfold c__law_alike; simp [eqO, eqB]
    | lst xs =>
      obtain ⟨h1, h2⟩ := ba (show (decide (xs.length ≤ 1000) && xs.all (okA n)) = true from h)
      have h1 : xs.length ≤ 1000 := of_decide_eq_true h1
      have k := key xs (.lst xs) (.inl rfl) h1 h2
      have r1 : rgB (xs.length : Int) = true := rgB_small (by omega) (by omega)
      have r3 := size_ge h1
      unfold c__law_alike
      simp [eqO, neO, eqB, r1, r3, k]
    | tup xs =>
      obtain ⟨h1, h2⟩ := ba (show (decide (xs.length ≤ 1000) && xs.all (okA n)) = true from h)
      have h1 : xs.length ≤ 1000 := of_decide_eq_true h1
      have k := key xs (.tup xs) (.inr rfl) h1 h2
      have r1 : rgB (xs.length : Int) = true := rgB_small (by omega) (by omega)
      have r3 := size_ge h1
      unfold c__law_alike
      simp [eqO, neO, eqB, r1, r3, k]
    | dct kvs => cases h
    | obj c f => cases h
    | ref a => cases h
    | ty n => cases h
end
end BF
set_option Elab.async false
set_option linter.all false
set_option autoImplicit false
set_option maxRecDepth 100000
set_option maxHeartbeats 1000000
namespace BF
open PySem PySem.Spec PyProof.Rows L2
/-- what is known of a draw -/
def Nx (m : Mir Dr) (a0 : Addr) : Prop := ∀ (cap : Int) (g : Dr), 0 < cap → cap < 1073741824 → ∃ (v : Nat) (g' : Dr), m [.ref a0, .int cap] g = .ok (.int v) g' ∧ (v : Int) < cap
theorem nx_next (a0 : Addr) : Nx (mNext a0) a0 := fun cap g h1 h2 => next_eq h1 h2
def Pk (m : Mir Dr) (a0 : Addr) : Prop := ∀ (ds : List D) (g : Dr), ds ≠ [] → ds.length ≤ 1000 → ∃ d ∈ ds, ∃ g', m [.ref a0, .lst ds] g = .ok d g'
theorem all2_nats {n : Nat} {as bs : List D} (h : All2 (fun _ r => ∃ v : Nat, v < n ∧ r = nat v) as bs) : ∃ row : List Nat, bs = row.map nat ∧ row.length = as.length ∧ ∀ x ∈ row, x < n := by
  induction h with
  | nil => exact ⟨[], rfl, rfl, fun _ h => by cases h⟩
  | cons r _ ih =>
    obtain ⟨v, hv, rfl⟩ := r
    obtain ⟨row, h1, h2, h3⟩ := ih
    refine ⟨v :: row, by simp [h1], by simp [h2], fun x hx => ?_⟩
    rcases List.mem_cons.mp hx with rfl | hx
    · exact hv
    · exact h3 x hx
theorem seq_nx {G : Type} {K : Env1} {Γ : Gam G} {s r : Cs} {st st1 : Sg G} (h : ex K Γ s st = .nx st1) : ex K Γ (.cons s r) st = ex K Γ r st1 := by
  show exSeq (ex K Γ s) (ex K Γ r) st = _
  unfold exSeq
  rw [h]
section
variable {K : Env1} {Γ : Gam Dr} {a0 : Addr}
theorem s_pick {u : Nat} {x : Str} {m : Mir Dr} (h : Γ[u]? = some (x, .fn 2 m)) (hm : Nx m a0) : Pk (runF N__law_pick.length (ex K Γ (c__law_pick u))) a0 := by
  intro ds g hd hl
  have h0 : 0 < ds.length := List.length_pos_iff.mpr hd
  obtain ⟨v, g', e1, e2⟩ := hm ds.length g (by omega) (by omega)
  have hv : v < ds.length := by omega
  refine ⟨ds[v], List.getElem_mem hv, g', ?_⟩
  have e3 : L2.atI ds (v : Int) = some ds[v] := atI_nat (List.getElem?_eq_getElem hv)
  unfold c__law_pick N__law_pick
  simp [h, e1, e3]
theorem s_end {s : List (List Nat)} {L : Nat} {good row : List Nat} {h0 : Nat} (S : StOk s L) (hh : h0 < s.length) (hr : ∀ c ∈ row, c < L) (g : Dr) :
    runF N__law_end.length (ex K Γ c__law_end) [partsD s good, nat h0, rowD row] g = .ok (nat (runS s h0 row)) g := by
  refine Exists.elim (forL_ind (t := .nm 3) (body := ex K Γ c__law_end_b1) (fun ds st => ∃ (rest : List Nat) (h : Nat) (y : Option (Bool × D)), ds = rest.map nat ∧ h < s.length ∧ (∀ c ∈ rest, c < L) ∧ runS s h rest = runS s h0 row ∧ st = ⟨[some (false, partsD s good), some (false, nat h), some (false, rowD row), y], g⟩) (fun d ds st I => ?_) (row.map nat) ⟨[some (false, partsD s good), some (false, nat h0), some (false, rowD row), none], g⟩ ⟨row, h0, none, rfl, hh, hr, rfl, rfl⟩) fun s' ⟨e, i⟩ => ?_
  · obtain ⟨rest, h, y, e, k1, k2, k3, rfl⟩ := I
    cases rest with
    | nil => cases e
    | cons c rest =>
      cases e
      obtain ⟨p1, p2, p3⟩ := S.step k1 (k2 c List.mem_cons_self)
      refine ⟨_, ⟨[some (false, partsD s good), some (false, nat ((s.getD h []).getD c 0)), some (false, rowD row), some (false, nat c)], g⟩, rfl, ?_, rest, _, _, rfl, p1, fun c hc => k2 c (List.mem_cons_of_mem _ hc), k3, rfl⟩
      unfold c__law_end_b1
      simp at p3 p2
      simp [p2, p3]
  · obtain ⟨rest, h, y, k0, k1, _, k3, rfl⟩ := i
    have : rest = [] := by cases rest with | nil => rfl | cons c r => cases k0
    subst this
    have k3 : h = runS s h0 row := k3
    unfold c__law_end N__law_end
    simp at e
    simp [e, k3]
/-- rows of draws -/
theorem lc_draws {fe : Sg Dr → Rs Dr Ov} {i : Nat} {sl : List (Option (Bool × D))} {n : Nat} (hs : sl[i]? = some none) (h : ∀ d g, ∃ (v : Nat) (g' : Dr), fe ⟨sl.set i (some (false, d)), g⟩ = .ok (.vl (nat v)) ⟨sl.set i (some (false, d)), g'⟩ ∧ v < n) (L : Nat) (g : Dr) :
    ∃ (row : List Nat) (g' : Dr), lcL (.nm i) (evC (.bl true)) fe [i] (intsD 0 L) ⟨sl, g⟩ = .ok (row.map nat) ⟨sl, g'⟩ ∧ row.length = L ∧ ∀ x ∈ row, x < n := by
  obtain ⟨rs, s', h1, h2, h3⟩ := lcL_all (t := .nm i) (fe := fe) (own := [i]) (fun s => s.sl = sl) (fun _ r => ∃ v : Nat, v < n ∧ r = nat v) (intsD 0 L) ⟨sl, g⟩ (fun d hd s e => by
    obtain ⟨sl', g1⟩ := s
    have e' : sl = sl' := e.symm
    subst e'
    obtain ⟨v, g', k1, k2⟩ := h d g1
    refine ⟨⟨sl.set i (some (false, d)), g1⟩, .vl (nat v), ⟨sl.set i (some (false, d)), g'⟩, nat v, _, ?_, k1, rfl, ?_, v, k2, rfl⟩
    · show (if i < sl.length then _ else _) = _
      rw [if_pos (lt_of_get hs)]
      rfl
    · show (sl.set i (some (false, d))).set i none = sl
      rw [set_back hs]) rfl
  obtain ⟨row, e1, e2, e3⟩ := all2_nats h3
  obtain ⟨sl', g'⟩ := s'
  have e' : sl = sl' := h2.symm
  subst e'
  exact ⟨row, g', by rw [h1, e1], by rw [e2]; simp, e3⟩
theorem s_parts {u1 u2 : Nat} {x1 x2 : Str} {m1 m2 : Mir Dr} (h1 : Γ[u1]? = some (x1, .fn 2 m1)) (hn : Nx m1 a0) (h2 : Γ[u2]? = some (x2, .fn 2 m2)) (hp : Pk m2 a0) {L : Nat} (l1 : 1 ≤ L) (l3 : L ≤ 3) (g : Dr) :
    ∃ s good g', runF N__law_parts.length (ex K Γ (c__law_parts u1 u2)) [.ref a0, .int L] g = .ok (partsD s good) g' ∧ StOk s L ∧ GdOk s.length good := by
  obtain ⟨d, hd, g1, e1⟩ := hp [.int 3, .int 8] g (by simp) (by simp)
  obtain ⟨c, rfl, hc⟩ : ∃ c : Nat, d = .int c ∧ (c = 3 ∨ c = 8) := by
    simp only [List.mem_cons, List.not_mem_nil, or_false] at hd
    rcases hd with rfl | rfl
    · exact ⟨3, rfl, .inl rfl⟩
    · exact ⟨8, rfl, .inr rfl⟩
  obtain ⟨v, g2, e2, hv⟩ := hn c g1 (by omega) (by omega)
  obtain ⟨w, g3, e3, hw⟩ := hn 5 g2 (by omega) (by omega)
  obtain ⟨n, en⟩ : ∃ n : Nat, n = 1 + v := ⟨_, rfl⟩
  have en' : (1 : Int) + (v : Int) = (n : Int) := by omega
  have n8 : n ≤ 8 := by omega
  have n1 : 1 ≤ n := by omega
  let st0 (steps good : D) (x y : Option (Bool × D)) (g : Dr) : Sg Dr := ⟨[some (false, .ref a0), some (false, .int L), some (false, .int n), some (false, .int w), some (true, steps), some (true, good), x, y, none], g⟩
  have turn : ∀ (k : Nat) (s : List (List Nat)) (good : List Nat) (x y : Option (Bool × D)) (g : Dr), k < n → s.length = k → good.length ≤ k → ∃ (row good' : List Nat) (y' : Option (Bool × D)) (g' : Dr), ex K Γ (c__law_parts_b1 u2 u1) (st0 (.lst (s.map rowD)) (.lst (good.map nat)) (some (false, .int k)) y g) = .nx (st0 (.lst ((s ++ [row]).map rowD)) (.lst (good'.map nat)) (some (false, .int k)) y' g') ∧ row.length = L ∧ (∀ x ∈ row, x < n) ∧ (good' = good ∨ good' = good ++ [k]) := by
    intro k s good x y g hk hs hgl
    obtain ⟨low, gl, el, hl⟩ : ∃ (low : Nat) (gl : Dr), ex K Γ (.asg 7 (.ife (.bop true (.cons (.cmp .lt (.var 6) (.var 3)) (.cons (.cmp .lt (.bin .add (.var 6) (.cst (.int 1))) (.var 2)) .nil))) (.bin .add (.var 6) (.cst (.int 1))) (.call u2 (.cons (.var 0) (.cons (.lst (.cons (.cst (.int 0)) (.cons (.blt .min2 (.cons (.var 3) (.cons (.bin .sub (.var 2) (.cst (.int 1))) .nil))) .nil))) .nil))))) (st0 (.lst (s.map rowD)) (.lst (good.map nat)) (some (false, .int k)) y g) = .nx (st0 (.lst (s.map rowD)) (.lst (good.map nat)) (some (false, .int k)) (some (false, .int low)) gl) ∧ low < n := by
      by_cases c1 : (k : Int) < (w : Int) ∧ (k : Int) + 1 < (n : Int)
      · refine ⟨k + 1, g, ?_, by omega⟩
        simp [st0, c1.1, c1.2]
      · obtain ⟨d, hd, gl, el⟩ := hp [.int 0, .int (if (n : Int) - 1 < (w : Int) then (n : Int) - 1 else w)] g (by simp) (by simp)
        obtain ⟨low, rfl, hl⟩ : ∃ low : Nat, d = .int low ∧ low < n := by
          simp only [List.mem_cons, List.not_mem_nil, or_false] at hd
          rcases hd with rfl | rfl
          · exact ⟨0, rfl, by omega⟩
          · split
            · exact ⟨n - 1, by congr 1; omega, by omega⟩
            · exact ⟨w, rfl, by omega⟩
        refine ⟨low, gl, ?_, hl⟩
        by_cases c2 : (k : Int) < (w : Int)
        · have c3 : ¬ ((k : Int) + 1 < (n : Int)) := fun z => c1 ⟨c2, z⟩
          simp [st0, c2, c3, h2, el]
        · simp [st0, c2, h2, el]
    obtain ⟨row, gr, er, rl, rn⟩ := lc_draws (n := n) (fe := ev K Γ (c__law_parts_e1 u1)) (i := 8) (sl := [some (false, .ref a0), some (false, .int L), some (false, .int n), some (false, .int w), some (true, .lst (s.map rowD)), some (true, .lst (good.map nat)), some (false, .int k), some (false, .int low), none]) rfl (fun d g => by
      obtain ⟨v, g', k1, k2⟩ := hn ((n : Int) - low) g (by omega) (by omega)
      refine ⟨low + v, g', ?_, by omega⟩
      unfold c__law_parts_e1
      simp [h1, k1]) L gl
    obtain ⟨b, gb, eb, hb⟩ := hn 2 gr (by omega) (by omega)
    have r1 : rgB (L : Int) = true := rgB_small (by omega) (by omega)
    have r2 : L ≤ sizeLine := size_ge (by omega)
    have r3 : k < sizeLine := by have := size_ge (n := 1000) (by omega); omega
    have r4 : good.length < sizeLine := by have := size_ge (n := 1000) (by omega); omega
    refine ⟨row, if b = 0 then good ++ [k] else good, some (false, .int low), gb, ?_, rl, rn, by split <;> simp⟩
    unfold c__law_parts_b1
    refine (seq_nx el).trans ?_
    refine (seq_nx (st1 := st0 (.lst ((s ++ [row]).map rowD)) (.lst (good.map nat)) (some (false, .int k)) (some (false, .int low)) gr) ?_).trans ?_
    · simp [st0, r1, r2, er, hs, r3]
    · by_cases c : b = 0
      · subst c
        simp [st0, h1, eb, eqO, eqB, r4]
      · have c' : ¬ ((b : Int) = 0) := by omega
        simp [st0, h1, eb, eqO, eqB, c, c']
  refine Exists.elim (forL_ind (t := .nm 6) (body := ex K Γ (c__law_parts_b1 u2 u1)) (fun ds st => ∃ (k : Nat) (s : List (List Nat)) (good : List Nat) (x y : Option (Bool × D)) (g : Dr), ds = (List.range' k (n - k)).map nat ∧ k ≤ n ∧ s.length = k ∧ good.length ≤ k ∧ (∀ r ∈ s, r.length = L) ∧ (∀ r ∈ s, ∀ x ∈ r, x < n) ∧ GdOk k good ∧ st = st0 (.lst (s.map rowD)) (.lst (good.map nat)) x y g) (fun d ds st I => ?_) (intsD 0 n) (st0 (.lst []) (.lst []) none none g3) ⟨0, [], [], none, none, g3, by rw [intsD_nat, List.range_eq_range']; rfl, by omega, rfl, Nat.le_refl _, fun _ h => (by cases h), fun _ h => (by cases h), ⟨.nil, fun _ h => (by cases h)⟩, rfl⟩) fun s' ⟨e, i⟩ => ?_
  · obtain ⟨k, s, good, x, y, g, e, i1, i2, i3, i4, i5, i6, rfl⟩ := I
    cases q : n - k with
    | zero => rw [q] at e; cases e
    | succ m =>
      rw [q, List.range'_succ] at e
      cases e
      obtain ⟨row, good', y', g', t1, t2, t3, t4⟩ := turn k s good x y g (by omega) i2 i3
      refine ⟨st0 (.lst (s.map rowD)) (.lst (good.map nat)) (some (false, .int k)) y g, _, rfl, t1, k + 1, s ++ [row], good', _, _, g', by rw [show n - (k + 1) = m by omega], by omega, by simp [i2], ?_, fun r hr => ?_, fun r hr => ?_, ?_, rfl⟩
      · rcases t4 with rfl | rfl
        · omega
        · simp; omega
      · rcases List.mem_append.mp hr with h | h
        · exact i4 r h
        · cases List.mem_singleton.mp h; exact t2
      · rcases List.mem_append.mp hr with h | h
        · exact i5 r h
        · cases List.mem_singleton.mp h; exact t3
      · rcases t4 with rfl | rfl
        · exact ⟨i6.inc, fun x hx => by have := i6.lt x hx; omega⟩
        · refine ⟨List.pairwise_append.mpr ⟨i6.inc, List.pairwise_singleton _ _, fun a ha b hb => ?_⟩, fun x hx => ?_⟩
          · cases List.mem_singleton.mp hb; exact i6.lt a ha
          · rcases List.mem_append.mp hx with h | h
            · have := i6.lt x h; omega
            · cases List.mem_singleton.mp h; omega
  · obtain ⟨k, s, good, x, y, g', k0, i1, i2, i3, i4, i5, i6, rfl⟩ := i
    have kn : n - k = 0 := by
      cases q : n - k with
      | zero => rfl
      | succ m => rw [q, List.range'_succ] at k0; cases k0
    have kn : k = n := by omega
    subst kn
    refine ⟨s, good, g', ?_, ⟨by omega, by omega, l1, l3, i4, by rw [i2]; exact i5⟩, by rw [i2]; exact i6⟩
    have r1 : rgB (k : Int) = true := rgB_small (by omega) (by omega)
    unfold c__law_parts N__law_parts
    simp [st0] at e
    simp [h1, h2, e1, e2, e3, en', r1, e]
end
end BF
set_option linter.all false
set_option autoImplicit false
/-! counts of walks in a finite graph: plain mathematics -/
namespace Gr
section
variable {α : Type} (go : α → List α)
/-- the sum of f over the ends of all walks of n steps -/
def cf : Nat → (α → Nat) → α → Nat
  | 0, f, p => f p
  | n + 1, f, p => ((go p).map (cf n f)).sum
theorem cf_succ' (n : Nat) (f : α → Nat) : ∀ p, cf go (n + 1) f p = cf go n (fun q => ((go q).map f).sum) p := by
  induction n with
  | zero => intro p; rfl
  | succ n ih =>
    intro p
    show ((go p).map (cf go (n + 1) f)).sum = ((go p).map (cf go n _)).sum
    congr 1
    exact List.map_congr_left fun q _ => ih q
theorem sum_pos {l : List Nat} : 0 < l.sum ↔ ∃ x ∈ l, 0 < x := by
  induction l with
  | nil => simp
  | cons a l ih =>
    rw [List.sum_cons]
    constructor
    · intro h
      by_cases c : 0 < a
      · exact ⟨a, List.mem_cons_self, c⟩
      · obtain ⟨x, h1, h2⟩ := ih.mp (by omega)
        exact ⟨x, List.mem_cons_of_mem _ h1, h2⟩
    · rintro ⟨x, h1, h2⟩
      rcases List.mem_cons.mp h1 with rfl | h1
      · omega
      · have := ih.mpr ⟨x, h1, h2⟩; omega
/-- a walk: p, then the places of the list -/
def Wk : α → List α → Prop
  | _, [] => True
  | p, q :: r => q ∈ go p ∧ Wk q r
theorem Wk.append {p : α} {a b : List α} : Wk go p (a ++ b) ↔ Wk go p a ∧ Wk go ((a.getLast?).getD p) b := by
  induction a generalizing p with
  | nil => simp [Wk]
  | cons q r ih =>
    simp only [List.cons_append, Wk, ih, and_assoc]
    refine and_congr_right fun _ => and_congr_right fun _ => ?_
    cases r with
    | nil => simp
    | cons x r =>
      rw [List.getLast?_cons_cons]
      cases h : (x :: r).getLast? with
      | none => simp at h
      | some y => rfl
/-- q is come to from p -/
def Rc (p q : α) : Prop := ∃ w, Wk go p w ∧ (w.getLast?).getD p = q
theorem Rc.refl (p : α) : Rc go p p := ⟨[], trivial, rfl⟩
theorem Rc.step {p q r : α} (h : Rc go p q) (hr : r ∈ go q) : Rc go p r := by
  obtain ⟨w, h1, h2⟩ := h
  refine ⟨w ++ [r], (Wk.append go).mpr ⟨h1, ?_⟩, by simp⟩
  rw [h2]
  exact ⟨hr, trivial⟩
theorem Rc.head {p q r : α} (hq : q ∈ go p) (h : Rc go q r) : Rc go p r := by
  obtain ⟨w, h1, h2⟩ := h
  refine ⟨q :: w, ⟨hq, h1⟩, ?_⟩
  rw [← h2]
  cases w with
  | nil => rfl
  | cons x w => rw [List.getLast?_cons_cons]; cases h : (x :: w).getLast? with
    | none => simp at h
    | some y => rfl
theorem Rc.trans {p q r : α} (h : Rc go p q) (h' : Rc go q r) : Rc go p r := by
  obtain ⟨w, h1, h2⟩ := h
  obtain ⟨v, h3, h4⟩ := h'
  refine ⟨w ++ v, (Wk.append go).mpr ⟨h1, by rw [h2]; exact h3⟩, ?_⟩
  rw [← h4, ← h2]
  cases v with
  | nil => simp
  | cons x v =>
    cases h : (x :: v).getLast? with
    | none => simp at h
    | some y => simp [List.getLast?_append, h]
theorem cf_pos {n : Nat} {f : α → Nat} : ∀ {p : α}, 0 < cf go n f p ↔ ∃ w, w.length = n ∧ Wk go p w ∧ 0 < f ((w.getLast?).getD p) := by
  induction n with
  | zero =>
    intro p
    constructor
    · intro h; exact ⟨[], rfl, trivial, h⟩
    · rintro ⟨w, h1, _, h3⟩
      have : w = [] := List.length_eq_zero_iff.mp h1
      subst this
      exact h3
  | succ n ih =>
    intro p
    show 0 < ((go p).map (cf go n f)).sum ↔ _
    rw [sum_pos]
    constructor
    · rintro ⟨x, h1, h2⟩
      obtain ⟨q, hq, rfl⟩ := List.mem_map.mp h1
      obtain ⟨w, e1, e2, e3⟩ := ih.mp h2
      refine ⟨q :: w, by simp [e1], ⟨hq, e2⟩, ?_⟩
      cases w with
      | nil => exact e3
      | cons x w =>
        rw [List.getLast?_cons_cons]
        cases h : (x :: w).getLast? with
        | none => simp at h
        | some y => rw [h] at e3; exact e3
    · rintro ⟨w, e1, e2, e3⟩
      cases w with
      | nil => cases e1
      | cons q w =>
        refine ⟨_, List.mem_map.mpr ⟨q, e2.1, rfl⟩, ih.mpr ⟨w, by simpa using e1, e2.2, ?_⟩⟩
        cases w with
        | nil => exact e3
        | cons x w =>
          rw [List.getLast?_cons_cons] at e3
          cases h : (x :: w).getLast? with
          | none => simp at h
          | some y => rw [h] at e3; exact e3
theorem cf_pos_of_rc {p q : α} {n : Nat} {f : α → Nat} (h : Rc go p q) (hq : 0 < cf go n f q) : ∃ m, n ≤ m ∧ 0 < cf go m f p := by
  obtain ⟨w, h1, h2⟩ := h
  obtain ⟨v, e1, e2, e3⟩ := (cf_pos go).mp hq
  refine ⟨(w ++ v).length, by simp [e1], (cf_pos go).mpr ⟨w ++ v, rfl, (Wk.append go).mpr ⟨h1, by rw [h2]; exact e2⟩, ?_⟩⟩
  cases v with
  | nil => simp only [List.append_nil, h2]; exact e3
  | cons x v =>
    cases h : (x :: v).getLast? with
    | none => simp at h
    | some y => rw [h] at e3; simp [List.getLast?_append, h]; exact e3
end
/-! ### pigeons -/
theorem nodup_le {α : Type} [DecidableEq α] : ∀ {l m : List α}, l.Nodup → (∀ x ∈ l, x ∈ m) → l.length ≤ m.length
  | [], m, _, _ => Nat.zero_le _
  | a :: l, m, h, hs => by
    rw [List.nodup_cons] at h
    have ha : a ∈ m := hs a List.mem_cons_self
    have := nodup_le (l := l) (m := m.erase a) h.2 fun x hx => by
      refine (List.mem_erase_of_ne ?_).mpr (hs x (List.mem_cons_of_mem _ hx))
      intro e; exact h.1 (e ▸ hx)
    rw [List.length_erase_of_mem ha] at this
    have hp : 0 < m.length := List.length_pos_of_mem ha
    simp only [List.length_cons]
    omega
theorem nodup_eq {α : Type} [DecidableEq α] {l m : List α} (h : l.Nodup) (hm : m.Nodup) (hs : ∀ x ∈ l, x ∈ m) (hl : m.length ≤ l.length) : ∀ x ∈ m, x ∈ l := by
  intro x hx
  apply Classical.byContradiction
  intro hn
  have := nodup_le (l := x :: l) (m := m) (List.nodup_cons.mpr ⟨hn, h⟩) fun y hy => by
    rcases List.mem_cons.mp hy with rfl | hy
    · exact hx
    · exact hs y hy
  simp only [List.length_cons] at this
  omega
/-- in a list with a double: two places -/
theorem double {α : Type} [DecidableEq α] : ∀ {l : List α}, ¬ l.Nodup → ∃ a x b c, l = a ++ x :: b ++ x :: c
  | [], h => (h List.nodup_nil).elim
  | y :: l, h => by
    by_cases hy : y ∈ l
    · obtain ⟨b, c, e⟩ := List.append_of_mem hy
      exact ⟨[], y, b, c, by simp [e]⟩
    · have : ¬ l.Nodup := fun z => h (List.nodup_cons.mpr ⟨hy, z⟩)
      obtain ⟨a, x, b, c, e⟩ := double this
      exact ⟨y :: a, x, b, c, by simp [e]⟩
section
variable {α : Type} [DecidableEq α] (go : α → List α) (f : α → Nat)
/-- a long walk goes round: shorter ones of the same end, by at most m steps -/
theorem shorter {p : α} {R : List α} (hR : ∀ q, Rc go p q → q ∈ R) {n : Nat} (hn : R.length ≤ n) (h : 0 < cf go n f p) : ∃ c, 0 < c ∧ c ≤ R.length ∧ c ≤ n ∧ 0 < cf go (n - c) f p ∧ ∀ k, 0 < cf go (n + k * c) f p := by
  obtain ⟨w, e1, e2, e3⟩ := (cf_pos go).mp h
  -- the first places of the walk, p first
  have hin : ∀ (a : List α), Wk go p a → (a.getLast?).getD p ∈ R := fun a ha => hR _ ⟨a, ha, rfl⟩
  have pre : ∀ k, Wk go p (w.take k) := fun k => by
    have := (Wk.append go (p := p) (a := w.take k) (b := w.drop k)).mp (by rw [List.take_append_drop]; exact e2)
    exact this.1
  have all : ∀ x ∈ p :: w, x ∈ R := by
    intro x hx
    rcases List.mem_cons.mp hx with rfl | hx
    · exact hR _ (Rc.refl go _)
    · obtain ⟨i, hi, e⟩ := List.mem_iff_getElem.mp hx
      have := hin (w.take (i + 1)) (pre (i + 1))
      rw [List.getLast?_take] at this
      simp [hi, e] at this
      exact this
  have nd : ¬ ((p :: w).take (R.length + 1)).Nodup := fun z => by
    have := nodup_le z fun x hx => all x (List.mem_of_mem_take hx)
    rw [List.length_take] at this
    simp only [List.length_cons] at this
    omega
  obtain ⟨a, x, b, c, e⟩ := double nd
  have hlen : (a ++ x :: b ++ x :: c).length = R.length + 1 := by
    rw [← e, List.length_take]; simp only [List.length_cons]; omega
  have ew : p :: w = a ++ x :: b ++ x :: c ++ (p :: w).drop (R.length + 1) := by rw [← e, List.take_append_drop]
  simp only [List.length_append, List.length_cons] at hlen
  generalize hd : (p :: w).drop (R.length + 1) = d at ew
  -- w = u ++ v ++ t, u to x, v round to x
  obtain ⟨u, v, t, hw, hu, hv, hvl⟩ : ∃ u v t, w = u ++ v ++ t ∧ (u.getLast?).getD p = x ∧ (v.getLast?).getD x = x ∧ v.length = b.length + 1 := by
    cases a with
    | nil =>
      simp only [List.nil_append, List.cons_append, List.cons.injEq] at ew
      obtain ⟨rfl, ew⟩ := ew
      exact ⟨[], b ++ [p], c ++ d, by rw [ew]; simp, rfl, by simp, by simp⟩
    | cons a0 a =>
      simp only [List.cons_append, List.cons.injEq] at ew
      obtain ⟨rfl, ew⟩ := ew
      exact ⟨a ++ [x], b ++ [x], c ++ d, by rw [ew]; simp, by simp, by simp, by simp⟩
  rw [hw] at e2
  obtain ⟨w1, w3⟩ := (Wk.append go).mp e2
  obtain ⟨w1, w2⟩ := (Wk.append go).mp w1
  have luv : ((u ++ v).getLast?).getD p = x := by
    cases v with
    | nil => simp at hvl
    | cons y v =>
      cases h : (y :: v).getLast? with
      | none => simp at h
      | some z => rw [h] at hv; simp [List.getLast?_append, h]; exact hv
  rw [luv] at w3
  rw [hu] at w2
  have last : ∀ a : List α, (a.getLast?).getD p = x → ((a ++ t).getLast?).getD p = (w.getLast?).getD p := fun a ha => by
    rw [hw]
    cases t with
    | nil => simp only [List.append_nil, ha, luv]
    | cons y t =>
      cases h : (y :: t).getLast? with
      | none => simp at h
      | some z => simp [List.getLast?_append, h]
  have wl : w.length = u.length + v.length + t.length := by rw [hw]; simp [Nat.add_assoc]
  refine ⟨b.length + 1, by omega, by omega, by omega, (cf_pos go).mpr ⟨u ++ t, by simp; omega, (Wk.append go).mpr ⟨w1, by rw [hu]; exact w3⟩, by rw [last u hu]; exact e3⟩, fun k => ?_⟩
  -- any number of rounds more
  have rounds : ∀ k, ∃ a : List α, a.length = u.length + (k + 1) * (b.length + 1) ∧ Wk go p a ∧ (a.getLast?).getD p = x := by
    intro k
    induction k with
    | zero => exact ⟨u ++ v, by simp [hvl], (Wk.append go).mpr ⟨w1, by rw [hu]; exact w2⟩, luv⟩
    | succ k ih =>
      obtain ⟨a, a1, a2, a3⟩ := ih
      refine ⟨a ++ v, ?_, (Wk.append go).mpr ⟨a2, by rw [a3]; exact w2⟩, ?_⟩
      · rw [List.length_append, a1, hvl, Nat.succ_mul (k + 1)]; omega
      · cases v with
        | nil => simp at hvl
        | cons y v =>
          cases h : (y :: v).getLast? with
          | none => simp at h
          | some z => rw [h] at hv; simp [List.getLast?_append, h]; exact hv
  obtain ⟨a, a1, a2, a3⟩ := rounds k
  refine (cf_pos go).mpr ⟨a ++ t, ?_, (Wk.append go).mpr ⟨a2, by rw [a3]; exact w3⟩, by rw [last a a3]; exact e3⟩
  rw [List.length_append, a1, Nat.succ_mul]; omega
/-- endlessly many -/
def Inf (p : α) : Prop := ∀ N, ∃ n, N ≤ n ∧ 0 < cf go n f p
theorem inf_of_long {p : α} {R : List α} (hR : ∀ q, Rc go p q → q ∈ R) {n : Nat} (hn : R.length ≤ n) (h : 0 < cf go n f p) : Inf go f p := by
  obtain ⟨c, c0, _, _, _, hk⟩ := shorter go f hR hn h
  intro N
  refine ⟨n + N * c, ?_, hk N⟩
  have : N * 1 ≤ N * c := Nat.mul_le_mul_left N c0
  omega
theorem long_of_inf {p : α} {R : List α} (hR : ∀ q, Rc go p q → q ∈ R) (h : Inf go f p) : ∃ n, R.length ≤ n ∧ n < 2 * R.length ∧ 0 < cf go n f p := by
  have key : ∀ n, R.length ≤ n → 0 < cf go n f p → ∃ n, R.length ≤ n ∧ n < 2 * R.length ∧ 0 < cf go n f p := by
    intro n
    induction n using Nat.strongRecOn with
    | _ n ih =>
      intro h1 h2
      by_cases c : n < 2 * R.length
      · exact ⟨n, h1, c, h2⟩
      · obtain ⟨d, d0, d1, d2, d3, _⟩ := shorter go f hR h1 h2
        exact ih (n - d) (by omega) (by omega) d3
  obtain ⟨n, h1, h2⟩ := h R.length
  exact key n h1 h2
/-- the sum for fewer than N steps -/
def tot (N : Nat) (p : α) : Nat := ((List.range N).map fun n => cf go n f p).sum
theorem tot_succ (N : Nat) (p : α) : tot go f (N + 1) p = tot go f N p + cf go N f p := by
  unfold tot
  rw [List.range_succ, List.map_append, List.sum_append]
  simp
theorem tot_ge {N M : Nat} {p : α} (h : ∀ n, N ≤ n → cf go n f p = 0) (hm : N ≤ M) : tot go f M p = tot go f N p := by
  induction M with
  | zero => have : N = 0 := by omega
            rw [this]
  | succ M ih =>
    by_cases c : N ≤ M
    · rw [tot_succ, ih c, h M c, Nat.add_zero]
    · have : N = M + 1 := by omega
      rw [this]
/-- few: how many, the longest's length, -1 without -/
def Cn (p : α) (t : Nat) (m : Int) : Prop := (∃ N, (∀ n, N ≤ n → cf go n f p = 0) ∧ t = tot go f N p) ∧ (∀ n, 0 < cf go n f p → (n : Int) ≤ m) ∧ (m = -1 ∨ ∃ k : Nat, m = k ∧ 0 < cf go k f p)
theorem Cn.not_inf {p : α} {t : Nat} {m : Int} (h : Cn go f p t m) : ¬ Inf go f p := fun z => by
  obtain ⟨⟨N, h1, _⟩, _⟩ := h
  obtain ⟨n, h2, h3⟩ := z N
  rw [h1 n h2] at h3
  omega
theorem Cn.unique {p : α} {t t' : Nat} {m m' : Int} (h : Cn go f p t m) (h' : Cn go f p t' m') : t = t' ∧ m = m' := by
  obtain ⟨⟨N, h1, h2⟩, h3, h4⟩ := h
  obtain ⟨⟨N', h1', h2'⟩, h3', h4'⟩ := h'
  refine ⟨?_, ?_⟩
  · rw [h2, h2']
    rcases Nat.le_total N N' with c | c
    · exact (tot_ge go f h1 c).symm
    · exact tot_ge go f h1' c
  · rcases h4 with rfl | ⟨k, rfl, hk⟩
    · rcases h4' with rfl | ⟨k', rfl, hk'⟩
      · rfl
      · have := h3 _ hk'; omega
    · rcases h4' with rfl | ⟨k', rfl, hk'⟩
      · have := h3' _ hk; omega
      · have a := h3 _ hk'
        have b := h3' _ hk
        omega
/-- the answer of a question how many -/
def Ans (p : α) : Option (Nat × Int) → Prop
  | none => Inf go f p
  | some (t, m) => Cn go f p t m
theorem Ans.unique {p : α} : ∀ {r r' : Option (Nat × Int)}, Ans go f p r → Ans go f p r' → r = r'
  | none, none, _, _ => rfl
  | none, some (t, m), h, h' => (Cn.not_inf go f h' h).elim
  | some (t, m), none, h, h' => (Cn.not_inf go f h h').elim
  | some (t, m), some (t', m'), h, h' => by
    obtain ⟨e1, e2⟩ := Cn.unique go f h h'
    rw [e1, e2]
theorem sum_filter {l : List α} {g : α → Nat} {u : α → Bool} (h : ∀ q ∈ l, u q = false → g q = 0) : (l.map g).sum = ((l.filter u).map g).sum := by
  induction l with
  | nil => rfl
  | cons a l ih =>
    have ih := ih fun q hq => h q (List.mem_cons_of_mem _ hq)
    rw [List.map_cons, List.sum_cons, ih, List.filter_cons]
    by_cases c : u a = true
    · rw [if_pos c]; rfl
    · rw [if_neg c, h a List.mem_cons_self (by simpa using c)]; simp
theorem sum_add {l : List α} {g k : α → Nat} : (l.map fun q => g q + k q).sum = (l.map g).sum + (l.map k).sum := by
  induction l with
  | nil => rfl
  | cons a l ih => simp only [List.map_cons, List.sum_cons, ih]; omega
theorem bound {l : List α} {t : α → Nat} {m : α → Int} (h : ∀ q ∈ l, Cn go f q (t q) (m q)) : ∃ N, ∀ q ∈ l, (∀ n, N ≤ n → cf go n f q = 0) ∧ t q = tot go f N q := by
  induction l with
  | nil => exact ⟨0, fun q hq => by cases hq⟩
  | cons a l ih =>
    obtain ⟨N, hN⟩ := ih fun q hq => h q (List.mem_cons_of_mem _ hq)
    obtain ⟨⟨M, h1, h2⟩, _⟩ := h a List.mem_cons_self
    refine ⟨N + M, fun q hq => ?_⟩
    rcases List.mem_cons.mp hq with rfl | hq
    · exact ⟨fun n hn => h1 n (by omega), by rw [h2]; exact (tot_ge go f h1 (by omega)).symm⟩
    · obtain ⟨k1, k2⟩ := hN q hq
      exact ⟨fun n hn => k1 n (by omega), by rw [k2]; exact (tot_ge go f k1 (by omega)).symm⟩
/-- from the places ahead -/
theorem Cn.step {p : α} {u : α → Bool} {t : α → Nat} {m : α → Int} {M : Int} (h1 : f p ≤ 1) (hz : ∀ q ∈ go p, u q = false → ∀ n, cf go n f q = 0) (hu : ∀ q ∈ go p, u q = true → ∃ n, 0 < cf go n f q) (h : ∀ q ∈ (go p).filter u, Cn go f q (t q) (m q))
    (hM : M ∈ ((f p : Int) - 1) :: (((go p).filter u).map fun q => m q + 1)) (hle : ∀ x ∈ ((f p : Int) - 1) :: (((go p).filter u).map fun q => m q + 1), x ≤ M) : Cn go f p (f p + (((go p).filter u).map t).sum) M := by
  have cs : ∀ n, cf go (n + 1) f p = (((go p).filter u).map (cf go n f)).sum := fun n => sum_filter fun q hq hf => hz q hq hf n
  obtain ⟨N, hN⟩ := bound go f h
  have ts : ∀ n, tot go f (n + 1) p = f p + (((go p).filter u).map (tot go f n)).sum := by
    intro n
    induction n with
    | zero =>
      have z : ∀ l : List α, (l.map (tot go f 0)).sum = 0 := by
        intro l
        induction l with
        | nil => rfl
        | cons a l ih => rw [List.map_cons, List.sum_cons, ih]; rfl
      rw [z, tot_succ]
      show 0 + f p = f p + 0
      omega
    | succ n ih =>
      rw [tot_succ, ih, cs n]
      have e : (((go p).filter u).map (tot go f (n + 1))) = ((go p).filter u).map fun q => tot go f n q + cf go n f q := List.map_congr_left fun q _ => tot_succ go f n q
      rw [e, sum_add]
      omega
  refine ⟨⟨N + 1, fun n hn => ?_, ?_⟩, fun n hn => ?_, ?_⟩
  · cases n with
    | zero => omega
    | succ n =>
      rw [cs n]
      apply Nat.eq_zero_of_not_pos
      intro hp
      obtain ⟨x, hx, h0⟩ := sum_pos.mp hp
      obtain ⟨q, hq, rfl⟩ := List.mem_map.mp hx
      rw [(hN q hq).1 n (by omega)] at h0
      omega
  · rw [ts N]
    congr 2
    exact List.map_congr_left fun q hq => (hN q hq).2
  · cases n with
    | zero =>
      have := hle _ List.mem_cons_self
      have h0 : 0 < f p := hn
      omega
    | succ n =>
      rw [cs n] at hn
      obtain ⟨x, hx, h0⟩ := sum_pos.mp hn
      obtain ⟨q, hq, rfl⟩ := List.mem_map.mp hx
      have a := (h q hq).2.1 n h0
      have b := hle _ (List.mem_cons_of_mem _ (List.mem_map.mpr ⟨q, hq, rfl⟩))
      omega
  · rcases List.mem_cons.mp hM with e | e
    · by_cases c : f p = 0
      · left; omega
      · right; exact ⟨0, by omega, show 0 < f p by omega⟩
    · obtain ⟨q, hq, rfl⟩ := List.mem_map.mp e
      right
      obtain ⟨hq1, hq2⟩ := List.mem_filter.mp hq
      obtain ⟨n, hn⟩ := hu q hq1 hq2
      obtain ⟨_, c1, c2⟩ := h q hq
      have := c1 n hn
      rcases c2 with c2 | ⟨k, c2, c3⟩
      · omega
      · refine ⟨k + 1, by omega, ?_⟩
        rw [cs k]
        exact sum_pos.mpr ⟨_, List.mem_map.mpr ⟨q, hq, rfl⟩, c3⟩
theorem cn_zero {p : α} (h : ∀ n, cf go n f p = 0) : Cn go f p 0 (-1) := ⟨⟨0, fun n _ => h n, rfl⟩, fun n hn => by rw [h n] at hn; omega, .inl rfl⟩
/-- places from which one can go on for ever, and from each of which some walk counts -/
theorem inf_of_set {S : α → Prop} (h1 : ∀ p, S p → ∃ q ∈ go p, S q) (h2 : ∀ p, S p → ∃ n, 0 < cf go n f p) : ∀ p, S p → Inf go f p := by
  have key : ∀ N p, S p → ∃ n, N ≤ n ∧ 0 < cf go n f p := by
    intro N
    induction N with
    | zero => intro p hp; obtain ⟨n, hn⟩ := h2 p hp; exact ⟨n, Nat.zero_le _, hn⟩
    | succ N ih =>
      intro p hp
      obtain ⟨q, hq, hs⟩ := h1 p hp
      obtain ⟨n, n1, n2⟩ := ih q hs
      exact ⟨n + 1, by omega, sum_pos.mpr ⟨_, List.mem_map.mpr ⟨q, hq, rfl⟩, n2⟩⟩
  exact fun p hp N => key N p hp
theorem inf_of_rc {p q : α} (h : Rc go p q) (hq : Inf go f q) : Inf go f p := fun N => by
  obtain ⟨n, n1, n2⟩ := hq N
  obtain ⟨m, m1, m2⟩ := cf_pos_of_rc go h n2
  exact ⟨m, by omega, m2⟩
/-- by the counts of lengths below twice the number of places -/
theorem ans_of_lengths {p : α} {R : List α} (hR : ∀ q, Rc go p q → q ∈ R) {m : Int} (hm : m ∈ (-1 : Int) :: ((List.range R.length).filter fun k => decide (0 < cf go k f p)).map fun (k : Nat) => (k : Int))
    (hle : ∀ x ∈ (-1 : Int) :: ((List.range R.length).filter fun k => decide (0 < cf go k f p)).map (fun (k : Nat) => (k : Int)), x ≤ m) :
    Ans go f p (if 0 < (((List.range (2 * R.length)).map fun n => cf go n f p).drop R.length).sum then none else some (tot go f (2 * R.length) p, m)) := by
  have hmem : ∀ n, R.length ≤ n → n < 2 * R.length → cf go n f p ∈ (((List.range (2 * R.length)).map fun n => cf go n f p).drop R.length) := fun n h1 h2 => by
    rw [List.mem_iff_getElem?]
    refine ⟨n - R.length, ?_⟩
    rw [List.getElem?_drop, List.getElem?_map, show R.length + (n - R.length) = n by omega, List.getElem?_range h2]
    rfl
  split
  · rename_i h
    obtain ⟨x, hx, h0⟩ := sum_pos.mp h
    obtain ⟨i, hi⟩ := List.mem_iff_getElem?.mp hx
    rw [List.getElem?_drop, List.getElem?_map] at hi
    cases e : (List.range (2 * R.length))[R.length + i]? with
    | none => rw [e] at hi; cases hi
    | some n =>
      rw [e] at hi
      cases hi
      have : n = R.length + i := by
        obtain ⟨_, e2⟩ := List.getElem?_eq_some_iff.mp e
        simpa using e2.symm
      exact inf_of_long go f hR (n := n) (by omega) h0
  · rename_i h
    have ni : ¬ Inf go f p := fun z => by
      obtain ⟨n, n1, n2, n3⟩ := long_of_inf go f hR z
      exact h (sum_pos.mpr ⟨_, hmem n n1 n2, n3⟩)
    have z : ∀ n, R.length ≤ n → cf go n f p = 0 := fun n hn => by
      apply Nat.eq_zero_of_not_pos
      intro hp
      exact ni (inf_of_long go f hR hn hp)
    refine ⟨⟨2 * R.length, fun n hn => z n (by omega), rfl⟩, fun n hn => ?_, ?_⟩
    · have hl : n < R.length := by
        rcases Nat.lt_or_ge n R.length with c | c
        · exact c
        · rw [z n c] at hn; omega
      exact hle _ (List.mem_cons_of_mem _ (List.mem_map.mpr ⟨n, List.mem_filter.mpr ⟨List.mem_range.mpr hl, decide_eq_true hn⟩, rfl⟩))
    · rcases List.mem_cons.mp hm with e | e
      · exact .inl e
      · obtain ⟨k, hk, rfl⟩ := List.mem_map.mp e
        exact .inr ⟨k, rfl, of_decide_eq_true (List.mem_filter.mp hk).2⟩
end
end Gr
set_option Elab.async false
set_option linter.all false
set_option autoImplicit false
set_option maxRecDepth 100000
set_option maxHeartbeats 1000000
namespace BF
open PySem PySem.Spec PyProof.Rows L2
/-! ## while -/
theorem whL_ind {G : Type} {c : Sg G → Rs G Ov} {body : Sg G → Ro G} (I J : Sg G → Prop) (μ : Sg G → Nat) (h : ∀ s, I s → ∃ x s1, c s = .ok x s1 ∧ ((tst s1 x = some false ∧ J s1) ∨ (tst s1 x = some true ∧ ∃ s2, body s1 = .nx s2 ∧ I s2 ∧ μ s2 < μ s))) : ∀ n s, μ s < n → I s → ∃ s', whL c body n s = .nx s' ∧ J s' := by
  intro n
  induction n with
  | zero => intro s hs; omega
  | succ n ih =>
    intro s hs i
    obtain ⟨x, s1, h1, h2⟩ := h s i
    unfold whL exE
    rw [h1]
    rcases h2 with ⟨h2, h3⟩ | ⟨h2, s2, h3, h4, h5⟩
    · refine ⟨s1, ?_, h3⟩
      simp only []
      rw [h2]
    · obtain ⟨s', h6, h7⟩ := ih s2 (by omega) h4
      refine ⟨s', ?_, h7⟩
      simp only []
      rw [h2]
      simp only []
      rw [h3]
      exact h6
/-! ## pairs -/
abbrev Pr := Nat × Nat
def pD (p : Pr) : D := .tup [.int p.1, .int p.2]
theorem pD_eq (p : Pr) : pD p = .tup [.int p.1, .int p.2] := rfl
theorem key_pD (p q : Pr) : NestedKey.beq (nk (pD p)) (nk (pD q)) = decide (p = q) := by
  obtain ⟨a, b⟩ := p
  obtain ⟨c, d⟩ := q
  simp only [pD, nk, nks, NestedKey.beq, NestedKey.beqAll, Bool.and_true]
  by_cases h1 : a = c <;> by_cases h2 : b = d <;> simp [h1, h2]
  · intro z; omega
  · intro z; omega
  · intro z; omega
@[simp] theorem tupK_pD (p : Pr) : tupK (pD p) = true := rfl
theorem pD_inj {p q : Pr} (h : pD p = pD q) : p = q := by
  have := key_pD p q
  rw [h, NestedKey.beq_self] at this
  exact of_decide_eq_true this.symm
section
variable {β : Type}
def lk : List (Pr × β) → Pr → Option β
  | [], _ => none
  | (a, v) :: r, p => if a = p then some v else lk r p
def pt : List (Pr × β) → Pr → β → List (Pr × β)
  | [], p, v => [(p, v)]
  | (a, x) :: r, p, v => if a = p then (a, v) :: r else (a, x) :: pt r p v
theorem lk_some {l : List (Pr × β)} {p : Pr} {v : β} (h : lk l p = some v) : (p, v) ∈ l := by
  induction l with
  | nil => cases h
  | cons a l ih =>
    obtain ⟨a, x⟩ := a
    unfold lk at h
    by_cases c : a = p
    · rw [if_pos c] at h; cases h; rw [c]; exact List.mem_cons_self
    · rw [if_neg c] at h; exact List.mem_cons_of_mem _ (ih h)
theorem lk_isSome {l : List (Pr × β)} {p : Pr} : (lk l p).isSome = decide (p ∈ l.map (·.1)) := by
  induction l with
  | nil => rfl
  | cons a l ih =>
    obtain ⟨a, x⟩ := a
    unfold lk
    by_cases c : a = p
    · subst c; simp
    · rw [if_neg c, ih]
      have c' : ¬ p = a := fun z => c z.symm
      simp [c']
theorem lk_pt (l : List (Pr × β)) (p q : Pr) (v : β) : lk (pt l p v) q = if q = p then some v else lk l q := by
  induction l with
  | nil =>
    unfold pt lk
    by_cases c : q = p
    · subst c; simp
    · have c' : ¬ p = q := fun z => c z.symm
      simp [c, c', lk]
  | cons a l ih =>
    obtain ⟨a, x⟩ := a
    unfold pt
    by_cases c : a = p
    · rw [if_pos c]
      subst c
      unfold lk
      by_cases d : a = q
      · subst d; simp
      · have d' : ¬ q = a := fun z => d z.symm
        simp [d, d']
    · rw [if_neg c]
      unfold lk
      rw [ih]
      by_cases d : a = q
      · subst d; simp [c]
      · simp [d]
theorem pt_keys (l : List (Pr × β)) (p : Pr) (v : β) : (pt l p v).map (·.1) = if p ∈ l.map (·.1) then l.map (·.1) else l.map (·.1) ++ [p] := by
  induction l with
  | nil => rfl
  | cons a l ih =>
    obtain ⟨a, x⟩ := a
    unfold pt
    by_cases c : a = p
    · subst c; simp
    · rw [if_neg c, List.map_cons, ih]
      have c' : ¬ p = a := fun z => c z.symm
      by_cases d : p ∈ l.map (·.1)
      · simp only [List.map_cons]
        rw [if_pos d, if_pos (List.mem_cons_of_mem _ d)]
      · simp only [List.map_cons]
        rw [if_neg d, if_neg (by simp only [List.mem_cons, not_or]; exact ⟨c', d⟩)]
        rfl
theorem pt_new {l : List (Pr × β)} {p : Pr} {v : β} (h : p ∉ l.map (·.1)) : pt l p v = l ++ [(p, v)] := by
  induction l with
  | nil => rfl
  | cons a l ih =>
    obtain ⟨a, x⟩ := a
    simp only [List.map_cons, List.mem_cons, not_or] at h
    unfold pt
    rw [if_neg (fun z => h.1 z.symm), ih h.2]
    rfl
theorem lk_mem {l : List (Pr × β)} {p : Pr} {v : β} (hn : (l.map (·.1)).Nodup) (h : (p, v) ∈ l) : lk l p = some v := by
  induction l with
  | nil => cases h
  | cons a l ih =>
    obtain ⟨a, x⟩ := a
    rw [List.map_cons, List.nodup_cons] at hn
    unfold lk
    rcases List.mem_cons.mp h with e | h
    · cases e; simp
    · rw [if_neg (fun z => hn.1 (by rw [z]; exact List.mem_map.mpr ⟨_, h, rfl⟩)), ih hn.2 h]
theorem pt_nodup {l : List (Pr × β)} {p : Pr} {v : β} (h : (l.map (·.1)).Nodup) : ((pt l p v).map (·.1)).Nodup := by
  rw [pt_keys]
  split
  · exact h
  · rename_i c
    rw [List.nodup_append]
    refine ⟨h, by simp, fun a ha b hb => ?_⟩
    rw [List.mem_singleton] at hb
    subst hb
    intro e
    exact c (e ▸ ha)
end
/-- a dict with pairs as keys -/
def dM {β : Type} (f : β → D) (l : List (Pr × β)) : D := .dct (l.map fun q => (pD q.1, f q.2))
theorem dM_keys {β : Type} (f : β → D) (l : List (Pr × β)) : (l.map fun q => (pD q.1, f q.2)).map (·.1) = (l.map (·.1)).map pD := by simp [Function.comp_def]
@[simp] theorem getK_pD {β : Type} (f : β → D) (l : List (Pr × β)) (p : Pr) : getK (l.map fun q => (pD q.1, f q.2)) (pD p) = (lk l p).map f := by
  induction l with
  | nil => rfl
  | cons a l ih =>
    obtain ⟨a, x⟩ := a
    rw [List.map_cons]
    unfold getK lk
    rw [key_pD, ih]
    by_cases c : a = p <;> simp [c]
@[simp] theorem putK_pD {β : Type} (f : β → D) (l : List (Pr × β)) (p : Pr) (v : β) : putK (l.map fun q => (pD q.1, f q.2)) (pD p) (f v) = (pt l p v).map fun q => (pD q.1, f q.2) := by
  induction l with
  | nil => rfl
  | cons a l ih =>
    obtain ⟨a, x⟩ := a
    rw [List.map_cons]
    unfold putK pt
    rw [key_pD, ih]
    by_cases c : a = p <;> simp [c]
theorem all_tupK (ks : List Pr) : (ks.map pD).all tupK = true := by
  rw [List.all_eq_true]
  intro d hd
  obtain ⟨p, _, rfl⟩ := List.mem_map.mp hd
  rfl
@[simp] theorem sortB_pD {β : Type} (f : β → D) (l : List (Pr × β)) (p : Pr) : sortB ((l.map fun q => (pD q.1, f q.2)).map (·.1)) (pD p) = true := by
  rw [dM_keys]
  unfold sortB
  rw [all_tupK, tupK_pD]
  simp
@[simp] theorem inO2_pD {β : Type} (f : β → D) (l : List (Pr × β)) (p : Pr) : inO2 (pD p) (dM f l) = some (.vl (.bl (decide (p ∈ l.map (·.1))))) := by
  unfold dM inO2
  simp only [sortB_pD, getK_pD, Option.isSome_map, lk_isSome]
  rfl
@[simp] theorem ninO2_pD {β : Type} (f : β → D) (l : List (Pr × β)) (p : Pr) : ninO2 (pD p) (dM f l) = some (.vl (.bl (!decide (p ∈ l.map (·.1))))) := by
  unfold dM ninO2
  simp only [sortB_pD, getK_pD, Option.isSome_map, lk_isSome]
  rfl
@[simp] theorem ixO2_pD {β : Type} (f : β → D) (l : List (Pr × β)) (p : Pr) : ixO2 (dM f l) (pD p) = (lk l p).map fun v => .vl (f v) := by
  unfold dM ixO2
  simp only [sortB_pD, getK_pD, if_true, Option.map_map]
  rfl
@[simp] theorem lenO2_dM {β : Type} (f : β → D) (l : List (Pr × β)) : lenO2 (dM f l) = some (.vl (.int l.length)) := by
  unfold dM lenO2 sc
  simp
@[simp] theorem stO_pD {β : Type} (f : β → D) (l : List (Pr × β)) (p : Pr) (v : β) (h : l.length < sizeLine) : stO (dM f l) (pD p) (f v) = some (dM f (pt l p v)) := by
  show (if sortB ((l.map fun q => (pD q.1, f q.2)).map (·.1)) (pD p) = true ∧ (l.map fun q => (pD q.1, f q.2)).length < sizeLine then some (D.dct (putK (l.map fun q => (pD q.1, f q.2)) (pD p) (f v))) else none) = _
  rw [if_pos ⟨sortB_pD f l p, by simpa using h⟩, putK_pD]
  rfl
@[simp] theorem getO_pD {β : Type} (f : β → D) (l : List (Pr × β)) (p : Pr) (x : D) : getO (dM f l) (pD p) x = some (((lk l p).map f).getD x) := by
  show (if sortB ((l.map fun q => (pD q.1, f q.2)).map (·.1)) (pD p) = true then some ((getK (l.map fun q => (pD q.1, f q.2)) (pD p)).getD x) else none) = _
  rw [if_pos (sortB_pD f l p), getK_pD]
@[simp] theorem isDct_dM {β : Type} (f : β → D) (l : List (Pr × β)) : isDct (dM f l) = true := rfl
@[simp] theorem seqO_dM {β : Type} (f : β → D) (l : List (Pr × β)) : seqO (dM f l) = some ((l.map (·.1)).map pD) := by
  show some ((l.map fun q => (pD q.1, f q.2)).map (·.1)) = _
  rw [dM_keys]
/-- a dict that is a set of pairs -/
def dS (l : List Pr) : D := .dct (l.map fun p => (pD p, .bl true))
theorem dS_dM (l : List Pr) : dS l = dM (fun _ : Unit => .bl true) (l.map fun p => (p, ())) := by simp [dS, dM]
theorem mk_keys (l : List Pr) : (l.map fun p => (p, ())).map (·.1) = l := by simp [Function.comp_def]
@[simp] theorem inO2_dS (l : List Pr) (p : Pr) : inO2 (pD p) (dS l) = some (.vl (.bl (decide (p ∈ l)))) := by rw [dS_dM, inO2_pD, mk_keys]
@[simp] theorem ninO2_dS (l : List Pr) (p : Pr) : ninO2 (pD p) (dS l) = some (.vl (.bl (!decide (p ∈ l)))) := by rw [dS_dM, ninO2_pD, mk_keys]
@[simp] theorem lenO2_dS (l : List Pr) : lenO2 (dS l) = some (.vl (.int l.length)) := by rw [dS_dM, lenO2_dM]; simp
@[simp] theorem seqO_dS (l : List Pr) : seqO (dS l) = some (l.map pD) := by rw [dS_dM, seqO_dM, mk_keys]
@[simp] theorem isDct_dS (l : List Pr) : isDct (dS l) = true := rfl
/-- a place more, if it is new -/
def ad (l : List Pr) (p : Pr) : List Pr := if p ∈ l then l else l ++ [p]
theorem pt_unit (l : List Pr) (p : Pr) : pt (l.map fun p => (p, ())) p () = (ad l p).map fun p => (p, ()) := by
  unfold ad
  by_cases h : p ∈ l
  · rw [if_pos h]
    have key : ∀ l : List Pr, p ∈ l → pt (l.map fun p => (p, ())) p () = l.map fun p => (p, ()) := by
      intro l
      induction l with
      | nil => intro h; cases h
      | cons a l ih =>
        intro h
        simp only [List.map_cons]
        unfold pt
        by_cases c : a = p
        · rw [if_pos c]
        · rw [if_neg c, ih]
          rcases List.mem_cons.mp h with z | z
          · exact (c z.symm).elim
          · exact z
    exact key l h
  · rw [if_neg h, pt_new (by rw [mk_keys]; exact h)]
    simp
@[simp] theorem stO_dS (l : List Pr) (p : Pr) (h : l.length < sizeLine) : stO (dS l) (pD p) (.bl true) = some (dS (ad l p)) := by
  rw [dS_dM, stO_pD (fun _ : Unit => .bl true) _ p () (by simpa using h), pt_unit, ← dS_dM]
theorem mem_ad {l : List Pr} {p q : Pr} : q ∈ ad l p ↔ q ∈ l ∨ q = p := by
  unfold ad
  split
  · rename_i h
    constructor
    · exact .inl
    · rintro (z | rfl)
      · exact z
      · exact h
  · simp
theorem ad_nodup {l : List Pr} {p : Pr} (h : l.Nodup) : (ad l p).Nodup := by
  unfold ad
  split
  · exact h
  · rename_i c
    rw [List.nodup_append]
    refine ⟨h, by simp, fun a ha b hb => ?_⟩
    rw [List.mem_singleton] at hb
    subst hb
    intro e
    exact c (e ▸ ha)
theorem ad_len (l : List Pr) (p : Pr) : l.length ≤ (ad l p).length ∧ (ad l p).length ≤ l.length + 1 := by
  unfold ad
  split <;> simp
def ads (l : List Pr) : List Pr → List Pr
  | [] => l
  | q :: r => ads (ad l q) r
theorem mem_ads {l : List Pr} {p : Pr} : ∀ {r : List Pr}, p ∈ ads l r ↔ p ∈ l ∨ p ∈ r := by
  intro r
  induction r generalizing l with
  | nil => simp [ads]
  | cons q r ih => rw [ads, ih, mem_ad, List.mem_cons, or_assoc]
theorem ads_nodup {l : List Pr} (h : l.Nodup) : ∀ (r : List Pr), (ads l r).Nodup := by
  intro r
  induction r generalizing l with
  | nil => exact h
  | cons q r ih => exact ih (ad_nodup h)
theorem ads_pre (l : List Pr) : ∀ (r : List Pr), ∃ t, ads l r = l ++ t := by
  intro r
  induction r generalizing l with
  | nil => exact ⟨[], by simp [ads]⟩
  | cons q r ih =>
    obtain ⟨t, e⟩ := ih (ad l q)
    rw [ads, e]
    unfold ad
    split
    · exact ⟨t, rfl⟩
    · exact ⟨q :: t, by simp⟩
/-! ## the graph of pairs of stands -/
def gl (s1 s2 : List (List Nat)) (p : Pr) : List Pr := (s1.getD p.1 []).zip (s2.getD p.2 [])
def un (g1 g2 : List Nat) (p : Pr) : Nat := if decide (p.1 ∈ g1) != decide (p.2 ∈ g2) then 1 else 0
def inP (s1 s2 : List (List Nat)) (p : Pr) : Prop := p.1 < s1.length ∧ p.2 < s2.length
theorem getD_row {s : List (List Nat)} {h : Nat} (hh : h < s.length) : s.getD h [] = s[h] := by rw [List.getD_eq_getElem?_getD, List.getElem?_eq_getElem hh]; rfl
theorem at_row {s : List (List Nat)} {h : Nat} (hh : h < s.length) : L2.atI (s.map rowD) (h : Int) = some (rowD (s.getD h [])) := by rw [getD_row hh]; exact atI_map hh
theorem StOk.row {s : List (List Nat)} {L h : Nat} (S : StOk s L) (hh : h < s.length) : (s.getD h []).length = L ∧ ∀ x ∈ s.getD h [], x < s.length := by
  rw [getD_row hh]
  exact ⟨S.len _ (List.getElem_mem hh), S.lt _ (List.getElem_mem hh)⟩
theorem gl_in {s1 s2 : List (List Nat)} {L : Nat} (S1 : StOk s1 L) (S2 : StOk s2 L) {p : Pr} (h : inP s1 s2 p) : ∀ q ∈ gl s1 s2 p, inP s1 s2 q := fun q hq => by
  obtain ⟨h1, h2⟩ := List.of_mem_zip (show (q.1, q.2) ∈ _ from hq)
  exact ⟨(S1.row h.1).2 _ h1, (S2.row h.2).2 _ h2⟩
theorem gl_len {s1 s2 : List (List Nat)} {L : Nat} (S1 : StOk s1 L) (S2 : StOk s2 L) {p : Pr} (h : inP s1 s2 p) : (gl s1 s2 p).length = L := by
  unfold gl
  rw [List.length_zip, (S1.row h.1).1, (S2.row h.2).1, Nat.min_self]
theorem zipD_nats (a b : List Nat) : zipD (a.map nat) (b.map nat) = (a.zip b).map pD := by
  induction a generalizing b with
  | nil => rfl
  | cons x a ih =>
    cases b with
    | nil => rfl
    | cons y b => simp only [List.map_cons, zipD, List.zip_cons_cons, ih]; rfl
/-- all pairs of stands -/
def allP (n m : Nat) : List Pr := (List.range n).flatMap fun a => (List.range m).map fun b => (a, b)
theorem mem_allP {n m : Nat} {p : Pr} : p ∈ allP n m ↔ p.1 < n ∧ p.2 < m := by
  unfold allP
  simp only [List.mem_flatMap, List.mem_range, List.mem_map]
  constructor
  · rintro ⟨a, ha, b, hb, rfl⟩; exact ⟨ha, hb⟩
  · intro h; exact ⟨p.1, h.1, p.2, h.2, rfl⟩
theorem allP_len (n m : Nat) : (allP n m).length = n * m := by
  unfold allP
  rw [List.length_flatMap]
  simp only [List.length_map, List.length_range]
  induction n with
  | zero => simp
  | succ n ih => rw [List.range_succ, List.map_append, List.sum_append, ih, Nat.succ_mul]; simp
theorem pairs_le {s1 s2 : List (List Nat)} {L : Nat} (S1 : StOk s1 L) (S2 : StOk s2 L) {l : List Pr} (hn : l.Nodup) (h : ∀ p ∈ l, inP s1 s2 p) : l.length ≤ 64 := by
  have := Gr.nodup_le (m := allP s1.length s2.length) hn fun p hp => mem_allP.mpr (h p hp)
  rw [allP_len] at this
  have a := S1.n8
  have b := S2.n8
  have : s1.length * s2.length ≤ 8 * 8 := Nat.mul_le_mul a b
  omega
end BF
set_option Elab.async false
set_option linter.all false
set_option autoImplicit false
set_option maxRecDepth 100000
set_option maxHeartbeats 1000000
namespace BF
open PySem PySem.Spec PyProof.Rows L2
theorem sz64 {n : Nat} (h : n ≤ 1000) : n < sizeLine := by rw [sizeLine_eq]; omega
theorem forL_cons {G : Type} {t : Tg} {body : Sg G → Ro G} {d : D} {ds : List D} {s s1 s2 : Sg G} {r : Ro G} (h1 : asgT t d s = some s1) (h2 : body s1 = .nx s2) (h3 : forL t body ds s2 = r) : forL t body (d :: ds) s = r := by
  unfold forL
  rw [h1]
  simp only []
  rw [h2]
  exact h3
/-- a graph of few places -/
structure Gp (go : Pr → List Pr) (P : Pr → Prop) : Prop where
  cl : ∀ p, P p → ∀ q ∈ go p, P q
  len : ∀ p, P p → (go p).length ≤ 3
  fin : ∀ l : List Pr, l.Nodup → (∀ p ∈ l, P p) → l.length ≤ 64
theorem gp_gl {s1 s2 : List (List Nat)} {L : Nat} (S1 : StOk s1 L) (S2 : StOk s2 L) : Gp (gl s1 s2) (inP s1 s2) :=
  ⟨fun p h => gl_in S1 S2 h, fun p h => by rw [gl_len S1 S2 h]; exact S1.l3, fun l h1 h2 => pairs_le S1 S2 h1 h2⟩
/-- what comes out of come_to -/
structure CmOk (go : Pr → List Pr) (P : Pr → Prop) (b : Pr) (cs : List Pr) : Prop where
  nd : cs.Nodup
  bg : b ∈ cs
  inn : ∀ p ∈ cs, P p
  cl : ∀ p ∈ cs, ∀ q ∈ go p, q ∈ cs
  rc : ∀ p ∈ cs, Gr.Rc go b p
theorem CmOk.all {go : Pr → List Pr} {P : Pr → Prop} {b : Pr} {cs : List Pr} (h : CmOk go P b cs) : ∀ q, Gr.Rc go b q → q ∈ cs := by
  rintro q ⟨w, h1, h2⟩
  have key : ∀ (w : List Pr) (p : Pr), p ∈ cs → Gr.Wk go p w → (w.getLast?).getD p ∈ cs := by
    intro w
    induction w with
    | nil => intro p hp _; exact hp
    | cons x w ih =>
      intro p hp hw
      have := ih x (h.cl p hp x hw.1) hw.2
      cases w with
      | nil => exact this
      | cons y w =>
        rw [List.getLast?_cons_cons]
        cases e : (y :: w).getLast? with
        | none => simp at e
        | some z => rw [e] at this; exact this
  rw [← h2]
  exact key w b h.bg h1
section
variable {G : Type} {K : Env1} {Γ : Gam G}
/-- a def that tells the places ahead -/
def SGo (m : Mir G) (M1 M2 : D) (go : Pr → List Pr) (P : Pr → Prop) : Prop := ∀ (p : Pr) (g : G), P p → m [M1, M2, pD p] g = .ok (.lst ((go p).map pD)) g
def SUn (m : Mir G) (M1 M2 : D) (f : Pr → Nat) : Prop := ∀ (p : Pr) (g : G), m [M1, M2, pD p] g = .ok (.bl (decide (0 < f p))) g
theorem s_goals_of {s1 s2 : List (List Nat)} {g1 g2 : List Nat} {L : Nat} (S1 : StOk s1 L) (S2 : StOk s2 L) : SGo (runF N_goals_of.length (ex K Γ c_goals_of)) (machD s1 g1) (machD s2 g2) (gl s1 s2) (inP s1 s2) := by
  intro p g h
  have e1 := at_row h.1
  have e2 := at_row h.2
  have e3 : (s1.getD p.1 []).length ≤ 1000 := by rw [(S1.row h.1).1]; have := S1.l3; omega
  unfold c_goals_of N_goals_of gl
  generalize s1.getD p.1 [] = r1 at e1 e3 ⊢
  generalize s2.getD p.2 [] = r2 at e2 ⊢
  simp at e1 e2
  rw [pD_eq]
  simp [e1, e2, e3, zipD_nats]
theorem s_is_unlike {s1 s2 : List (List Nat)} {g1 g2 : List Nat} : SUn (runF N_is_unlike.length (ex K Γ c_is_unlike)) (machD s1 g1) (machD s2 g2) (un g1 g2) := by
  intro p g
  unfold c_is_unlike N_is_unlike un
  rw [pD_eq]
  have p1 := plain_nats 59 g1
  have p2 := plain_nats 59 g2
  have q1 := any_nat g1 p.1
  have q2 := any_nat g2 p.2
  simp [inO, inB, p1, p2, q1, q2, neO, eqB]
  by_cases c : (p.1 ∈ g1) = (p.2 ∈ g2)
  · simp [c]
  · have c' : ¬ (p.1 ∈ g1 ↔ p.2 ∈ g2) := fun z => c (propext z)
    simp [c']
/-! ### come_to -/
theorem come_turn {kn : List Pr} {ln : List D} {q : Pr} {x0 x1 x2 x5 x6 : Option (Bool × D)} (g : G) (hk : kn.length < sizeLine) (hl : ln.length < sizeLine) :
    ex K Γ c_come_to_b1 ⟨[x0, x1, x2, some (true, dS kn), some (true, .lst ln), x5, x6, some (false, pD q)], g⟩ = .nx ⟨[x0, x1, x2, some (true, dS (ad kn q)), some (true, .lst (if q ∈ kn then ln else ln ++ [pD q])), x5, x6, some (false, pD q)], g⟩ := by
  unfold c_come_to_b1
  by_cases c : q ∈ kn
  · have : ad kn q = kn := by unfold ad; rw [if_pos c]
    rw [this]
    simp [c]
  · simp [c, hk, hl]
theorem ad_map (l : List Pr) (q : Pr) : (if q ∈ l then l.map pD else l.map pD ++ [pD q]) = (ad l q).map pD := by
  unfold ad
  split <;> simp
theorem come_inner {x0 x1 x2 x5 x6 : Option (Bool × D)} (g : G) : ∀ (gs : List Pr) (ln : List Pr) (x7 : Option (Bool × D)), ln.length + gs.length ≤ 1000 →
    ∃ y7, forL (.nm 7) (ex K Γ c_come_to_b1) (gs.map pD) ⟨[x0, x1, x2, some (true, dS ln), some (true, .lst (ln.map pD)), x5, x6, x7], g⟩ = .nx ⟨[x0, x1, x2, some (true, dS (ads ln gs)), some (true, .lst ((ads ln gs).map pD)), x5, x6, y7], g⟩ := by
  intro gs
  induction gs with
  | nil => intro ln x7 _; exact ⟨x7, rfl⟩
  | cons q gs ih =>
    intro ln x7 hl
    simp only [List.length_cons] at hl
    obtain ⟨y7, e⟩ := ih (ad ln q) (some (false, pD q)) (by have := (ad_len ln q).2; omega)
    have hz := sz64 (n := ln.length) (by omega)
    refine ⟨y7, forL_cons (s1 := ⟨[x0, x1, x2, some (true, dS ln), some (true, .lst (ln.map pD)), x5, x6, some (false, pD q)], g⟩) rfl (come_turn g hz (by simpa using hz)) ?_⟩
    rw [ad_map]
    exact e
theorem come_body {u : Nat} {x : Str} {m : Mir G} (h : Γ[u]? = some (x, .fn 3 m)) {M1 M2 kn hd kn' : D} {ln fd gs ln' : List D} {x2 x6 x7 y7 : Option (Bool × D)} {g : G} (e1 : L2.atI ln (fd.length : Int) = some hd) (e2 : m [M1, M2, hd] g = .ok (.lst gs) g) (e3 : fd.length < sizeLine)
    (e4 : forL (.nm 7) (ex K Γ c_come_to_b1) gs ⟨[some (false, M1), some (false, M2), x2, some (true, kn), some (true, .lst ln), some (true, .lst (fd ++ [hd])), some (false, hd), x7], g⟩ = .nx ⟨[some (false, M1), some (false, M2), x2, some (true, kn'), some (true, .lst ln'), some (true, .lst (fd ++ [hd])), some (false, hd), y7], g⟩) :
    ex K Γ (c_come_to_b2 u) ⟨[some (false, M1), some (false, M2), x2, some (true, kn), some (true, .lst ln), some (true, .lst fd), x6, x7], g⟩ = .nx ⟨[some (false, M1), some (false, M2), x2, some (true, kn'), some (true, .lst ln'), some (true, .lst (fd ++ [hd])), some (false, hd), y7], g⟩ := by
  unfold c_come_to_b2
  simp [e1, h, e2, e3, e4]
def SCm (m : Mir G) (M1 M2 : D) (go : Pr → List Pr) (P : Pr → Prop) : Prop := ∀ (b : Pr) (g : G), P b → ∃ cs, m [M1, M2, pD b] g = .ok (.lst (cs.map pD)) g ∧ CmOk go P b cs
theorem s_come_to {u : Nat} {x : Str} {m : Mir G} (h : Γ[u]? = some (x, .fn 3 m)) {M1 M2 : D} {go : Pr → List Pr} {P : Pr → Prop} (hm : SGo m M1 M2 go P) (gp : Gp go P) : SCm (runF N_come_to.length (ex K Γ (c_come_to u))) M1 M2 go P := by
  intro b g hb
  let st (ln fd : List Pr) (x6 x7 : Option (Bool × D)) : Sg G := ⟨[some (false, M1), some (false, M2), some (false, pD b), some (true, dS ln), some (true, .lst (ln.map pD)), some (true, .lst (fd.map pD)), x6, x7], g⟩
  refine Exists.elim (whL_ind (c := ev K Γ c_come_to_w1) (body := ex K Γ (c_come_to_b2 u))
    (fun s => ∃ ln fd rest x6 x7, s = st ln fd x6 x7 ∧ ln = fd ++ rest ∧ ln.Nodup ∧ b ∈ ln ∧ (∀ p ∈ ln, P p) ∧ (∀ p ∈ ln, Gr.Rc go b p) ∧ ∀ p ∈ fd, ∀ q ∈ go p, q ∈ ln)
    (fun s => ∃ cs x6 x7, s = st cs cs x6 x7 ∧ CmOk go P b cs)
    (fun s => match s.sl[5]? with
      | some (some (_, D.lst ds)) => 100 - ds.length
      | _ => 0) ?_ 1000 (st [b] [] none none) (by simp [st]) ⟨[b], [], [b], none, none, rfl, rfl, by simp, by simp, by simpa using hb, by simpa using Gr.Rc.refl _ _, by simp⟩) fun s' ⟨e, cs, x6, x7, es, ok⟩ => ?_
  · rintro _ ⟨ln, fd, rest, x6, x7, rfl, i1, i2, i3, i4, i5, i6⟩
    have h64 := gp.fin ln i2 i4
    have hlen : ln.length = fd.length + rest.length := by rw [i1, List.length_append]
    refine ⟨.vl (.bl (decide (fd.length < ln.length))), st ln fd x6 x7, ?_, ?_⟩
    · unfold c_come_to_w1
      simp [st]
    · cases rest with
      | nil =>
        left
        refine ⟨by simp [tst, pk, hlen], ln, x6, x7, ?_, i2, i3, i4, ?_, i5⟩
        · rw [List.append_nil] at i1; rw [i1]
        · rw [List.append_nil] at i1; rw [← i1] at i6; exact i6
      | cons r rest =>
        right
        simp only [List.length_cons] at hlen
        refine ⟨by simp [tst, pk, hlen], ?_⟩
        have hr : r ∈ ln := by rw [i1]; simp
        have hgl := gp.len r (i4 r hr)
        have e1 : L2.atI (ln.map pD) ((fd.map pD).length : Int) = some (pD r) := by
          refine atI_nat ?_
          rw [List.getElem?_map, i1, List.length_map, List.getElem?_append_right (Nat.le_refl _), Nat.sub_self]
          rfl
        obtain ⟨y7, ey⟩ := come_inner (K := K) (Γ := Γ) (x0 := some (false, M1)) (x1 := some (false, M2)) (x2 := some (false, pD b)) (x5 := some (true, .lst (fd.map pD ++ [pD r]))) (x6 := some (false, pD r)) g (go r) ln x7 (by omega)
        have eb := come_body (x6 := x6) h e1 (hm r g (i4 r hr)) (sz64 (by simp; omega)) ey
        obtain ⟨t, et⟩ := ads_pre ln (go r)
        refine ⟨st (ads ln (go r)) (fd ++ [r]) (some (false, pD r)) y7, ?_, ⟨_, _, rest ++ t, _, _, rfl, ?_, ads_nodup i2 _, mem_ads.mpr (.inl i3), fun p hp' => ?_, fun p hp' => ?_, fun p hp' q hq => ?_⟩, ?_⟩
        · show ex K Γ (c_come_to_b2 u) ⟨[some (false, M1), some (false, M2), some (false, pD b), some (true, dS ln), some (true, .lst (ln.map pD)), some (true, .lst (fd.map pD)), x6, x7], g⟩ = .nx ⟨[some (false, M1), some (false, M2), some (false, pD b), some (true, dS (ads ln (go r))), some (true, .lst ((ads ln (go r)).map pD)), some (true, .lst ((fd ++ [r]).map pD)), some (false, pD r), y7], g⟩
          rw [eb, List.map_append]
          rfl
        · rw [et, i1]; simp
        · rcases mem_ads.mp hp' with z | z
          · exact i4 p z
          · exact gp.cl r (i4 r hr) p z
        · rcases mem_ads.mp hp' with z | z
          · exact i5 p z
          · exact (i5 r hr).step _ z
        · refine mem_ads.mpr ?_
          rcases List.mem_append.mp hp' with z | z
          · exact .inl (i6 p z q hq)
          · rw [List.mem_singleton.mp z] at hq; exact .inr hq
        · show 100 - ((fd ++ [r]).map pD).length < 100 - (fd.map pD).length
          simp
          omega
  · refine ⟨cs, ?_, ok⟩
    subst es
    have e : whL (ev K Γ c_come_to_w1) (ex K Γ (c_come_to_b2 u)) 1000 ⟨[some (false, M1), some (false, M2), some (false, pD b), some (true, .dct [(pD b, D.bl true)]), some (true, .lst [pD b]), some (true, .lst []), none, none], g⟩ = .nx ⟨[some (false, M1), some (false, M2), some (false, pD b), some (true, dS cs), some (true, .lst (cs.map pD)), some (true, .lst (cs.map pD)), x6, x7], g⟩ := e
    generalize cs.map pD = csD at e ⊢
    unfold c_come_to N_come_to
    have hl : leafK (pD b) = false := rfl
    simp [e]
end
end BF
set_option Elab.async false
set_option linter.all false
set_option autoImplicit false
set_option maxRecDepth 100000
set_option maxHeartbeats 1000000
namespace BF
open PySem PySem.Spec PyProof.Rows L2
/-! ## useful -/
section
variable {G : Type} {K : Env1} {Γ : Gam G}
/-- places of a list kept by a test, added -/
def adf (t : List Pr → Pr → Bool) (l : List Pr) : List Pr → List Pr
  | [] => l
  | p :: r => adf t (if t l p = true then ad l p else l) r
theorem adf_pre (t : List Pr → Pr → Bool) (l : List Pr) : ∀ r, ∃ k, adf t l r = l ++ k := by
  intro r
  induction r generalizing l with
  | nil => exact ⟨[], by simp [adf]⟩
  | cons q r ih =>
    obtain ⟨k, e⟩ := ih (if t l q = true then ad l q else l)
    rw [adf, e]
    unfold ad
    split
    · split
      · exact ⟨k, rfl⟩
      · exact ⟨q :: k, by simp⟩
    · exact ⟨k, rfl⟩
theorem adf_nodup {t : List Pr → Pr → Bool} {l : List Pr} (h : l.Nodup) : ∀ r, (adf t l r).Nodup := by
  intro r
  induction r generalizing l with
  | nil => exact h
  | cons q r ih =>
    rw [adf]
    split
    · exact ih (ad_nodup h)
    · exact ih h
/-- what holds of all that is added -/
theorem adf_all {t : List Pr → Pr → Bool} {Q : Pr → Prop} {r : List Pr} : ∀ {l : List Pr}, (∀ p ∈ l, Q p) → (∀ (l : List Pr) p, p ∈ r → (∀ q ∈ l, Q q) → t l p = true → Q p) → ∀ p ∈ adf t l r, Q p := by
  induction r with
  | nil => intro l h _; exact h
  | cons q r ih =>
    intro l h hs
    rw [adf]
    refine ih ?_ fun l p hp => hs l p (List.mem_cons_of_mem _ hp)
    split
    · rename_i c
      intro p hp
      rcases mem_ad.mp hp with z | rfl
      · exact h p z
      · exact hs l _ List.mem_cons_self h c
    · exact h
theorem adf_same {t : List Pr → Pr → Bool} {r : List Pr} : ∀ {l : List Pr}, (adf t l r).length = l.length → ∀ p ∈ r, t l p = true → p ∈ l := by
  induction r with
  | nil => intro l _ p hp; cases hp
  | cons q r ih =>
    intro l h p hp ht
    rw [adf] at h
    obtain ⟨k, e⟩ := adf_pre t (if t l q = true then ad l q else l) r
    have h1 : l.length ≤ (if t l q = true then ad l q else l).length := by
      split
      · exact (ad_len l q).1
      · exact Nat.le_refl _
    have h2 : (if t l q = true then ad l q else l) = l := by
      rw [e, List.length_append] at h
      by_cases c : t l q = true
      · rw [if_pos c] at h ⊢
        by_cases d : q ∈ l
        · unfold ad; rw [if_pos d]
        · unfold ad at h; rw [if_neg d, List.length_append] at h; simp at h; omega
      · rw [if_neg c]
    rw [h2] at h
    rcases List.mem_cons.mp hp with rfl | hp
    · rw [if_pos ht] at h2
      have : p ∈ ad l p := mem_ad.mpr (.inr rfl)
      rwa [h2] at this
    · exact ih h p hp ht
theorem use_l1 {u : Nat} {x : Str} {m : Mir G} (h : Γ[u]? = some (x, .fn 3 m)) {M1 M2 : D} {f : Pr → Nat} (hm : SUn m M1 M2 f) {x2 x3 x6 x7 : Option (Bool × D)} (g : G) : ∀ (ps us : List Pr) (x5 : Option (Bool × D)), us.length + ps.length ≤ 1000 →
    ∃ y5, forL (.nm 5) (ex K Γ (c_useful_b1 u)) (ps.map pD) ⟨[some (false, M1), some (false, M2), x2, x3, some (true, dS us), x5, x6, x7], g⟩ = .nx ⟨[some (false, M1), some (false, M2), x2, x3, some (true, dS (adf (fun _ p => decide (0 < f p)) us ps)), y5, x6, x7], g⟩ := by
  intro ps
  induction ps with
  | nil => intro us x5 _; exact ⟨x5, rfl⟩
  | cons q ps ih =>
    intro us x5 hl
    simp only [List.length_cons] at hl
    have hz := sz64 (n := us.length) (by omega)
    by_cases c : 0 < f q
    · obtain ⟨y5, e⟩ := ih (ad us q) (some (false, pD q)) (by have := (ad_len us q).2; omega)
      refine ⟨y5, forL_cons (s1 := ⟨[some (false, M1), some (false, M2), x2, x3, some (true, dS us), some (false, pD q), x6, x7], g⟩) (s2 := ⟨[some (false, M1), some (false, M2), x2, x3, some (true, dS (ad us q)), some (false, pD q), x6, x7], g⟩) rfl ?_ ?_⟩
      · have hm := hm q g
        unfold c_useful_b1
        simp [h, hm, c, hz]
      · simp only [adf, c, decide_true, if_true]
        exact e
    · obtain ⟨y5, e⟩ := ih us (some (false, pD q)) (by omega)
      refine ⟨y5, forL_cons (s1 := ⟨[some (false, M1), some (false, M2), x2, x3, some (true, dS us), some (false, pD q), x6, x7], g⟩) (s2 := ⟨[some (false, M1), some (false, M2), x2, x3, some (true, dS us), some (false, pD q), x6, x7], g⟩) rfl ?_ ?_⟩
      · have hm := hm q g
        unfold c_useful_b1
        simp [h, hm, c]
      · simp only [adf, c, decide_false, Bool.false_eq_true, if_false]
        exact e
theorem any_bls (l : List Bool) : blsOf (l.map D.bl) = some l := blsOf_map l
theorem map_any {α : Type} (l : List α) (f : α → Bool) : blsOf (l.map fun x => D.bl (f x)) = some (l.map f) := by
  have := blsOf_map (l.map f)
  simpa [List.map_map, Function.comp_def] using this
theorem use_l2 {u : Nat} {x : Str} {m : Mir G} (h : Γ[u]? = some (x, .fn 3 m)) {M1 M2 : D} {go : Pr → List Pr} {P : Pr → Prop} (hm : SGo m M1 M2 go P) (gp : Gp go P) {x2 x3 x6 : Option (Bool × D)} (g : G) : ∀ (ps us : List Pr) (x5 : Option (Bool × D)), (∀ p ∈ ps, P p) → us.length + ps.length ≤ 1000 →
    ∃ y5, forL (.nm 5) (ex K Γ (c_useful_b2 u)) (ps.map pD) ⟨[some (false, M1), some (false, M2), x2, x3, some (true, dS us), x5, x6, none], g⟩ = .nx ⟨[some (false, M1), some (false, M2), x2, x3, some (true, dS (adf (fun l p => (go p).any fun q => decide (q ∈ l)) us ps)), y5, x6, none], g⟩ := by
  intro ps
  induction ps with
  | nil => intro us x5 _ _; exact ⟨x5, rfl⟩
  | cons q ps ih =>
    intro us x5 hP hl
    simp only [List.length_cons] at hl
    have hz := sz64 (n := us.length) (by omega)
    have hq := hP q List.mem_cons_self
    have hgl := gp.len q hq
    have hm := hm q g hq
    have sg := size_ge (n := (go q).length) (by omega)
    have lc : lcL (.nm 7) (evC (.bl true)) (ev K Γ c_useful_e1) [7] ((go q).map pD) ⟨[some (false, M1), some (false, M2), x2, x3, some (true, dS us), some (false, pD q), x6, none], g⟩ = .ok ((go q).map fun r => .bl (decide (r ∈ us))) ⟨[some (false, M1), some (false, M2), x2, x3, some (true, dS us), some (false, pD q), x6, none], g⟩ := by
      have := lcL_mapN (fe := ev K Γ c_useful_e1) (i := 7) (s0 := ⟨[some (false, M1), some (false, M2), x2, x3, some (true, dS us), some (false, pD q), x6, none], g⟩) (fun d => match inO2 d (dS us) with
        | some (.vl z) => z
        | _ => .non) rfl ((go q).map pD) fun d hd => by
          obtain ⟨r, _, rfl⟩ := List.mem_map.mp hd
          unfold c_useful_e1
          simp
      rw [this, List.map_map]
      congr 1
      refine List.map_congr_left fun r _ => ?_
      simp
    have ab := map_any (go q) fun r => decide (r ∈ us)
    generalize hgs : (go q).map pD = gs at hm lc
    have hgs' : gs.length = (go q).length := by rw [← hgs]; simp
    have sg2 : gs.length ≤ sizeLine := by rw [hgs']; exact sg
    have ea : ((go q).map fun r => decide (r ∈ us)).any id = (go q).any fun r => decide (r ∈ us) := by rw [List.any_map]; rfl
    generalize hbs : ((go q).map fun r => D.bl (decide (r ∈ us))) = bs at lc ab
    by_cases c : ((go q).any fun r => decide (r ∈ us)) = true
    · obtain ⟨y5, e⟩ := ih (ad us q) (some (false, pD q)) (fun p hp => hP p (List.mem_cons_of_mem _ hp)) (by have := (ad_len us q).2; omega)
      refine ⟨y5, forL_cons (s1 := ⟨[some (false, M1), some (false, M2), x2, x3, some (true, dS us), some (false, pD q), x6, none], g⟩) (s2 := ⟨[some (false, M1), some (false, M2), x2, x3, some (true, dS (ad us q)), some (false, pD q), x6, none], g⟩) rfl ?_ ?_⟩
      · rw [c] at ea
        generalize ((go q).map fun r => decide (r ∈ us)) = bb at ab ea
        unfold c_useful_b2
        simp [h, hm, sg2, lc, anyO, ab, ea, hz]
      · simp only [adf, c, if_true]
        exact e
    · obtain ⟨y5, e⟩ := ih us (some (false, pD q)) (fun p hp => hP p (List.mem_cons_of_mem _ hp)) (by omega)
      have c' : ((go q).any fun r => decide (r ∈ us)) = false := by simpa using c
      refine ⟨y5, forL_cons (s1 := ⟨[some (false, M1), some (false, M2), x2, x3, some (true, dS us), some (false, pD q), x6, none], g⟩) (s2 := ⟨[some (false, M1), some (false, M2), x2, x3, some (true, dS us), some (false, pD q), x6, none], g⟩) rfl ?_ ?_⟩
      · rw [c'] at ea
        generalize ((go q).map fun r => decide (r ∈ us)) = bb at ab ea
        unfold c_useful_b2
        simp [h, hm, sg2, lc, anyO, ab, ea]
      · simp only [adf, c', Bool.false_eq_true, if_false]
        exact e
/-- what comes out of useful -/
structure UsOk (go : Pr → List Pr) (f : Pr → Nat) (P : Pr → Prop) (b : Pr) (us : List Pr) : Prop where
  nd : us.Nodup
  inn : ∀ p ∈ us, P p
  rc : ∀ p ∈ us, Gr.Rc go b p
  pos : ∀ p ∈ us, ∃ n, 0 < Gr.cf go n f p
  all : ∀ p, Gr.Rc go b p → (∃ n, 0 < Gr.cf go n f p) → p ∈ us
def SUs (m : Mir G) (M1 M2 : D) (go : Pr → List Pr) (f : Pr → Nat) (P : Pr → Prop) : Prop := ∀ (b : Pr) (g : G), P b → ∃ us, m [M1, M2, pD b] g = .ok (dS us) g ∧ UsOk go f P b us
theorem s_useful {u1 u2 u3 : Nat} {x1 x2 x3 : Str} {m1 m2 m3 : Mir G} (h1 : Γ[u1]? = some (x1, .fn 3 m1)) (h2 : Γ[u2]? = some (x2, .fn 3 m2)) (h3 : Γ[u3]? = some (x3, .fn 3 m3)) {M1 M2 : D} {go : Pr → List Pr} {f : Pr → Nat} {P : Pr → Prop} (hc : SCm m1 M1 M2 go P) (hu : SUn m2 M1 M2 f) (hg : SGo m3 M1 M2 go P) (gp : Gp go P) :
    SUs (runF N_useful.length (ex K Γ (c_useful u1 u2 u3))) M1 M2 go f P := by
  intro b g hb
  obtain ⟨cs, ec, ok⟩ := hc b g hb
  have c64 := gp.fin cs ok.nd ok.inn
  obtain ⟨y5, e1⟩ := use_l1 (K := K) h2 hu (x2 := some (false, pD b)) (x3 := some (false, .lst (cs.map pD))) (x6 := none) (x7 := none) g cs [] none (by simp; omega)
  have q0 : ∀ p ∈ adf (fun _ p => decide (0 < f p)) [] cs, p ∈ cs ∧ ∃ n, 0 < Gr.cf go n f p := adf_all (by simp) fun l p hp _ ht => ⟨hp, 0, of_decide_eq_true ht⟩
  have q1 : ∀ p ∈ cs, 0 < f p → p ∈ adf (fun _ p => decide (0 < f p)) [] cs := by
    have key : ∀ (r l : List Pr) p, p ∈ l ∨ p ∈ r → 0 < f p → p ∈ adf (fun _ p => decide (0 < f p)) l r := by
      intro r
      induction r with
      | nil => intro l p h _; rcases h with h | h; exact h; cases h
      | cons q r ih =>
        intro l p h hf
        rw [adf]
        refine ih _ p ?_ hf
        rcases h with h | h
        · left
          split
          · exact mem_ad.mpr (.inl h)
          · exact h
        · rcases List.mem_cons.mp h with rfl | h
          · left
            rw [if_pos (decide_eq_true hf)]
            exact mem_ad.mpr (.inr rfl)
          · exact .inr h
    exact fun p hp hf => key cs [] p (.inr hp) hf
  have q2 : (adf (fun _ p => decide (0 < f p)) [] cs).Nodup := adf_nodup (by simp) cs
  generalize adf (fun _ p => decide (0 < f p)) [] cs = us0 at e1 q0 q1 q2
  let st (us : List Pr) (bf : Int) (x5 : Option (Bool × D)) : Sg G := ⟨[some (false, M1), some (false, M2), some (false, pD b), some (false, .lst (cs.map pD)), some (true, dS us), x5, some (false, .int bf), none], g⟩
  refine Exists.elim (whL_ind (c := ev K Γ c_useful_w1) (body := ex K Γ (c_useful_b3 u3))
    (fun s => ∃ us bf x5, s = st us bf x5 ∧ us.Nodup ∧ (∀ p ∈ us, p ∈ cs ∧ ∃ n, 0 < Gr.cf go n f p) ∧ (∀ p ∈ cs, 0 < f p → p ∈ us) ∧ -1 ≤ bf ∧ bf ≤ us.length ∧ (bf = us.length → ∀ p ∈ cs, ((go p).any fun q => decide (q ∈ us)) = true → p ∈ us))
    (fun s => ∃ us bf x5, s = st us bf x5 ∧ UsOk go f P b us)
    (fun s => match s.sl[6]? with
      | some (some (_, D.int i)) => 200 - (i + 1).toNat
      | _ => 0) ?_ 1000 (st us0 (-1) y5) (by simp [st]) ⟨us0, -1, y5, rfl, q2, q0, q1, by omega, by omega, fun z => by omega⟩) fun s' ⟨e, us, bf, x5, es, ok⟩ => ?_
  · rintro _ ⟨us, bf, x5, rfl, i1, i2, i3, i4, i5, i6⟩
    have u64 := gp.fin us i1 fun p hp => ok.inn p (i2 p hp).1
    refine ⟨.vl (.bl (decide (bf < us.length))), st us bf x5, ?_, ?_⟩
    · unfold c_useful_w1
      simp [st]
    · by_cases c : bf < us.length
      · right
        refine ⟨by simp [tst, pk, c], ?_⟩
        obtain ⟨z5, ez⟩ := use_l2 (K := K) h3 hg gp (x2 := some (false, pD b)) (x3 := some (false, .lst (cs.map pD))) (x6 := some (false, .int us.length)) g cs us x5 ok.inn (by omega)
        obtain ⟨t, et⟩ := adf_pre (fun l p => (go p).any fun q => decide (q ∈ l)) us cs
        have lle : us.length ≤ (adf (fun l p => (go p).any fun q => decide (q ∈ l)) us cs).length := by rw [et, List.length_append]; omega
        refine ⟨st (adf (fun l p => (go p).any fun q => decide (q ∈ l)) us cs) us.length z5, ?_, ⟨_, _, _, rfl, adf_nodup i1 cs, adf_all i2 fun l p hp hl ht => ⟨hp, ?_⟩, fun p hp hf => by rw [et]; exact List.mem_append_left _ (i3 p hp hf), by omega, by omega, fun z p hp ht => ?_⟩, ?_⟩
        · generalize adf (fun l p => (go p).any fun q => decide (q ∈ l)) us cs = us' at ez
          have ez : forL (.nm 5) (ex K Γ (c_useful_b2 u3)) (cs.map pD) ⟨[some (false, M1), some (false, M2), some (false, pD b), some (false, .lst (cs.map pD)), some (true, dS us), x5, some (false, .int us.length), none], g⟩ = .nx ⟨[some (false, M1), some (false, M2), some (false, pD b), some (false, .lst (cs.map pD)), some (true, dS us'), z5, some (false, .int us.length), none], g⟩ := ez
          show ex K Γ (c_useful_b3 u3) ⟨[some (false, M1), some (false, M2), some (false, pD b), some (false, .lst (cs.map pD)), some (true, dS us), x5, some (false, .int bf), none], g⟩ = .nx ⟨[some (false, M1), some (false, M2), some (false, pD b), some (false, .lst (cs.map pD)), some (true, dS us'), z5, some (false, .int us.length), none], g⟩
          generalize cs.map pD = csD at ez
          unfold c_useful_b3
          simp [ez]
        · obtain ⟨q, hq, hd⟩ := List.any_eq_true.mp ht
          obtain ⟨_, n, hn⟩ := hl q (of_decide_eq_true hd)
          exact ⟨n + 1, Gr.sum_pos.mpr ⟨_, List.mem_map.mpr ⟨q, hq, rfl⟩, hn⟩⟩
        · have hle : (adf (fun l p => (go p).any fun q => decide (q ∈ l)) us cs).length = us.length := by omega
          have heq : adf (fun l p => (go p).any fun q => decide (q ∈ l)) us cs = us := by
            rw [et, List.length_append] at hle
            have : t = [] := List.length_eq_zero_iff.mp (by omega)
            rw [et, this, List.append_nil]
          rw [heq] at ht ⊢
          exact adf_same hle p hp ht
        · show 200 - (((us.length : Nat) : Int) + 1).toNat < 200 - (bf + 1).toNat
          omega
      · left
        refine ⟨by simp [tst, pk, c], us, bf, x5, rfl, i1, fun p hp => ok.inn p (i2 p hp).1, fun p hp => ok.rc p (i2 p hp).1, fun p hp => (i2 p hp).2, fun p hr hn => ?_⟩
        have cl := i6 (by omega)
        obtain ⟨n, hn⟩ := hn
        have key : ∀ n p, p ∈ cs → 0 < Gr.cf go n f p → p ∈ us := by
          intro n
          induction n with
          | zero => intro p hp hz; exact i3 p hp hz
          | succ n ih =>
            intro p hp hz
            obtain ⟨x, hx, h0⟩ := Gr.sum_pos.mp (show 0 < ((go p).map (Gr.cf go n f)).sum from hz)
            obtain ⟨q, hq, rfl⟩ := List.mem_map.mp hx
            have := ih q (ok.cl p hp q hq) h0
            exact cl p hp (List.any_eq_true.mpr ⟨q, hq, decide_eq_true this⟩)
        exact key n p (ok.all p hr) hn
  · refine ⟨us, ?_, ok⟩
    subst es
    have e : whL (ev K Γ c_useful_w1) (ex K Γ (c_useful_b3 u3)) 1000 ⟨[some (false, M1), some (false, M2), some (false, pD b), some (false, .lst (cs.map pD)), some (true, dS us0), y5, some (false, .int (-1)), none], g⟩ = .nx ⟨[some (false, M1), some (false, M2), some (false, pD b), some (false, .lst (cs.map pD)), some (true, dS us), x5, some (false, .int bf), none], g⟩ := e
    have e1 : forL (.nm 5) (ex K Γ (c_useful_b1 u2)) (cs.map pD) ⟨[some (false, M1), some (false, M2), some (false, pD b), some (false, .lst (cs.map pD)), some (true, .dct []), none, none, none], g⟩ = .nx ⟨[some (false, M1), some (false, M2), some (false, pD b), some (false, .lst (cs.map pD)), some (true, dS us0), y5, none, none], g⟩ := e1
    generalize cs.map pD = csD at e e1 ec
    unfold c_useful N_useful
    simp [h1, ec, e1, e]
end
end BF
set_option Elab.async false
set_option linter.all false
set_option autoImplicit false
set_option maxRecDepth 100000
set_option maxHeartbeats 1000000
namespace BF
open PySem PySem.Spec PyProof.Rows L2
/-! ## counted -/
def cD (c : Nat × Int) : D := .tup [.int c.1, .int c.2]
def ansD : Option (Nat × Int) → D
  | none => .non
  | some c => cD c
abbrev Kn := List (Pr × (Nat × Int))
def kv (l : Kn) (q : Pr) : Nat × Int := (lk l q).getD (0, 0)
def cval (go : Pr → List Pr) (f : Pr → Nat) (us : List Pr) (l : Kn) (p : Pr) : Nat × Int :=
  (f p + (((go p).filter fun q => decide (q ∈ us)).map fun q => (kv l q).1).sum, maxI (((f p : Int) - 1) :: ((go p).filter fun q => decide (q ∈ us)).map fun q => (kv l q).2 + 1))
/-- whether a place can be counted now -/
def cok (go : Pr → List Pr) (us : List Pr) (l : Kn) (p : Pr) : Bool := !decide (p ∈ l.map (·.1)) && ((go p).filter fun q => decide (q ∈ us)).all fun q => decide (q ∈ l.map (·.1))
theorem sum_cast (l : List Pr) (k : Pr → Nat) : (l.map fun q => (k q : Int)).sum = ((l.map k).sum : Nat) := by
  induction l with
  | nil => rfl
  | cons a l ih => simp [ih]
theorem intsOf_map' {α : Type} (l : List α) (k : α → Int) : intsOf (l.map fun q => D.int (k q)) = some (l.map k) := by
  have := intsOf_map (l.map k)
  simpa [List.map_map, Function.comp_def] using this
section
variable {G : Type} {K : Env1} {Γ : Gam G}
theorem cnt_goals {u : Nat} {x : Str} {m : Mir G} (h : Γ[u]? = some (x, .fn 3 m)) {M1 M2 : D} {go : Pr → List Pr} {P : Pr → Prop} (hm : SGo m M1 M2 go P) (gp : Gp go P) {p : Pr} (hp : P p) {us : List Pr} {x2 x4 x5 x7 x8 x9 : Option (Bool × D)} (g : G) :
    ex K Γ (.asg 7 (.lc1 c_counted_e1 (.nm 10) (.seq (.call u (.cons (.var 0) (.cons (.var 1) (.cons (.var 6) .nil))))) c_counted_t1 [10])) ⟨[some (false, M1), some (false, M2), x2, some (false, dS us), x4, x5, some (false, pD p), x7, x8, x9, none], g⟩
      = .nx ⟨[some (false, M1), some (false, M2), x2, some (false, dS us), x4, x5, some (false, pD p), some (true, .lst (((go p).filter fun q => decide (q ∈ us)).map pD)), x8, x9, none], g⟩ := by
  have hm := hm p g hp
  have sg := size_ge (n := (go p).length) (by have := gp.len p hp; omega)
  have lc : lcL (.nm 10) (ev K Γ c_counted_t1) (ev K Γ c_counted_e1) [10] ((go p).map pD) ⟨[some (false, M1), some (false, M2), x2, some (false, dS us), x4, x5, some (false, pD p), x7, x8, x9, none], g⟩ = .ok (((go p).filter fun q => decide (q ∈ us)).map pD) ⟨[some (false, M1), some (false, M2), x2, some (false, dS us), x4, x5, some (false, pD p), x7, x8, x9, none], g⟩ := by
    have := lcL_filter (t := .nm 10) (ft := ev K Γ c_counted_t1) (fe := ev K Γ c_counted_e1) (own := [10]) (fun d => match inO2 d (dS us) with
        | some (.vl (.bl z)) => z
        | _ => false) id (s0 := ⟨[some (false, M1), some (false, M2), x2, some (false, dS us), x4, x5, some (false, pD p), x7, x8, x9, none], g⟩) ((go p).map pD) fun d hd => by
      obtain ⟨r, _, rfl⟩ := List.mem_map.mp hd
      refine ⟨⟨[some (false, M1), some (false, M2), x2, some (false, dS us), x4, x5, some (false, pD p), x7, x8, x9, some (false, pD r)], g⟩, .vl (.bl (decide (r ∈ us))), ⟨[some (false, M1), some (false, M2), x2, some (false, dS us), x4, x5, some (false, pD p), x7, x8, x9, some (false, pD r)], g⟩, rfl, ?_, ?_, fun _ => rfl, fun _ => ⟨.pl 10, ⟨[some (false, M1), some (false, M2), x2, some (false, dS us), x4, x5, some (false, pD p), x7, x8, x9, some (false, pD r)], g⟩, ⟨[some (false, M1), some (false, M2), x2, some (false, dS us), x4, x5, some (false, pD p), x7, x8, x9, some (false, pD r)], g⟩, ?_, rfl, rfl⟩⟩
      · unfold c_counted_t1; simp
      · simp [tst, pk]
      · unfold c_counted_e1; simp
    rw [this, List.filter_map, List.map_map]
    congr 1
    have ef : (((fun d => match inO2 d (dS us) with
        | some (.vl (.bl z)) => z
        | _ => false) : D → Bool) ∘ pD) = fun q => decide (q ∈ us) := by
      funext q
      simp
    rw [ef]
    rfl
  generalize hgs : (go p).map pD = gs at hm lc
  have hgs' : gs.length = (go p).length := by rw [← hgs]; simp
  have sg2 : gs.length ≤ sizeLine := by rw [hgs']; exact sg
  simp [h, hm, sg2, lc]
theorem all_lc {M1 M2 : D} {x2 x3 x5 x6 x8 x9 : Option (Bool × D)} {l : Kn} {fs : List Pr} (g : G) (sl7 : Option (Bool × D)) : lcL (.nm 10) (evC (.bl true)) (ev K Γ c_counted_e2) [10] (fs.map pD) ⟨[some (false, M1), some (false, M2), x2, x3, some (true, dM cD l), x5, x6, sl7, x8, x9, none], g⟩ = .ok (fs.map fun q => .bl (decide (q ∈ l.map (·.1)))) ⟨[some (false, M1), some (false, M2), x2, x3, some (true, dM cD l), x5, x6, sl7, x8, x9, none], g⟩ := by
  have := lcL_mapN (fe := ev K Γ c_counted_e2) (i := 10) (s0 := ⟨[some (false, M1), some (false, M2), x2, x3, some (true, dM cD l), x5, x6, sl7, x8, x9, none], g⟩) (fun d => match inO2 d (dM cD l) with
    | some (.vl z) => z
    | _ => .non) rfl (fs.map pD) fun d hd => by
      obtain ⟨r, _, rfl⟩ := List.mem_map.mp hd
      unfold c_counted_e2
      simp
  rw [this, List.map_map]
  congr 1
  refine List.map_congr_left fun r _ => ?_
  simp
theorem sum_lc {M1 M2 : D} {x2 x3 x5 x6 x8 x9 : Option (Bool × D)} {l : Kn} {fs : List Pr} (hf : ∀ q ∈ fs, q ∈ l.map (·.1)) (g : G) (sl7 : Option (Bool × D)) : lcL (.nm 10) (evC (.bl true)) (ev K Γ c_counted_e3) [10] (fs.map pD) ⟨[some (false, M1), some (false, M2), x2, x3, some (true, dM cD l), x5, x6, sl7, x8, x9, none], g⟩ = .ok (fs.map fun q => .int (kv l q).1) ⟨[some (false, M1), some (false, M2), x2, x3, some (true, dM cD l), x5, x6, sl7, x8, x9, none], g⟩ := by
  have := lcL_mapN (fe := ev K Γ c_counted_e3) (i := 10) (s0 := ⟨[some (false, M1), some (false, M2), x2, x3, some (true, dM cD l), x5, x6, sl7, x8, x9, none], g⟩) (fun d => match ixO2 (dM cD l) d with
    | some (.vl (.tup [z, _])) => z
    | _ => .non) rfl (fs.map pD) fun d hd => by
      obtain ⟨r, hr, rfl⟩ := List.mem_map.mp hd
      have hs : (lk l r).isSome = true := by rw [lk_isSome]; exact decide_eq_true (hf r hr)
      obtain ⟨c, hc⟩ := Option.isSome_iff_exists.mp hs
      unfold c_counted_e3
      simp [hc, cD]
  rw [this, List.map_map]
  congr 1
  refine List.map_congr_left fun r hr => ?_
  have hs : (lk l r).isSome = true := by rw [lk_isSome]; exact decide_eq_true (hf r hr)
  obtain ⟨c, hc⟩ := Option.isSome_iff_exists.mp hs
  simp [hc, kv, cD]
theorem max_lc {M1 M2 : D} {x2 x3 x5 x6 x8 x9 : Option (Bool × D)} {l : Kn} {fs : List Pr} (hf : ∀ q ∈ fs, q ∈ l.map (·.1)) (g : G) (sl7 : Option (Bool × D)) : lcL (.nm 10) (evC (.bl true)) (ev K Γ c_counted_e4) [10] (fs.map pD) ⟨[some (false, M1), some (false, M2), x2, x3, some (true, dM cD l), x5, x6, sl7, x8, x9, none], g⟩ = .ok (fs.map fun q => .int ((kv l q).2 + 1)) ⟨[some (false, M1), some (false, M2), x2, x3, some (true, dM cD l), x5, x6, sl7, x8, x9, none], g⟩ := by
  have := lcL_mapN (fe := ev K Γ c_counted_e4) (i := 10) (s0 := ⟨[some (false, M1), some (false, M2), x2, x3, some (true, dM cD l), x5, x6, sl7, x8, x9, none], g⟩) (fun d => match ixO2 (dM cD l) d with
    | some (.vl (.tup [_, .int z])) => .int (z + 1)
    | _ => .non) rfl (fs.map pD) fun d hd => by
      obtain ⟨r, hr, rfl⟩ := List.mem_map.mp hd
      have hs : (lk l r).isSome = true := by rw [lk_isSome]; exact decide_eq_true (hf r hr)
      obtain ⟨c, hc⟩ := Option.isSome_iff_exists.mp hs
      unfold c_counted_e4
      simp [hc, cD]
  rw [this, List.map_map]
  congr 1
  refine List.map_congr_left fun r hr => ?_
  have hs : (lk l r).isSome = true := by rw [lk_isSome]; exact decide_eq_true (hf r hr)
  obtain ⟨c, hc⟩ := Option.isSome_iff_exists.mp hs
  simp [hc, kv, cD]
def c_cblk (u : Nat) : Cs := (.cons (.asg 8 (.ife (.call u (.cons (.var 0) (.cons (.var 1) (.cons (.var 6) .nil)))) (.cst (.int 1)) (.cst (.int 0))))
  (.cons (.asg 9 (.bin .add (.var 8) (.blt .sum (.cons (.lc0 c_counted_e3 (.nm 10) (.seq (.var 7)) [10]) .nil))))
  (.cons (.store 4 (.var 6) (.tup (.cons (.var 9) (.cons (.blt .max (.cons (.bin .add (.lst (.cons (.bin .sub (.var 8) (.cst (.int 1))) .nil)) (.lc0 c_counted_e4 (.nm 10) (.seq (.var 7)) [10])) .nil)) .nil))))
  (.cons (.asg 5 (.cst (.bl true)))
  .nil))))
theorem cnt_blk {u2 : Nat} {x2' : Str} {m2 : Mir G} (h2 : Γ[u2]? = some (x2', .fn 3 m2)) {M1 M2 : D} {go : Pr → List Pr} {f : Pr → Nat} (hu : SUn m2 M1 M2 f) (hf1 : ∀ p, f p ≤ 1) {p : Pr} {us : List Pr} {l : Kn} (hfl : ((go p).filter fun q => decide (q ∈ us)).length ≤ 3) (hin : ∀ q ∈ (go p).filter fun q => decide (q ∈ us), q ∈ l.map (·.1)) (hl : l.length ≤ 200) {x2 x3 x5 x8 x9 : Option (Bool × D)} (g : G) :
    ex K Γ (c_cblk u2) ⟨[some (false, M1), some (false, M2), x2, x3, some (true, dM cD l), x5, some (false, pD p), some (false, .lst (((go p).filter fun q => decide (q ∈ us)).map pD)), x8, x9, none], g⟩ = .nx ⟨[some (false, M1), some (false, M2), x2, x3, some (true, dM cD (pt l p (cval go f us l p))), some (false, .bl true), some (false, pD p), some (false, .lst (((go p).filter fun q => decide (q ∈ us)).map pD)), some (false, .int (f p)), some (false, .int (cval go f us l p).1), none], g⟩ := by
  have hu := hu p g
  have f1 := hf1 p
  have ef : (if 0 < f p then (1 : Int) else 0) = (f p : Int) := by split <;> omega
  have sl := sum_lc (K := K) (Γ := Γ) (M1 := M1) (M2 := M2) (x2 := x2) (x3 := x3) (x5 := x5) (x6 := some (false, pD p)) (x8 := some (false, .int (f p))) (x9 := x9) (l := l) hin g
  have ml := max_lc (K := K) (Γ := Γ) (M1 := M1) (M2 := M2) (x2 := x2) (x3 := x3) (x5 := x5) (x6 := some (false, pD p)) (x8 := some (false, .int (f p))) (x9 := some (false, .int (cval go f us l p).1)) (l := l) hin g
  have i1 := intsOf_map' ((go p).filter fun q => decide (q ∈ us)) fun q => ((kv l q).1 : Int)
  have i2 := intsOf_map' ((go p).filter fun q => decide (q ∈ us)) fun q => (kv l q).2 + 1
  have s1 : (((go p).filter fun q => decide (q ∈ us)).map fun q => ((kv l q).1 : Int)).sum = ((((go p).filter fun q => decide (q ∈ us)).map fun q => (kv l q).1).sum : Nat) := sum_cast _ _
  have cv1 : ((cval go f us l p).1 : Int) = (f p : Int) + ((((go p).filter fun q => decide (q ∈ us)).map fun q => (kv l q).1).sum : Nat) := by simp [cval]
  have cv2 : (cval go f us l p).2 = maxI (((f p : Int) - 1) :: ((go p).filter fun q => decide (q ∈ us)).map fun q => (kv l q).2 + 1) := rfl
  have sg := size_ge (n := (((go p).filter fun q => decide (q ∈ us)).map pD).length) (by simp; omega)
  have sg2 := size_ge (n := 1 + (((go p).filter fun q => decide (q ∈ us)).map fun q => D.int ((kv l q).2 + 1)).length) (by simp; omega)
  have st := stO_pD cD l p (cval go f us l p) (sz64 (by omega))
  have st' : stO (dM cD l) (pD p) (.tup [.int (cval go f us l p).1, .int (cval go f us l p).2]) = some (dM cD (pt l p (cval go f us l p))) := st
  rw [s1.symm] at cv1
  generalize (((go p).filter fun q => decide (q ∈ us)).map fun q => D.int (kv l q).1) = ts at sl i1
  generalize (((go p).filter fun q => decide (q ∈ us)).map fun q => D.int ((kv l q).2 + 1)) = ms at ml i2 sg2
  generalize (((go p).filter fun q => decide (q ∈ us)).map fun q => ((kv l q).1 : Int)) = tz at i1 cv1
  generalize (((go p).filter fun q => decide (q ∈ us)).map fun q => (kv l q).2 + 1) = mz at i2 cv2
  generalize ((go p).filter fun q => decide (q ∈ us)).map pD = fs at sl ml sg
  generalize cval go f us l p = cv at *
  generalize pt l p cv = l' at *
  unfold c_cblk
  refine (seq_nx (st1 := ⟨[some (false, M1), some (false, M2), x2, x3, some (true, dM cD l), x5, some (false, pD p), some (false, .lst fs), some (false, .int (f p)), x9, none], g⟩) ?_).trans ?_
  · by_cases c : 0 < f p
    · have : (f p : Int) = 1 := by omega
      simp [h2, hu, c, this]
    · have : (f p : Int) = 0 := by omega
      simp [h2, hu, c, this]
  refine (seq_nx (st1 := ⟨[some (false, M1), some (false, M2), x2, x3, some (true, dM cD l), x5, some (false, pD p), some (false, .lst fs), some (false, .int (f p)), some (false, .int cv.1), none], g⟩) ?_).trans ?_
  · simp [sg, sl, sumO, i1, cv1]
  refine (seq_nx (st1 := ⟨[some (false, M1), some (false, M2), x2, x3, some (true, dM cD l'), x5, some (false, pD p), some (false, .lst fs), some (false, .int (f p)), some (false, .int cv.1), none], g⟩) ?_).trans ?_
  · simp [sg, ml, sg2, maxO, intsOf, i2, ← cv2, st']
  · simp
theorem cnt_turn {u1 u2 : Nat} {x1 x2' : Str} {m1 m2 : Mir G} (h1 : Γ[u1]? = some (x1, .fn 3 m1)) (h2 : Γ[u2]? = some (x2', .fn 3 m2)) {M1 M2 : D} {go : Pr → List Pr} {f : Pr → Nat} {P : Pr → Prop} (hg : SGo m1 M1 M2 go P) (hu : SUn m2 M1 M2 f) (hf1 : ∀ p, f p ≤ 1) (gp : Gp go P) {p : Pr} (hp : P p) {us : List Pr} {l : Kn} (hl : l.length ≤ 200) {x2 x7 x8 x9 : Option (Bool × D)} {ch : Bool} (g : G) :
    ∃ y7 y8 y9, ex K Γ (c_counted_b1 u1 u2) ⟨[some (false, M1), some (false, M2), x2, some (false, dS us), some (true, dM cD l), some (false, .bl ch), some (false, pD p), x7, x8, x9, none], g⟩
      = .nx ⟨[some (false, M1), some (false, M2), x2, some (false, dS us), some (true, dM cD (if cok go us l p = true then pt l p (cval go f us l p) else l)), some (false, .bl (ch || cok go us l p)), some (false, pD p), y7, y8, y9, none], g⟩ := by
  have e0 := cnt_goals (K := K) h1 hg gp hp (us := us) (x2 := x2) (x4 := some (true, dM cD l)) (x5 := some (false, .bl ch)) (x7 := x7) (x8 := x8) (x9 := x9) g
  have hfl : ((go p).filter fun q => decide (q ∈ us)).length ≤ 3 := Nat.le_trans (List.length_filter_le _ _) (gp.len p hp)
  unfold c_counted_b1
  by_cases c1 : p ∈ l.map (·.1)
  · have ck : cok go us l p = false := by unfold cok; simp [c1]
    refine ⟨some (true, .lst (((go p).filter fun q => decide (q ∈ us)).map pD)), x8, x9, (seq_nx e0).trans ?_⟩
    rw [ck]
    generalize ((go p).filter fun q => decide (q ∈ us)).map pD = fs
    have c2 : decide (p ∈ l.map (·.1)) = true := decide_eq_true c1
    simp only [Bool.false_eq_true, if_false, Bool.or_false]
    have nn := ninO2_pD cD l p
    rw [c2] at nn
    simp [nn]
  · have c2 : decide (p ∈ l.map (·.1)) = false := decide_eq_false c1
    have nn := ninO2_pD cD l p
    rw [c2] at nn
    have al := all_lc (K := K) (Γ := Γ) (M1 := M1) (M2 := M2) (x2 := x2) (x3 := some (false, dS us)) (x5 := some (false, .bl ch)) (x6 := some (false, pD p)) (x8 := x8) (x9 := x9) (l := l) (fs := (go p).filter fun q => decide (q ∈ us)) g
    have ab := map_any ((go p).filter fun q => decide (q ∈ us)) fun r => decide (r ∈ l.map (·.1))
    have ea : (((go p).filter fun q => decide (q ∈ us)).map fun r => decide (r ∈ l.map (·.1))).all id = ((go p).filter fun q => decide (q ∈ us)).all fun r => decide (r ∈ l.map (·.1)) := by rw [List.all_map]; rfl
    have sg := size_ge (n := (((go p).filter fun q => decide (q ∈ us)).map pD).length) (by simp; omega)
    by_cases c3 : (((go p).filter fun q => decide (q ∈ us)).all fun r => decide (r ∈ l.map (·.1))) = true
    · have ck : cok go us l p = true := by unfold cok; rw [c2, c3]; rfl
      have hin : ∀ q ∈ (go p).filter fun q => decide (q ∈ us), q ∈ l.map (·.1) := fun q hq => of_decide_eq_true (List.all_eq_true.mp c3 q hq)
      have eb := cnt_blk (K := K) h2 hu hf1 hfl hin hl (x2 := x2) (x3 := some (false, dS us)) (x5 := some (false, .bl ch)) (x8 := x8) (x9 := x9) g
      refine ⟨some (false, .lst (((go p).filter fun q => decide (q ∈ us)).map pD)), some (false, .int (f p)), some (false, .int (cval go f us l p).1), (seq_nx e0).trans ?_⟩
      rw [ck]
      rw [c3] at ea
      simp only [if_true, Bool.or_true]
      generalize (((go p).filter fun q => decide (q ∈ us)).map fun r => D.bl (decide (r ∈ l.map (·.1)))) = bs at al ab
      generalize (((go p).filter fun q => decide (q ∈ us)).map fun r => decide (r ∈ l.map (·.1))) = bb at ab ea
      have eb : ex K Γ (c_cblk u2) ⟨[some (false, M1), some (false, M2), x2, some (false, dS us), some (true, dM cD l), some (false, .bl ch), some (false, pD p), some (false, .lst (((go p).filter fun q => decide (q ∈ us)).map pD)), x8, x9, none], g⟩ = .nx ⟨[some (false, M1), some (false, M2), x2, some (false, dS us), some (true, dM cD (pt l p (cval go f us l p))), some (false, .bl true), some (false, pD p), some (false, .lst (((go p).filter fun q => decide (q ∈ us)).map pD)), some (false, .int (f p)), some (false, .int (cval go f us l p).1), none], g⟩ := eb
      generalize ((go p).filter fun q => decide (q ∈ us)).map pD = fs at al sg eb
      show ex K Γ (.cons (.ife (.bop true (.cons (.cmp .nin (.var 6) (.var 4)) (.cons (.blt .all (.cons (.lc0 c_counted_e2 (.nm 10) (.seq (.var 7)) [10]) .nil)) .nil))) (c_cblk u2) .nil) .nil) _ = _
      generalize c_cblk u2 = blk at eb
      simp [nn, sg, al, allO, ab, ea, eb]
    · have c4 : (((go p).filter fun q => decide (q ∈ us)).all fun r => decide (r ∈ l.map (·.1))) = false := by simpa using c3
      have ck : cok go us l p = false := by unfold cok; rw [c4, Bool.and_false]
      rw [ck]
      rw [c4] at ea
      refine ⟨some (false, .lst (((go p).filter fun q => decide (q ∈ us)).map pD)), x8, x9, (seq_nx e0).trans ?_⟩
      simp only [Bool.false_eq_true, if_false, Bool.or_false]
      generalize (((go p).filter fun q => decide (q ∈ us)).map fun r => D.bl (decide (r ∈ l.map (·.1)))) = bs at al ab
      generalize (((go p).filter fun q => decide (q ∈ us)).map fun r => decide (r ∈ l.map (·.1))) = bb at ab ea
      generalize ((go p).filter fun q => decide (q ∈ us)).map pD = fs at al sg
      simp [nn, sg, al, allO, ab, ea]
/-- one pass -/
def cpass (go : Pr → List Pr) (f : Pr → Nat) (us : List Pr) : Kn → Bool → List Pr → Kn × Bool
  | l, ch, [] => (l, ch)
  | l, ch, p :: ps => cpass go f us (if cok go us l p = true then pt l p (cval go f us l p) else l) (ch || cok go us l p) ps
/-- what holds of what is counted -/
structure KnOk (go : Pr → List Pr) (f : Pr → Nat) (us : List Pr) (l : Kn) : Prop where
  nd : (l.map (·.1)).Nodup
  sub : ∀ p ∈ l.map (·.1), p ∈ us
  val : ∀ p c, lk l p = some c → Gr.Cn go f p c.1 c.2
theorem maxI_spec {x : Int} {l : List Int} : maxI (x :: l) ∈ x :: l ∧ ∀ y ∈ x :: l, y ≤ maxI (x :: l) := maxI_mem (by simp)
theorem KnOk.step {go : Pr → List Pr} {f : Pr → Nat} {P : Pr → Prop} {b : Pr} {us : List Pr} {l : Kn} (hf1 : ∀ p, f p ≤ 1) (U : UsOk go f P b us) (h : KnOk go f us l) {p : Pr} (hp : p ∈ us) (hc : cok go us l p = true) : KnOk go f us (pt l p (cval go f us l p)) ∧ (pt l p (cval go f us l p)).length = l.length + 1 := by
  unfold cok at hc
  obtain ⟨h1, h2⟩ := Bool.and_eq_true_iff.mp hc
  have h1 : p ∉ l.map (·.1) := by simpa using h1
  refine ⟨⟨pt_nodup h.nd, fun q hq => ?_, fun q c hq => ?_⟩, by rw [pt_new h1]; simp⟩
  · rw [pt_keys, if_neg h1] at hq
    rcases List.mem_append.mp hq with z | z
    · exact h.sub q z
    · rw [List.mem_singleton.mp z]; exact hp
  · rw [lk_pt] at hq
    by_cases e : q = p
    · rw [if_pos e] at hq
      cases hq
      subst e
      obtain ⟨m1, m2⟩ := maxI_spec (x := (f q : Int) - 1) (l := ((go q).filter fun z => decide (z ∈ us)).map fun z => (kv l z).2 + 1)
      refine Gr.Cn.step go f (hf1 q) (fun z hz hn n => ?_) (fun z hz hu => U.pos z (of_decide_eq_true hu)) (fun z hz => ?_) m1 m2
      · apply Nat.eq_zero_of_not_pos
        intro hpos
        have := U.all z ((U.rc q hp).step _ hz) ⟨n, hpos⟩
        simp [this] at hn
      · have hs : (lk l z).isSome = true := by rw [lk_isSome]; exact List.all_eq_true.mp h2 z hz
        obtain ⟨c, hc⟩ := Option.isSome_iff_exists.mp hs
        have := h.val z c hc
        unfold kv
        rw [hc]
        exact this
    · rw [if_neg e] at hq
      exact h.val q c hq
theorem cpass_ok {go : Pr → List Pr} {f : Pr → Nat} {P : Pr → Prop} {b : Pr} {us : List Pr} (hf1 : ∀ p, f p ≤ 1) (U : UsOk go f P b us) : ∀ (ps : List Pr) {l : Kn} {ch : Bool}, KnOk go f us l → (∀ p ∈ ps, p ∈ us) → KnOk go f us (cpass go f us l ch ps).1 ∧ l.length ≤ (cpass go f us l ch ps).1.length ∧ (ch = false → (cpass go f us l ch ps).2 = true → l.length < (cpass go f us l ch ps).1.length) ∧ ((cpass go f us l ch ps).2 = false → (cpass go f us l ch ps).1 = l ∧ ∀ p ∈ ps, cok go us l p = false) := by
  intro ps
  induction ps with
  | nil => intro l ch h _; exact ⟨h, Nat.le_refl _, (fun z y => by rw [z] at y; cases y), fun _ => ⟨rfl, fun p hp => by cases hp⟩⟩
  | cons q ps ih =>
    intro l ch h hs
    rw [cpass]
    by_cases c : cok go us l q = true
    · obtain ⟨k1, k2⟩ := h.step hf1 U (hs q List.mem_cons_self) c
      rw [if_pos c, c, Bool.or_true]
      obtain ⟨j1, j2, _, j4⟩ := ih (ch := true) k1 fun p hp => hs p (List.mem_cons_of_mem _ hp)
      refine ⟨j1, by omega, fun _ _ => by omega, fun z => ?_⟩
      obtain ⟨e, _⟩ := j4 z
      exfalso
      have key : ∀ (ps : List Pr) (l : Kn), (cpass go f us l true ps).2 = true := by
        intro ps
        induction ps with
        | nil => intro l; rfl
        | cons a ps ih => intro l; rw [cpass, Bool.true_or]; exact ih _
      rw [key] at z
      cases z
    · have c' : cok go us l q = false := by simpa using c
      rw [if_neg c, c', Bool.or_false]
      obtain ⟨j1, j2, j3, j4⟩ := ih (ch := ch) h fun p hp => hs p (List.mem_cons_of_mem _ hp)
      refine ⟨j1, j2, j3, fun z => ?_⟩
      obtain ⟨e1, e2⟩ := j4 z
      refine ⟨e1, fun p hp => ?_⟩
      rcases List.mem_cons.mp hp with rfl | hp
      · exact c'
      · exact e2 p hp
theorem cnt_pass {u1 u2 : Nat} {x1 x2' : Str} {m1 m2 : Mir G} (h1 : Γ[u1]? = some (x1, .fn 3 m1)) (h2 : Γ[u2]? = some (x2', .fn 3 m2)) {M1 M2 : D} {go : Pr → List Pr} {f : Pr → Nat} {P : Pr → Prop} (hg : SGo m1 M1 M2 go P) (hu : SUn m2 M1 M2 f) (hf1 : ∀ p, f p ≤ 1) (gp : Gp go P) {us : List Pr} {x2 : Option (Bool × D)} (g : G) : ∀ (ps : List Pr) (l : Kn) (ch : Bool) (x6 x7 x8 x9 : Option (Bool × D)), (∀ p ∈ ps, P p) → l.length + ps.length ≤ 200 →
    ∃ y6 y7 y8 y9, forL (.nm 6) (ex K Γ (c_counted_b1 u1 u2)) (ps.map pD) ⟨[some (false, M1), some (false, M2), x2, some (false, dS us), some (true, dM cD l), some (false, .bl ch), x6, x7, x8, x9, none], g⟩
      = .nx ⟨[some (false, M1), some (false, M2), x2, some (false, dS us), some (true, dM cD (cpass go f us l ch ps).1), some (false, .bl (cpass go f us l ch ps).2), y6, y7, y8, y9, none], g⟩ := by
  intro ps
  induction ps with
  | nil => intro l ch x6 x7 x8 x9 _ _; exact ⟨x6, x7, x8, x9, rfl⟩
  | cons q ps ih =>
    intro l ch x6 x7 x8 x9 hP hl
    simp only [List.length_cons] at hl
    obtain ⟨y7, y8, y9, e⟩ := cnt_turn (K := K) h1 h2 hg hu hf1 gp (hP q List.mem_cons_self) (us := us) (l := l) (by omega) (x2 := x2) (x7 := x7) (x8 := x8) (x9 := x9) (ch := ch) g
    have hl' : (if cok go us l q = true then pt l q (cval go f us l q) else l).length ≤ l.length + 1 := by
      split
      · have := congrArg List.length (pt_keys l q (cval go f us l q))
        rw [List.length_map] at this
        rw [this]
        split <;> simp
      · omega
    obtain ⟨z6, z7, z8, z9, e'⟩ := ih (if cok go us l q = true then pt l q (cval go f us l q) else l) (ch || cok go us l q) (some (false, pD q)) y7 y8 y9 (fun p hp => hP p (List.mem_cons_of_mem _ hp)) (by omega)
    exact ⟨z6, z7, z8, z9, forL_cons (s1 := ⟨[some (false, M1), some (false, M2), x2, some (false, dS us), some (true, dM cD l), some (false, .bl ch), some (false, pD q), x7, x8, x9, none], g⟩) rfl e e'⟩
def SCnt (m : Mir G) (M1 M2 : D) (go : Pr → List Pr) (f : Pr → Nat) (P : Pr → Prop) : Prop := ∀ (b : Pr) (g : G), P b → ∃ r, m [M1, M2, pD b] g = .ok (ansD r) g ∧ Gr.Ans go f b r
theorem s_counted {u1 u2 u3 : Nat} {x1 x2 x3 : Str} {m1 m2 m3 : Mir G} (h1 : Γ[u1]? = some (x1, .fn 3 m1)) (h2 : Γ[u2]? = some (x2, .fn 3 m2)) (h3 : Γ[u3]? = some (x3, .fn 3 m3)) {M1 M2 : D} {go : Pr → List Pr} {f : Pr → Nat} {P : Pr → Prop} (hus : SUs m1 M1 M2 go f P) (hg : SGo m2 M1 M2 go P) (hu : SUn m3 M1 M2 f) (hf1 : ∀ p, f p ≤ 1) (gp : Gp go P) :
    SCnt (runF N_counted.length (ex K Γ (c_counted u1 u2 u3))) M1 M2 go f P := by
  intro b g hb
  obtain ⟨us, eu, U⟩ := hus b g hb
  have u64 := gp.fin us U.nd U.inn
  let st (l : Kn) (ch : Bool) (x6 x7 x8 x9 : Option (Bool × D)) : Sg G := ⟨[some (false, M1), some (false, M2), some (false, pD b), some (false, dS us), some (true, dM cD l), some (false, .bl ch), x6, x7, x8, x9, none], g⟩
  have klen : ∀ {l : Kn}, KnOk go f us l → l.length ≤ us.length := fun {l} h => by
    have := Gr.nodup_le h.nd h.sub
    simpa using this
  let mu (s : Sg G) : Nat := (match s.sl[4]? with
      | some (some (_, c)) => (match lenO2 c with
        | some (.vl (.int i)) => 2 * (100 - i.toNat)
        | _ => 0)
      | _ => 0) + (match s.sl[5]? with
      | some (some (_, D.bl true)) => 1
      | _ => 0)
  have mu_st : ∀ l ch x6 x7 x8 x9, mu (st l ch x6 x7 x8 x9) = 2 * (100 - l.length) + (if ch = true then 1 else 0) := fun l ch x6 x7 x8 x9 => by
    show (match lenO2 (dM cD l) with
        | some (.vl (.int i)) => 2 * (100 - i.toNat)
        | _ => 0) + _ = _
    rw [lenO2_dM]
    cases ch <;> simp [st]
  refine Exists.elim (whL_ind (c := ev K Γ c_counted_w1) (body := ex K Γ (c_counted_b2 u2 u3))
    (fun s => ∃ l ch x6 x7 x8 x9, s = st l ch x6 x7 x8 x9 ∧ KnOk go f us l ∧ (ch = false → ∀ p ∈ us, cok go us l p = false))
    (fun s => ∃ l x6 x7 x8 x9, s = st l false x6 x7 x8 x9 ∧ KnOk go f us l ∧ ∀ p ∈ us, cok go us l p = false)
    mu ?_ 1000 (st [] true none none none none) (by rw [mu_st]; simp) ⟨[], true, none, none, none, none, rfl, ⟨by simp, by simp, fun p c z => by cases z⟩, fun z => by cases z⟩) fun s' ⟨e, l, x6, x7, x8, x9, es, ok, cl⟩ => ?_
  · rintro _ ⟨l, ch, x6, x7, x8, x9, rfl, ok, cl⟩
    have hl := klen ok
    cases ch with
    | false => exact ⟨.pl 5, st l false x6 x7 x8 x9, by unfold c_counted_w1; simp [st], .inl ⟨by simp [tst, st], l, x6, x7, x8, x9, rfl, ok, cl rfl⟩⟩
    | true =>
      refine ⟨.pl 5, st l true x6 x7 x8 x9, by unfold c_counted_w1; simp [st], .inr ⟨by simp [tst, st], ?_⟩⟩
      obtain ⟨z6, z7, z8, z9, ez⟩ := cnt_pass (K := K) h2 h3 hg hu hf1 gp (us := us) (x2 := some (false, pD b)) g us l false x6 x7 x8 x9 U.inn (by omega)
      obtain ⟨j1, j2, j3, j4⟩ := cpass_ok hf1 U us (ch := false) ok fun p hp => hp
      refine ⟨st (cpass go f us l false us).1 (cpass go f us l false us).2 z6 z7 z8 z9, ?_, ⟨_, _, _, _, _, _, rfl, j1, fun z => ?_⟩, ?_⟩
      · generalize cpass go f us l false us = cp at ez
        have ez : forL (.nm 6) (ex K Γ (c_counted_b1 u2 u3)) (us.map pD) ⟨[some (false, M1), some (false, M2), some (false, pD b), some (false, dS us), some (true, dM cD l), some (false, .bl false), x6, x7, x8, x9, none], g⟩ = .nx ⟨[some (false, M1), some (false, M2), some (false, pD b), some (false, dS us), some (true, dM cD cp.1), some (false, .bl cp.2), z6, z7, z8, z9, none], g⟩ := ez
        show ex K Γ (c_counted_b2 u2 u3) ⟨[some (false, M1), some (false, M2), some (false, pD b), some (false, dS us), some (true, dM cD l), some (false, .bl true), x6, x7, x8, x9, none], g⟩ = .nx ⟨[some (false, M1), some (false, M2), some (false, pD b), some (false, dS us), some (true, dM cD cp.1), some (false, .bl cp.2), z6, z7, z8, z9, none], g⟩
        have sq := seqO_dS us
        generalize us.map pD = usD at ez sq
        unfold c_counted_b2
        simp [sq, ez]
      · obtain ⟨e1, e2⟩ := j4 z
        rw [e1]
        exact e2
      · rw [mu_st, mu_st]
        have h64 := klen j1
        cases q : (cpass go f us l false us).2 with
        | false =>
          obtain ⟨e1, _⟩ := j4 q
          rw [e1]
          simp
        | true =>
          have := j3 rfl q
          simp
          omega
  · have hl := klen ok
    have e : whL (ev K Γ c_counted_w1) (ex K Γ (c_counted_b2 u2 u3)) 1000 ⟨[some (false, M1), some (false, M2), some (false, pD b), some (false, dS us), some (true, .dct []), some (false, .bl true), none, none, none, none, none], g⟩ = .nx (st l false x6 x7 x8 x9) := by rw [← es]; exact e
    have e : whL (ev K Γ c_counted_w1) (ex K Γ (c_counted_b2 u2 u3)) 1000 ⟨[some (false, M1), some (false, M2), some (false, pD b), some (false, dS us), some (true, .dct []), some (false, .bl true), none, none, none, none, none], g⟩ = .nx ⟨[some (false, M1), some (false, M2), some (false, pD b), some (false, dS us), some (true, dM cD l), some (false, .bl false), x6, x7, x8, x9, none], g⟩ := e
    by_cases c : l.length < us.length
    · refine ⟨none, ?_, ?_⟩
      · unfold c_counted N_counted
        simp [h1, eu, e, c, ansD]
      · obtain ⟨p, hp, hn⟩ : ∃ p ∈ us, p ∉ l.map (·.1) := by
          apply Classical.byContradiction
          intro z
          have : ∀ p ∈ us, p ∈ l.map (·.1) := fun p hp => Classical.byContradiction fun y => z ⟨p, hp, y⟩
          have := Gr.nodup_le U.nd this
          rw [List.length_map] at this
          omega
        refine Gr.inf_of_rc go f (U.rc p hp) (Gr.inf_of_set go f (S := fun p => p ∈ us ∧ p ∉ l.map (·.1)) (fun p hp => ?_) (fun p hp => U.pos p hp.1) p ⟨hp, hn⟩)
        have hc := cl p hp.1
        unfold cok at hc
        have d : decide (p ∈ l.map (·.1)) = false := decide_eq_false hp.2
        rw [d, Bool.not_false, Bool.true_and] at hc
        obtain ⟨q, hq, hd⟩ := List.all_eq_false.mp hc
        obtain ⟨q1, q2⟩ := List.mem_filter.mp hq
        exact ⟨q, q1, of_decide_eq_true q2, by simpa using hd⟩
    · have all : ∀ p ∈ us, p ∈ l.map (·.1) := Gr.nodup_eq ok.nd U.nd ok.sub (by simp; omega)
      have run : runF N_counted.length (ex K Γ (c_counted u1 u2 u3)) [M1, M2, pD b] g = .ok (((lk l b).map cD).getD (.tup [.int 0, .int (-1)])) g := by
        unfold c_counted N_counted
        simp [h1, eu, e, c]
      rw [run]
      by_cases hbu : b ∈ us
      · have hs : (lk l b).isSome = true := by rw [lk_isSome]; exact decide_eq_true (all b hbu)
        obtain ⟨cv, hc⟩ := Option.isSome_iff_exists.mp hs
        refine ⟨some cv, by rw [hc]; rfl, ?_⟩
        exact ok.val b cv hc
      · have hs : lk l b = none := by
          cases q : lk l b with
          | none => rfl
          | some cv =>
            have : (lk l b).isSome = true := by rw [q]; rfl
            rw [lk_isSome] at this
            exact (hbu (ok.sub b (of_decide_eq_true this))).elim
        refine ⟨some (0, -1), by rw [hs]; rfl, Gr.cn_zero go f fun n => ?_⟩
        apply Nat.eq_zero_of_not_pos
        intro hp
        exact hbu (U.all b (Gr.Rc.refl _ _) ⟨n, hp⟩)
end
end BF
set_option Elab.async false
set_option linter.all false
set_option autoImplicit false
set_option maxRecDepth 100000
set_option maxHeartbeats 1000000
namespace BF
open PySem PySem.Spec PyProof.Rows L2
/-! ## the laws' own counts -/
section
variable {G : Type} {K : Env1} {Γ : Gam G}
theorem ex_for {t : Tg} {it : Ci} {b : Cs} {s s1 : Sg G} {ds : List D} (h : evI K Γ it s = .ok ds s1) : ex K Γ (.for_ t it b) s = forL t (ex K Γ b) ds s1 := by
  show exFor t (evI K Γ it) (ex K Γ b) s = _
  unfold exFor
  rw [h]
def ceZip (i : Nat) : Ci := .zip false (.ix (.ix (.var 0) (.cst (.int 0))) (.ix (.var i) (.cst (.int 0)))) (.ix (.ix (.var 1) (.cst (.int 0))) (.ix (.var i) (.cst (.int 1))))
def ceUn (i : Nat) : Ce := .cmp .ne (.cmp .isin (.ix (.var i) (.cst (.int 0))) (.ix (.var 0) (.cst (.int 1)))) (.cmp .isin (.ix (.var i) (.cst (.int 1))) (.ix (.var 1) (.cst (.int 1))))
/-- what the places ahead are, as they are read in a def -/
def EZ (K : Env1) (Γ : Gam G) (M1 M2 : D) (go : Pr → List Pr) (P : Pr → Prop) : Prop := ∀ (i : Nat) (s : Sg G) (p : Pr), s.sl[0]? = some (some (false, M1)) → s.sl[1]? = some (some (false, M2)) → s.sl[i]? = some (some (false, pD p)) → P p → evI K Γ (ceZip i) s = .ok ((go p).map pD) s
def EU (K : Env1) (Γ : Gam G) (M1 M2 : D) (f : Pr → Nat) : Prop := ∀ (i : Nat) (s : Sg G) (p : Pr), s.sl[0]? = some (some (false, M1)) → s.sl[1]? = some (some (false, M2)) → s.sl[i]? = some (some (false, pD p)) → ev K Γ (ceUn i) s = .ok (.vl (.bl (decide (0 < f p)))) s
theorem ez_parts {s1 s2 : List (List Nat)} {g1 g2 : List Nat} {L : Nat} (S1 : StOk s1 L) (S2 : StOk s2 L) : EZ K Γ (partsD s1 g1) (partsD s2 g2) (gl s1 s2) (inP s1 s2) := by
  intro i s p h0 h1 hp h
  have e1 := at_row h.1
  have e2 := at_row h.2
  unfold ceZip gl
  generalize s1.getD p.1 [] = r1 at e1 ⊢
  generalize s2.getD p.2 [] = r2 at e2 ⊢
  rw [pD_eq] at hp
  simp at e1 e2 h0 h1
  simp [h0, h1, hp, e1, e2, zipD_nats]
theorem eu_parts {s1 s2 : List (List Nat)} {g1 g2 : List Nat} : EU K Γ (partsD s1 g1) (partsD s2 g2) (un g1 g2) := by
  intro i s p h0 h1 hp
  unfold ceUn un
  rw [pD_eq] at hp
  have p1 := plain_nats 59 g1
  have p2 := plain_nats 59 g2
  have q1 := any_nat g1 p.1
  have q2 := any_nat g2 p.2
  simp at h0 h1
  simp [h0, h1, hp, inO, inB, p1, p2, q1, q2, neO, eqB]
  by_cases c : (p.1 ∈ g1) = (p.2 ∈ g2)
  · simp [c]
  · have c' : ¬ (p.1 ∈ g1 ↔ p.2 ∈ g2) := fun z => c (propext z)
    simp [c']
/-! ### _law_pairs -/
theorem lp_turn {kn : List Pr} {sk : List D} {q : Pr} {x0 x1 x2 x5 : Option (Bool × D)} (g : G) (hk : kn.length < sizeLine) (hl : sk.length < sizeLine) :
    ex K Γ c__law_pairs_b1 ⟨[x0, x1, x2, some (true, dS kn), some (true, .lst sk), x5, some (false, pD q)], g⟩ = .nx ⟨[x0, x1, x2, some (true, dS (ad kn q)), some (true, .lst (if q ∈ kn then sk else sk ++ [pD q])), x5, some (false, pD q)], g⟩ := by
  unfold c__law_pairs_b1
  by_cases c : q ∈ kn
  · have : ad kn q = kn := by unfold ad; rw [if_pos c]
    rw [this]
    simp [c]
  · simp [c, hk, hl]
theorem lp_inner {x0 x1 x2 x5 : Option (Bool × D)} (g : G) : ∀ (gs kn sk : List Pr) (x6 : Option (Bool × D)), kn.length + gs.length ≤ 1000 → sk.length + gs.length ≤ 1000 →
    ∃ t y6, ads kn gs = kn ++ t ∧ forL (.nm 6) (ex K Γ c__law_pairs_b1) (gs.map pD) ⟨[x0, x1, x2, some (true, dS kn), some (true, .lst (sk.map pD)), x5, x6], g⟩ = .nx ⟨[x0, x1, x2, some (true, dS (ads kn gs)), some (true, .lst ((sk ++ t).map pD)), x5, y6], g⟩ := by
  intro gs
  induction gs with
  | nil => intro kn sk x6 _ _; exact ⟨[], x6, by simp [ads], by simp [ads, forL]⟩
  | cons q gs ih =>
    intro kn sk x6 h1 h2
    simp only [List.length_cons] at h1 h2
    have z1 := sz64 (n := kn.length) (by omega)
    have z2 := sz64 (n := sk.length) (by omega)
    have tn := lp_turn (K := K) (Γ := Γ) (kn := kn) (sk := sk.map pD) (q := q) (x0 := x0) (x1 := x1) (x2 := x2) (x5 := x5) g z1 (by simpa using z2)
    by_cases c : q ∈ kn
    · have e0 : ad kn q = kn := by unfold ad; rw [if_pos c]
      obtain ⟨t, y6, e1, e2⟩ := ih kn sk (some (false, pD q)) (by omega) (by omega)
      refine ⟨t, y6, by rw [ads, e0]; exact e1, forL_cons (s1 := ⟨[x0, x1, x2, some (true, dS kn), some (true, .lst (sk.map pD)), x5, some (false, pD q)], g⟩) rfl tn ?_⟩
      rw [ads, e0, if_pos c]
      exact e2
    · have e0 : ad kn q = kn ++ [q] := by unfold ad; rw [if_neg c]
      obtain ⟨t, y6, e1, e2⟩ := ih (kn ++ [q]) (sk ++ [q]) (some (false, pD q)) (by simp; omega) (by simp; omega)
      refine ⟨q :: t, y6, by rw [ads, e0, e1]; simp, forL_cons (s1 := ⟨[x0, x1, x2, some (true, dS kn), some (true, .lst (sk.map pD)), x5, some (false, pD q)], g⟩) rfl tn ?_⟩
      rw [ads, e0, if_neg c]
      rw [List.map_append] at e2
      rw [show sk ++ q :: t = sk ++ [q] ++ t by simp]
      exact e2
theorem lp_body {M1 M2 : D} {go : Pr → List Pr} {P : Pr → Prop} (ez : EZ K Γ M1 M2 go P) {p : Pr} (hp : P p) {kn kn' : D} {sk sk' : List D} {x2 x5 x6 y6 : Option (Bool × D)} {g : G} (hf : forL (.nm 6) (ex K Γ c__law_pairs_b1) ((go p).map pD) ⟨[some (false, M1), some (false, M2), x2, some (true, kn), some (true, .lst sk), some (false, pD p), x6], g⟩ = .nx ⟨[some (false, M1), some (false, M2), x2, some (true, kn'), some (true, .lst sk'), some (false, pD p), y6], g⟩) :
    ex K Γ c__law_pairs_b2 ⟨[some (false, M1), some (false, M2), x2, some (true, kn), some (true, .lst (sk ++ [pD p])), x5, x6], g⟩ = .nx ⟨[some (false, M1), some (false, M2), x2, some (true, kn'), some (true, .lst sk'), some (false, pD p), y6], g⟩ := by
  unfold c__law_pairs_b2
  refine (seq_nx (st1 := ⟨[some (false, M1), some (false, M2), x2, some (true, kn), some (true, .lst sk), some (false, pD p), x6], g⟩) ?_).trans ?_
  · simp
  · refine (seq_nx ((ex_for (ez 5 _ p rfl rfl rfl hp)).trans hf)).trans ?_
    rfl
def SLp (m : Mir G) (M1 M2 : D) (go : Pr → List Pr) (P : Pr → Prop) : Prop := ∀ (b : Pr) (g : G), P b → ∃ kn, m [M1, M2, pD b] g = .ok (dS kn) g ∧ CmOk go P b kn
theorem s_law_pairs {M1 M2 : D} {go : Pr → List Pr} {P : Pr → Prop} (ez : EZ K Γ M1 M2 go P) (gp : Gp go P) : SLp (runF N__law_pairs.length (ex K Γ c__law_pairs)) M1 M2 go P := by
  intro b g hb
  let st (kn sk : List Pr) (x5 x6 : Option (Bool × D)) : Sg G := ⟨[some (false, M1), some (false, M2), some (false, pD b), some (true, dS kn), some (true, .lst (sk.map pD)), x5, x6], g⟩
  let mu (s : Sg G) : Nat := (match s.sl[3]? with
      | some (some (_, c)) => (match lenO2 c with
        | some (.vl (.int i)) => 2 * (100 - i.toNat)
        | _ => 0)
      | _ => 0) + (match s.sl[4]? with
      | some (some (_, D.lst ds)) => ds.length
      | _ => 0)
  have mu_st : ∀ kn sk x5 x6, mu (st kn sk x5 x6) = 2 * (100 - kn.length) + sk.length := fun kn sk x5 x6 => by
    show (match lenO2 (dS kn) with
        | some (.vl (.int i)) => 2 * (100 - i.toNat)
        | _ => 0) + (sk.map pD).length = _
    rw [lenO2_dS]
    simp
  refine Exists.elim (whL_ind (c := ev K Γ c__law_pairs_w1) (body := ex K Γ c__law_pairs_b2)
    (fun s => ∃ kn sk x5 x6, s = st kn sk x5 x6 ∧ kn.Nodup ∧ b ∈ kn ∧ (∀ p ∈ kn, P p) ∧ (∀ p ∈ kn, Gr.Rc go b p) ∧ (∀ p ∈ sk, p ∈ kn) ∧ sk.length ≤ kn.length ∧ ∀ p ∈ kn, p ∈ sk ∨ ∀ q ∈ go p, q ∈ kn)
    (fun s => ∃ kn x5 x6, s = st kn [] x5 x6 ∧ CmOk go P b kn) mu ?_ 1000 (st [b] [b] none none) (by rw [mu_st]; simp) ⟨[b], [b], none, none, rfl, by simp, by simp, by simpa using hb, by simpa using Gr.Rc.refl _ _, by simp, by simp, by simp⟩) fun s' ⟨e, kn, x5, x6, es, ok⟩ => ?_
  · rintro _ ⟨kn, sk, x5, x6, rfl, i1, i2, i3, i4, i5, i6, i7⟩
    have h64 := gp.fin kn i1 i3
    have pl : (sk.map pD).all (plain 59) = true := by
      rw [List.all_eq_true]
      intro d hd
      obtain ⟨p, _, rfl⟩ := List.mem_map.mp hd
      rfl
    have ne : neO (.lst (sk.map pD)) (.lst []) = some (.vl (.bl (!sk.isEmpty))) := by
      unfold neO eqB
      simp only [plain_lst, pl, List.all_nil, Bool.and_true, if_true, Option.map_some]
      cases sk with
      | nil => simp
      | cons a sk => simp [eqD, toPy, toPys, PyData.eqv, PyData.eqvAll]
    refine ⟨.vl (.bl (!sk.isEmpty)), st kn sk x5 x6, ?_, ?_⟩
    · show ev K Γ _ ⟨[some (false, M1), some (false, M2), some (false, pD b), some (true, dS kn), some (true, .lst (sk.map pD)), x5, x6], g⟩ = .ok _ ⟨[some (false, M1), some (false, M2), some (false, pD b), some (true, dS kn), some (true, .lst (sk.map pD)), x5, x6], g⟩
      generalize sk.map pD = skD at ne
      unfold c__law_pairs_w1
      simp [ne]
    · rcases List.eq_nil_or_concat sk with rfl | ⟨sk, p, rfl⟩
      · exact .inl ⟨rfl, kn, x5, x6, rfl, i1, i2, i3, fun p hp => (i7 p hp).elim (fun z => by cases z) id, i4⟩
      · right
        simp only [List.concat_eq_append] at *
        refine ⟨by simp [tst, pk], ?_⟩
        have hp : p ∈ kn := i5 p (by simp)
        have hgl := gp.len p (i3 p hp)
        simp only [List.length_append, List.length_cons, List.length_nil] at i6
        obtain ⟨t, y6, e1, e2⟩ := lp_inner (K := K) (Γ := Γ) (x0 := some (false, M1)) (x1 := some (false, M2)) (x2 := some (false, pD b)) (x5 := some (false, pD p)) g (go p) kn sk x6 (by omega) (by omega)
        have eb := lp_body (x5 := x5) ez (i3 p hp) e2
        have nd' := ads_nodup i1 (go p)
        have mem' : ∀ q, q ∈ ads kn (go p) → P q ∧ Gr.Rc go b q := fun q hq => by
          rcases mem_ads.mp hq with z | z
          · exact ⟨i3 q z, i4 q z⟩
          · exact ⟨gp.cl p (i3 p hp) q z, (i4 p hp).step _ z⟩
        have l64 := gp.fin _ nd' fun q hq => (mem' q hq).1
        refine ⟨st (ads kn (go p)) (sk ++ t) (some (false, pD p)) y6, ?_, ⟨_, _, _, _, rfl, nd', mem_ads.mpr (.inl i2), fun q hq => (mem' q hq).1, fun q hq => (mem' q hq).2, fun q hq => ?_, ?_, fun q hq => ?_⟩, ?_⟩
        · show ex K Γ c__law_pairs_b2 ⟨[some (false, M1), some (false, M2), some (false, pD b), some (true, dS kn), some (true, .lst ((sk ++ [p]).map pD)), x5, x6], g⟩ = _
          rw [List.map_append]
          exact eb
        · rcases List.mem_append.mp hq with z | z
          · exact mem_ads.mpr (.inl (i5 q (by simp [z])))
          · rw [e1]; exact List.mem_append_right _ z
        · rw [e1]; simp; omega
        · rw [e1] at hq
          rcases List.mem_append.mp hq with z | z
          · rcases i7 q z with w | w
            · rcases List.mem_append.mp w with w | w
              · exact .inl (List.mem_append_left _ w)
              · rw [List.mem_singleton.mp w]
                exact .inr fun r hr => mem_ads.mpr (.inr hr)
            · exact .inr fun r hr => mem_ads.mpr (.inl (w r hr))
          · exact .inl (List.mem_append_right _ z)
        · rw [mu_st, mu_st, e1]
          rw [e1, List.length_append] at l64
          simp
          omega
  · refine ⟨kn, ?_, ok⟩
    subst es
    have e : whL (ev K Γ c__law_pairs_w1) (ex K Γ c__law_pairs_b2) 1000 ⟨[some (false, M1), some (false, M2), some (false, pD b), some (true, .dct [(pD b, D.bl true)]), some (true, .lst [pD b]), none, none], g⟩ = .nx ⟨[some (false, M1), some (false, M2), some (false, pD b), some (true, dS kn), some (true, .lst []), x5, x6], g⟩ := e
    unfold c__law_pairs N__law_pairs
    have hl : leafK (pD b) = false := rfl
    simp [e]
/-! ### _law_lengths -/
def wS (l : List (Pr × Nat)) (w : Pr → Nat) : Nat := (l.map fun x => x.2 * w x.1).sum
theorem wS_pt {l : List (Pr × Nat)} (hn : (l.map (·.1)).Nodup) (q : Pr) (c : Nat) (w : Pr → Nat) : wS (pt l q ((lk l q).getD 0 + c)) w = wS l w + c * w q := by
  induction l with
  | nil => simp [pt, wS, lk]
  | cons a l ih =>
    obtain ⟨a, x⟩ := a
    rw [List.map_cons, List.nodup_cons] at hn
    unfold pt lk
    by_cases e : a = q
    · subst e
      simp only [if_true, Option.getD_some]
      simp only [wS, List.map_cons, List.sum_cons, Nat.add_mul]
      omega
    · rw [if_neg e, if_neg e]
      have := ih hn.2
      simp only [wS, List.map_cons, List.sum_cons] at this ⊢
      omega
theorem ll_turn {hr : List (Pr × Nat)} {lt : List (Pr × Nat)} {p q : Pr} {c : Nat} (hc : lk hr p = some c) (hz : lt.length < sizeLine) {x0 x1 x2 x3 x4 x6 x8 : Option (Bool × D)} (g : G) :
    ex K Γ c__law_lengths_b1 ⟨[x0, x1, x2, x3, x4, some (false, dM nat hr), x6, some (true, dM nat lt), x8, some (false, pD p), some (false, pD q)], g⟩ = .nx ⟨[x0, x1, x2, x3, x4, some (false, dM nat hr), x6, some (true, dM nat (pt lt q ((lk lt q).getD 0 + c))), x8, some (false, pD p), some (false, pD q)], g⟩ := by
  unfold c__law_lengths_b1
  have st := stO_pD nat lt q ((lk lt q).getD 0 + c) hz
  have eg : ((lk lt q).map nat).getD (.int 0) = .int ((lk lt q).getD 0 : Nat) := by cases lk lt q <;> rfl
  have en : nat ((lk lt q).getD 0 + c) = .int (((lk lt q).getD 0 : Nat) + (c : Int)) := by simp [nat]
  rw [en] at st
  generalize (lk lt q).getD 0 = o at *
  generalize pt lt q (o + c) = lt' at *
  simp [eg, hc, st]
theorem ll_inner {hr : List (Pr × Nat)} {p : Pr} {c : Nat} (hc : lk hr p = some c) {x0 x1 x2 x3 x4 x6 x8 : Option (Bool × D)} {P : Pr → Prop} (g : G) : ∀ (gs : List Pr) (lt : List (Pr × Nat)) (x10 : Option (Bool × D)), (lt.map (·.1)).Nodup → (∀ q ∈ lt.map (·.1), P q) → (∀ q ∈ gs, P q) → lt.length + gs.length ≤ 1000 →
    ∃ lt' y10, forL (.nm 10) (ex K Γ c__law_lengths_b1) (gs.map pD) ⟨[x0, x1, x2, x3, x4, some (false, dM nat hr), x6, some (true, dM nat lt), x8, some (false, pD p), x10], g⟩ = .nx ⟨[x0, x1, x2, x3, x4, some (false, dM nat hr), x6, some (true, dM nat lt'), x8, some (false, pD p), y10], g⟩ ∧ (lt'.map (·.1)).Nodup ∧ (∀ q ∈ lt'.map (·.1), P q) ∧ ∀ w, wS lt' w = wS lt w + c * (gs.map w).sum := by
  intro gs
  induction gs with
  | nil => intro lt x10 h1 h2 _ _; exact ⟨lt, x10, rfl, h1, h2, fun w => by simp⟩
  | cons q gs ih =>
    intro lt x10 h1 h2 h3 hl
    simp only [List.length_cons] at hl
    have tn := ll_turn (K := K) (Γ := Γ) (lt := lt) (q := q) hc (sz64 (by omega)) (x0 := x0) (x1 := x1) (x2 := x2) (x3 := x3) (x4 := x4) (x6 := x6) (x8 := x8) g
    have hl' : (pt lt q ((lk lt q).getD 0 + c)).length ≤ lt.length + 1 := by
      have := congrArg List.length (pt_keys lt q ((lk lt q).getD 0 + c))
      rw [List.length_map] at this
      rw [this]
      split <;> simp
    obtain ⟨lt', y10, e1, e2, e3, e4⟩ := ih (pt lt q ((lk lt q).getD 0 + c)) (some (false, pD q)) (pt_nodup h1) (fun r hr => by
      rw [pt_keys] at hr
      split at hr
      · exact h2 r hr
      · rcases List.mem_append.mp hr with z | z
        · exact h2 r z
        · rw [List.mem_singleton.mp z]; exact h3 q List.mem_cons_self) (fun r hr => h3 r (List.mem_cons_of_mem _ hr)) (by omega)
    refine ⟨lt', y10, forL_cons (s1 := ⟨[x0, x1, x2, x3, x4, some (false, dM nat hr), x6, some (true, dM nat lt), x8, some (false, pD p), some (false, pD q)], g⟩) rfl tn e1, e2, e3, fun w => ?_⟩
    rw [e4 w, wS_pt h1, List.map_cons, List.sum_cons, Nat.mul_add]
    omega
theorem ll_mid {M1 M2 : D} {go : Pr → List Pr} {f : Pr → Nat} {P : Pr → Prop} (ez : EZ K Γ M1 M2 go P) (eu : EU K Γ M1 M2 f) (hf1 : ∀ p, f p ≤ 1) (gp : Gp go P) {hr : List (Pr × Nat)} (hn : (hr.map (·.1)).Nodup) (hP : ∀ q ∈ hr.map (·.1), P q) {x2 x3 x4 x6 : Option (Bool × D)} (g : G) : ∀ (ps : List (Pr × Nat)) (lt : List (Pr × Nat)) (own : Nat) (x9 x10 : Option (Bool × D)), (∀ y ∈ ps, y ∈ hr) → (lt.map (·.1)).Nodup → (∀ q ∈ lt.map (·.1), P q) →
    ∃ lt' y9 y10, forL (.nm 9) (ex K Γ c__law_lengths_b2) ((ps.map (·.1)).map pD) ⟨[some (false, M1), some (false, M2), x2, x3, x4, some (false, dM nat hr), x6, some (true, dM nat lt), some (false, .int own), x9, x10], g⟩ = .nx ⟨[some (false, M1), some (false, M2), x2, x3, x4, some (false, dM nat hr), x6, some (true, dM nat lt'), some (false, .int ((own + wS ps f : Nat) : Int)), y9, y10], g⟩ ∧ (lt'.map (·.1)).Nodup ∧ (∀ q ∈ lt'.map (·.1), P q) ∧ ∀ w, wS lt' w = wS lt w + wS ps (fun p => ((go p).map w).sum) := by
  intro ps
  induction ps with
  | nil => intro lt own x9 x10 _ h1 h2; exact ⟨lt, x9, x10, rfl, h1, h2, fun w => by simp [wS]⟩
  | cons y ps ih =>
    intro lt own x9 x10 hs h1 h2
    obtain ⟨p, c⟩ := y
    have hm := hs (p, c) List.mem_cons_self
    have hc := lk_mem hn hm
    have hp : P p := hP p (List.mem_map.mpr ⟨_, hm, rfl⟩)
    have l64 := gp.fin _ h1 h2
    rw [List.length_map] at l64
    have hgl := gp.len p hp
    obtain ⟨lt1, y10, e1, e2, e3, e4⟩ := ll_inner (K := K) (Γ := Γ) (P := P) hc (x0 := some (false, M1)) (x1 := some (false, M2)) (x2 := x2) (x3 := x3) (x4 := x4) (x6 := x6) (x8 := some (false, .int ((own + c * f p : Nat) : Int))) g (go p) lt x10 h1 h2 (gp.cl p hp) (by omega)
    obtain ⟨lt', z9, z10, k1, k2, k3, k4⟩ := ih lt1 (own + c * f p) (some (false, pD p)) y10 (fun y hy => hs y (List.mem_cons_of_mem _ hy)) e2 e3
    refine ⟨lt', z9, z10, ?_, k2, k3, fun w => ?_⟩
    · rw [List.map_cons, List.map_cons]
      refine forL_cons (s1 := ⟨[some (false, M1), some (false, M2), x2, x3, x4, some (false, dM nat hr), x6, some (true, dM nat lt), some (false, .int own), some (false, pD p), x10], g⟩) (s2 := ⟨[some (false, M1), some (false, M2), x2, x3, x4, some (false, dM nat hr), x6, some (true, dM nat lt1), some (false, .int ((own + c * f p : Nat) : Int)), some (false, pD p), y10], g⟩) rfl ?_ ?_
      · unfold c__law_lengths_b2
        refine (seq_nx (st1 := ⟨[some (false, M1), some (false, M2), x2, x3, x4, some (false, dM nat hr), x6, some (true, dM nat lt), some (false, .int ((own + c * f p : Nat) : Int)), some (false, pD p), x10], g⟩) ?_).trans ?_
        · have e5 := eu 9 ⟨[some (false, M1), some (false, M2), x2, x3, x4, some (false, dM nat hr), x6, some (true, dM nat lt), some (false, .int own), some (false, pD p), x10], g⟩ p rfl rfl rfl
          have f1 := hf1 p
          show ex K Γ (.asg 8 (.bin .add (.var 8) (.ife (ceUn 9) (.ix (.var 5) (.var 9)) (.cst (.int 0))))) _ = _
          generalize ceUn 9 = cu at e5
          by_cases c0 : 0 < f p
          · have : f p = 1 := by omega
            simp [e5, c0, hc]
            rw [this]; simp
          · have : f p = 0 := by omega
            simp [e5, c0]
            rw [this]; simp
        · refine (seq_nx ((ex_for (ez 9 _ p rfl rfl rfl hp)).trans e1)).trans ?_
          rfl
      · rw [k1]
        simp only [wS, List.map_cons, List.sum_cons, Nat.add_assoc]
    · rw [k4 w, e4 w]
      simp only [wS, List.map_cons, List.sum_cons]
      omega
def SLl (m : Mir G) (M1 M2 : D) (go : Pr → List Pr) (f : Pr → Nat) (P : Pr → Prop) : Prop := ∀ (b : Pr) (n : Nat) (g : G), P b → n ≤ 1000 → m [M1, M2, pD b, .int n] g = .ok (.lst ((List.range n).map fun k => .int (Gr.cf go k f b))) g
theorem s_law_lengths {M1 M2 : D} {go : Pr → List Pr} {f : Pr → Nat} {P : Pr → Prop} (ez : EZ K Γ M1 M2 go P) (eu : EU K Γ M1 M2 f) (hf1 : ∀ p, f p ≤ 1) (gp : Gp go P) : SLl (runF N__law_lengths.length (ex K Γ c__law_lengths)) M1 M2 go f P := by
  intro b n g hb hn
  let st (k : Nat) (hr : List (Pr × Nat)) (bb : Bool) (x6 x7 x8 x9 x10 : Option (Bool × D)) : Sg G := ⟨[some (false, M1), some (false, M2), some (false, pD b), some (false, .int n), some (true, .lst ((List.range k).map fun k => .int (Gr.cf go k f b))), some (bb, dM nat hr), x6, x7, x8, x9, x10], g⟩
  refine Exists.elim (forL_ind (t := .nm 6) (body := ex K Γ c__law_lengths_b3) (fun ds s => ∃ k hr bb x6 x7 x8 x9 x10, s = st k hr bb x6 x7 x8 x9 x10 ∧ k ≤ n ∧ ds = (List.range' k (n - k)).map nat ∧ (hr.map (·.1)).Nodup ∧ (∀ q ∈ hr.map (·.1), P q) ∧ ∀ w, wS hr w = Gr.cf go k w b) ?_ (intsD 0 n) (st 0 [(b, 1)] true none none none none none) ⟨0, [(b, 1)], true, none, none, none, none, none, rfl, Nat.zero_le _, by rw [intsD_nat, List.range_eq_range']; rfl, by simp, by simpa using hb, fun w => by simp [wS, Gr.cf]⟩) fun s' ⟨e, k, hr, bb, x6, x7, x8, x9, x10, es, hk, ek, _⟩ => ?_
  · rintro d ds _ ⟨k, hr, bb, x6, x7, x8, x9, x10, rfl, i1, i2, i3, i4, i5⟩
    cases q : n - k with
    | zero => rw [q] at i2; cases i2
    | succ j =>
      rw [q, List.range'_succ] at i2
      cases i2
      obtain ⟨lt, z9, z10, e1, e2, e3, e4⟩ := ll_mid ez eu hf1 gp i3 i4 (x2 := some (false, pD b)) (x3 := some (false, .int n)) (x4 := some (true, .lst ((List.range k).map fun k => .int (Gr.cf go k f b)))) (x6 := some (false, nat k)) g hr [] 0 x9 x10 (fun y hy => hy) (by simp) (by simp)
      refine ⟨st k hr bb (some (false, nat k)) x7 x8 x9 x10, st (k + 1) lt false (some (false, nat k)) (some (false, dM nat lt)) (some (false, .int (Gr.cf go k f b))) z9 z10, rfl, ?_, ⟨k + 1, lt, false, _, _, _, _, _, rfl, by omega, by rw [show n - (k + 1) = j by omega], e2, e3, fun w => ?_⟩⟩
      · rw [Nat.zero_add, i5 f] at e1
        have e1 : forL (.nm 9) (ex K Γ c__law_lengths_b2) ((hr.map (·.1)).map pD) ⟨[some (false, M1), some (false, M2), some (false, pD b), some (false, .int n), some (true, .lst ((List.range k).map fun k => .int (Gr.cf go k f b))), some (false, dM nat hr), some (false, nat k), some (true, .dct []), some (false, .int 0), x9, x10], g⟩ = .nx ⟨[some (false, M1), some (false, M2), some (false, pD b), some (false, .int n), some (true, .lst ((List.range k).map fun k => .int (Gr.cf go k f b))), some (false, dM nat hr), some (false, nat k), some (true, dM nat lt), some (false, .int (Gr.cf go k f b)), z9, z10], g⟩ := e1
        have hz := sz64 (n := k) (by omega)
        have hr' : (List.range (k + 1)).map (fun k => D.int (Gr.cf go k f b)) = (List.range k).map (fun k => D.int (Gr.cf go k f b)) ++ [.int (Gr.cf go k f b)] := by rw [List.range_succ, List.map_append]; rfl
        show ex K Γ c__law_lengths_b3 ⟨[some (false, M1), some (false, M2), some (false, pD b), some (false, .int n), some (true, .lst ((List.range k).map fun k => .int (Gr.cf go k f b))), some (bb, dM nat hr), some (false, nat k), x7, x8, x9, x10], g⟩ = .nx ⟨[some (false, M1), some (false, M2), some (false, pD b), some (false, .int n), some (true, .lst ((List.range (k + 1)).map fun k => .int (Gr.cf go k f b))), some (false, dM nat lt), some (false, nat k), some (false, dM nat lt), some (false, .int (Gr.cf go k f b)), z9, z10], g⟩
        rw [hr']
        have hlen : ((List.range k).map fun k => D.int (Gr.cf go k f b)).length < sizeLine := by simpa using hz
        generalize ((List.range k).map fun k => D.int (Gr.cf go k f b)) = fd at e1 hlen
        have sq := seqO_dM nat hr
        generalize (hr.map (·.1)).map pD = hD at e1 sq
        generalize nat k = kd at e1
        unfold c__law_lengths_b3
        cases bb <;> simp [sq, e1, hlen]
      · rw [e4 w]
        show wS [] w + wS hr _ = Gr.cf go (k + 1) w b
        rw [i5, Gr.cf_succ']
        simp [wS]
  · have kn : n - k = 0 := by
      cases q : n - k with
      | zero => rfl
      | succ m => rw [q, List.range'_succ] at ek; cases ek
    have kn : k = n := by omega
    subst kn
    subst es
    have r1 : rgB (k : Int) = true := rgB_small (by omega) (by omega)
    have e : forL (.nm 6) (ex K Γ c__law_lengths_b3) (intsD 0 k) ⟨[some (false, M1), some (false, M2), some (false, pD b), some (false, .int k), some (true, .lst []), some (true, .dct [(pD b, .int 1)]), none, none, none, none, none], g⟩ = .nx ⟨[some (false, M1), some (false, M2), some (false, pD b), some (false, .int k), some (true, .lst ((List.range k).map fun k => .int (Gr.cf go k f b))), some (bb, dM nat hr), x6, x7, x8, x9, x10], g⟩ := e
    generalize ((List.range k).map fun k => D.int (Gr.cf go k f b)) = fd at e
    unfold c__law_lengths N__law_lengths
    have hl : leafK (pD b) = false := rfl
    simp [r1, e]
end
end BF
set_option Elab.async false
set_option linter.all false
set_option autoImplicit false
set_option maxRecDepth 100000
set_option maxHeartbeats 1000000
namespace BF
open PySem PySem.Spec PyProof.Rows L2
section
variable {G : Type} {K : Env1} {Γ : Gam G}
theorem plain_pairs (n : Nat) (l : List Pr) : (l.map pD).all (plain (n + 1)) = true := by
  rw [List.all_eq_true]
  intro d hd
  obtain ⟨p, _, rfl⟩ := List.mem_map.mp hd
  cases n <;> rfl
theorem eq_nil {ds : List D} (h : ds.all (plain 59) = true) : eqO (.lst ds) (.lst []) = some (.vl (.bl ds.isEmpty)) := by
  unfold eqO eqB
  simp only [plain_lst, h, List.all_nil, Bool.and_true, if_true, Option.map_some]
  cases ds with
  | nil => simp
  | cons a sk => simp [eqD, toPy, toPys, PyData.eqv, PyData.eqvAll]
theorem cut_lo {ds : List D} {k : Nat} (h : k ≤ ds.length) : cutD ds (some (k : Int)) none = ds.drop k := by
  unfold cutD
  rw [HT.sIx_nat, HT.sIx_none, Nat.min_eq_left h]
  rw [List.take_of_length_le]
  rw [List.length_drop]
  exact Nat.le_refl _
/-- [x for x in .. if ..] -/
theorem lcL_filterN (p : D → Bool) {ft fe : Sg G → Rs G Ov} {i : Nat} {s0 : Sg G} (hs : s0.sl[i]? = some none) (ds : List D) (ht : ∀ d ∈ ds, ft (setS s0 i (some (false, d))) = .ok (.vl (.bl (p d))) (setS s0 i (some (false, d)))) (he : ∀ s : Sg G, fe s = evVar i s) : lcL (.nm i) ft fe [i] ds s0 = .ok (ds.filter p) s0 := by
  have := lcL_filter (t := .nm i) (ft := ft) (fe := fe) (own := [i]) p id (s0 := s0) ds fun d hd => by
    have hi := lt_of_get hs
    have g1 : (setS s0 i (some (false, d))).sl[i]? = some (some (false, d)) := by rw [setS_get _ _ _ _ hi, if_pos rfl]
    have w : wipeS (setS s0 i (some (false, d))) [i] = s0 := by
      show (⟨(s0.sl.set i (some (false, d))).set i none, s0.g⟩ : Sg G) = s0
      rw [set_back hs]
    refine ⟨setS s0 i (some (false, d)), .vl (.bl (p d)), setS s0 i (some (false, d)), ?_, ht d hd, rfl, fun _ => w, fun _ => ⟨.pl i, setS s0 i (some (false, d)), setS s0 i (some (false, d)), ?_, ?_, w⟩⟩
    · show (if i < s0.sl.length then _ else _) = _
      rw [if_pos hi]
    · rw [he]
      unfold evVar
      rw [g1]
    · have hl : look (setS s0 i (some (false, d))) i = some d := by unfold look; rw [g1]
      have hf : frzS (setS s0 i (some (false, d))) i = setS s0 i (some (false, d)) := by unfold frzS; rw [g1]
      simp only [use, hl, hf, id]
  rw [this]
  simp
theorem filter_pD (l : List Pr) (q : Pr → Bool) (p : D → Bool) (h : ∀ x ∈ l, p (pD x) = q x) : (l.map pD).filter p = (l.filter q).map pD := by
  induction l with
  | nil => rfl
  | cons a l ih =>
    have ih := ih fun x hx => h x (List.mem_cons_of_mem _ hx)
    rw [List.map_cons, List.filter_cons, List.filter_cons, ih, h a List.mem_cons_self]
    split <;> rfl
theorem run_rt {n : Nat} {code : Cs} {ds : List D} {g g' : G} {d : D} {sl : List (Option (Bool × D))} (hs : ds.map (fun d => some (false, d)) ++ List.replicate (n - ds.length) none = sl) (h : ex K Γ code ⟨sl, g⟩ = .rt d g') : runF n (ex K Γ code) ds g = .ok d g' := by
  unfold runF
  rw [hs, h]
theorem seq_rt {s r : Cs} {st : Sg G} {d : D} {g : G} (h : ex K Γ s st = .rt d g) : ex K Γ (.cons s r) st = .rt d g := by
  show exSeq (ex K Γ s) (ex K Γ r) st = _
  unfold exSeq
  rw [h]
theorem s_law_unlike {u1 u2 : Nat} {x1 x2 : Str} {m1 m2 : Mir G} (h1 : Γ[u1]? = some (x1, .fn 3 m1)) (h2 : Γ[u2]? = some (x2, .fn 4 m2)) {M1 M2 : D} {go : Pr → List Pr} {f : Pr → Nat} {P : Pr → Prop} (hp : SLp m1 M1 M2 go P) (hl : SLl m2 M1 M2 go f P) (eu : EU K Γ M1 M2 f) (gp : Gp go P) :
    SCnt (runF N__law_unlike.length (ex K Γ (c__law_unlike u1 u2))) M1 M2 go f P := by
  intro b g hb
  obtain ⟨kn, ek, ok⟩ := hp b g hb
  have k64 := gp.fin kn ok.nd ok.inn
  -- the unlike ones
  have lc : lcL (.nm 6) (ev K Γ c__law_unlike_t1) (ev K Γ c__law_unlike_e1) [6] (kn.map pD) ⟨[some (false, M1), some (false, M2), some (false, pD b), some (false, dS kn), none, none, none, none], g⟩ = .ok ((kn.filter fun p => decide (0 < f p)).map pD) ⟨[some (false, M1), some (false, M2), some (false, pD b), some (false, dS kn), none, none, none, none], g⟩ := by
    have eu' : ∀ p : Pr, ev K Γ c__law_unlike_t1 ⟨[some (false, M1), some (false, M2), some (false, pD b), some (false, dS kn), none, none, some (false, pD p), none], g⟩ = .ok (.vl (.bl (decide (0 < f p)))) ⟨[some (false, M1), some (false, M2), some (false, pD b), some (false, dS kn), none, none, some (false, pD p), none], g⟩ := fun p => eu 6 _ p rfl rfl rfl
    rw [lcL_filterN (fun d => match ev K Γ c__law_unlike_t1 ⟨[some (false, M1), some (false, M2), some (false, pD b), some (false, dS kn), none, none, some (false, d), none], g⟩ with
      | .ok (.vl (.bl z)) _ => z
      | _ => false) (ft := ev K Γ c__law_unlike_t1) (fe := ev K Γ c__law_unlike_e1) (i := 6) (s0 := ⟨[some (false, M1), some (false, M2), some (false, pD b), some (false, dS kn), none, none, none, none], g⟩) rfl (kn.map pD) (fun d hd => ?_) (fun s => rfl)]
    · congr 1
      refine filter_pD kn _ _ fun p _ => ?_
      rw [eu']
    · obtain ⟨p, _, rfl⟩ := List.mem_map.mp hd
      show ev K Γ c__law_unlike_t1 ⟨[some (false, M1), some (false, M2), some (false, pD b), some (false, dS kn), none, none, some (false, pD p), none], g⟩ = _
      rw [eu']
      rfl
  have sq := seqO_dS kn
  have sz : (kn.map pD).length ≤ sizeLine := size_ge (by simp; omega)
  have en := eq_nil (plain_pairs 58 (kn.filter fun p => decide (0 < f p)))
  by_cases c : ((kn.filter fun p => decide (0 < f p)).map pD).isEmpty = true
  · refine ⟨some (0, -1), ?_, Gr.cn_zero go f fun n => ?_⟩
    · rw [c] at en
      generalize kn.map pD = knD at lc sq sz
      generalize (kn.filter fun p => decide (0 < f p)).map pD = fl at lc en
      unfold c__law_unlike N__law_unlike
      simp [h1, ek, sq, sz, lc, en]
      rfl
    · have no : ∀ p ∈ kn, f p = 0 := fun p hp' => by
        apply Nat.eq_zero_of_not_pos
        intro hz
        have : p ∈ kn.filter fun p => decide (0 < f p) := List.mem_filter.mpr ⟨hp', decide_eq_true hz⟩
        rw [List.isEmpty_iff, List.map_eq_nil_iff] at c
        rw [c] at this
        cases this
      have key : ∀ n p, p ∈ kn → Gr.cf go n f p = 0 := by
        intro n
        induction n with
        | zero => exact no
        | succ n ih =>
          intro p hp'
          apply Nat.eq_zero_of_not_pos
          intro hz
          obtain ⟨x, hx, h0⟩ := Gr.sum_pos.mp (show 0 < ((go p).map (Gr.cf go n f)).sum from hz)
          obtain ⟨q, hq, rfl⟩ := List.mem_map.mp hx
          rw [ih q (ok.cl p hp' q hq)] at h0
          omega
      exact key n b ok.bg
  · have c' : ((kn.filter fun p => decide (0 < f p)).map pD).isEmpty = false := by simpa using c
    rw [c'] at en
    have kn0 : 0 < kn.length := List.length_pos_of_mem ok.bg
    have el := hl b (2 * kn.length) g hb (by omega)
    have fl : (((List.range (2 * kn.length)).map fun k => D.int (Gr.cf go k f b))).length = 2 * kn.length := by simp
    have cu := cut_lo (ds := (List.range (2 * kn.length)).map fun k => D.int (Gr.cf go k f b)) (k := kn.length) (by rw [fl]; omega)
    have i1 : intsOf (((List.range (2 * kn.length)).map fun k => D.int (Gr.cf go k f b)).drop kn.length) = some (((List.range (2 * kn.length)).map fun k => (Gr.cf go k f b : Int)).drop kn.length) := by
      have := intsOf_map' ((List.range (2 * kn.length)).drop kn.length) fun k => (Gr.cf go k f b : Int)
      rw [List.map_drop, List.map_drop] at this
      exact this
    have i2 := intsOf_map' (List.range (2 * kn.length)) fun k => (Gr.cf go k f b : Int)
    have sc : ∀ l : List Nat, (l.map fun k => (Gr.cf go k f b : Int)).sum = ((l.map fun k => Gr.cf go k f b).sum : Nat) := by
      intro l
      induction l with
      | nil => rfl
      | cons a l ih => simp [ih]
    have s1 : (((List.range (2 * kn.length)).map fun k => (Gr.cf go k f b : Int)).drop kn.length).sum = ((((List.range (2 * kn.length)).map fun k => Gr.cf go k f b).drop kn.length).sum : Nat) := by
      rw [← List.map_drop, sc, List.map_drop]
    have s2 := sc (List.range (2 * kn.length))
    -- the longest
    have at_ : ∀ k : Nat, k < 2 * kn.length → L2.atI ((List.range (2 * kn.length)).map fun k => D.int (Gr.cf go k f b)) (k : Int) = some (.int (Gr.cf go k f b)) := fun k hk => by
      refine atI_nat ?_
      rw [List.getElem?_map, List.getElem?_range hk]
      rfl
    have lc2 : ∀ fd : List D, (∀ k : Nat, k < 2 * kn.length → L2.atI fd (k : Int) = some (.int (Gr.cf go k f b))) → lcL (.nm 7) (ev K Γ c__law_unlike_t2) (ev K Γ c__law_unlike_e2) [7] (intsD 0 kn.length) ⟨[some (false, M1), some (false, M2), some (false, pD b), some (false, dS kn), some (false, .int kn.length), some (false, .lst fd), none, none], g⟩ = .ok (((List.range kn.length).filter fun k => decide (0 < Gr.cf go k f b)).map nat) ⟨[some (false, M1), some (false, M2), some (false, pD b), some (false, dS kn), some (false, .int kn.length), some (false, .lst fd), none, none], g⟩ := by
      intro fd hat
      rw [lcL_filterN (fun d => match d with
        | .int i => decide (0 < Gr.cf go i.toNat f b)
        | _ => false) (ft := ev K Γ c__law_unlike_t2) (fe := ev K Γ c__law_unlike_e2) (i := 7) (s0 := ⟨[some (false, M1), some (false, M2), some (false, pD b), some (false, dS kn), some (false, .int kn.length), some (false, .lst fd), none, none], g⟩) rfl (intsD 0 kn.length) (fun d hd => ?_) (fun s => rfl)]
      · congr 1
        rw [intsD_nat]
        have : ∀ l : List Nat, (l.map nat).filter (fun d => match d with
            | .int i => decide (0 < Gr.cf go i.toNat f b)
            | _ => false) = (l.filter fun k => decide (0 < Gr.cf go k f b)).map nat := by
          intro l
          induction l with
          | nil => rfl
          | cons a l ih =>
            rw [List.map_cons, List.filter_cons, List.filter_cons, ih]
            show (if decide (0 < Gr.cf go ((a : Int)).toNat f b) = true then _ else _) = _
            rw [Int.toNat_natCast]
            split <;> rfl
        exact this _
      · obtain ⟨k, hk, rfl⟩ := mem_ints hd
        have := hat k (by omega)
        unfold c__law_unlike_t2
        simp [this]
    have i3 : intsOf (((List.range kn.length).filter fun k => decide (0 < Gr.cf go k f b)).map nat) = some (((List.range kn.length).filter fun k => decide (0 < Gr.cf go k f b)).map fun (k : Nat) => (k : Int)) := intsOf_map' ((List.range kn.length).filter fun k => decide (0 < Gr.cf go k f b)) fun (k : Nat) => (k : Int)
    have l3 : (((List.range kn.length).filter fun k => decide (0 < Gr.cf go k f b)).map nat).length ≤ kn.length := by
      rw [List.length_map]
      have := List.length_filter_le (fun k => decide (0 < Gr.cf go k f b)) (List.range kn.length)
      simpa using this
    have sz3 : 1 + (((List.range kn.length).filter fun k => decide (0 < Gr.cf go k f b)).map nat).length ≤ sizeLine := size_ge (by omega)
    have r1 : rgB (kn.length : Int) = true := rgB_small (by omega) (by omega)
    have r2 : cmul 2 (kn.length : Int) = true := by
      unfold cmul
      rw [smB_small (by omega) (by omega)]
      rfl
    have lc3 := lc2 ((List.range (2 * kn.length)).map fun k => D.int (Gr.cf go k f b)) at_
    obtain ⟨mm1, mm2⟩ := maxI_spec (x := (-1 : Int)) (l := ((List.range kn.length).filter fun k => decide (0 < Gr.cf go k f b)).map fun (k : Nat) => (k : Int))
    have an := Gr.ans_of_lengths go f ok.all mm1 mm2
    refine ⟨_, ?_, an⟩
    have e2 : (2 : Int) * (kn.length : Int) = ((2 * kn.length : Nat) : Int) := by omega
    have szk : kn.length ≤ sizeLine := size_ge (by omega)
    have run0 : runF N__law_unlike.length (ex K Γ (c__law_unlike u1 u2)) [M1, M2, pD b] g = .ok (if (0 : Int) < ((((List.range (2 * kn.length)).map fun k => Gr.cf go k f b).drop kn.length).sum : Nat) then .non else .tup [.int (((List.range (2 * kn.length)).map fun k => Gr.cf go k f b).sum : Nat), .int (maxI (-1 :: ((List.range kn.length).filter fun k => decide (0 < Gr.cf go k f b)).map fun (k : Nat) => (k : Int)))]) g := by
      rw [← s1, ← s2]
      generalize ((List.range (2 * kn.length)).map fun k => D.int (Gr.cf go k f b)) = fd at el cu i1 i2 lc3
      generalize ((List.range (2 * kn.length)).map fun k => (Gr.cf go k f b : Int)) = fz at i1 i2
      generalize ((List.range kn.length).filter fun k => decide (0 < Gr.cf go k f b)).map nat = ld at lc3 i3 sz3
      generalize (((List.range kn.length).filter fun k => decide (0 < Gr.cf go k f b)).map fun (k : Nat) => (k : Int)) = lz at i3
      generalize kn.map pD = knD at lc sq sz
      generalize (kn.filter fun p => decide (0 < f p)).map pD = fl0 at lc en
      rw [← cu] at i1
      refine run_rt (sl := [some (false, M1), some (false, M2), some (false, pD b), none, none, none, none, none]) rfl ?_
      unfold c__law_unlike
      refine (seq_nx (st1 := ⟨[some (false, M1), some (false, M2), some (false, pD b), some (false, dS kn), none, none, none, none], g⟩) ?_).trans ?_
      · simp [h1, ek]
      refine (seq_nx (st1 := ⟨[some (false, M1), some (false, M2), some (false, pD b), some (false, dS kn), none, none, none, none], g⟩) ?_).trans ?_
      · simp [sq, sz, lc, en]
      refine (seq_nx (st1 := ⟨[some (false, M1), some (false, M2), some (false, pD b), some (false, dS kn), some (false, .int kn.length), none, none, none], g⟩) ?_).trans ?_
      · simp
      refine (seq_nx (st1 := ⟨[some (false, M1), some (false, M2), some (false, pD b), some (false, dS kn), some (false, .int kn.length), some (false, .lst fd), none, none], g⟩) ?_).trans ?_
      · rw [← e2] at el
        simp [mulO, r2, h2, el]
      by_cases c0 : 0 < (fz.drop kn.length).sum
      · rw [if_pos c0]
        refine seq_rt ?_
        simp [sumO, i1, c0]
      · rw [if_neg c0]
        refine (seq_nx (st1 := ⟨[some (false, M1), some (false, M2), some (false, pD b), some (false, dS kn), some (false, .int kn.length), some (false, .lst fd), none, none], g⟩) ?_).trans ?_
        · simp [sumO, i1, c0]
        · simp [sumO, i2, r1, szk, lc3, sz3, maxO, intsOf, i3]
    rw [run0]
    by_cases c0 : 0 < (((List.range (2 * kn.length)).map fun k => Gr.cf go k f b).drop kn.length).sum
    · rw [if_pos c0, if_pos (by omega)]
      rfl
    · rw [if_neg c0, if_neg (by omega)]
      rfl
end
end BF
set_option Elab.async false
set_option linter.all false
set_option autoImplicit false
set_option maxRecDepth 100000
set_option maxHeartbeats 1000000
namespace BF
open PySem PySem.Spec PyProof.Rows L2
/-! ## one answer for both -/
theorem cf_swap (s1 s2 : List (List Nat)) (g1 g2 : List Nat) : ∀ (n : Nat) (p : Pr), Gr.cf (gl s2 s1) n (un g2 g1) (p.2, p.1) = Gr.cf (gl s1 s2) n (un g1 g2) p := by
  intro n
  induction n with
  | zero =>
    intro p
    show un g2 g1 (p.2, p.1) = un g1 g2 p
    unfold un
    by_cases a : p.1 ∈ g1 <;> by_cases b : p.2 ∈ g2 <;> simp [a, b]
  | succ n ih =>
    intro p
    show ((gl s2 s1 (p.2, p.1)).map _).sum = ((gl s1 s2 p).map _).sum
    have e : gl s2 s1 (p.2, p.1) = (gl s1 s2 p).map fun q => (q.2, q.1) := by
      unfold gl
      generalize s1.getD p.1 [] = a
      generalize s2.getD p.2 [] = b
      induction a generalizing b with
      | nil => cases b <;> rfl
      | cons x a ih => cases b with
        | nil => rfl
        | cons y b => simp [ih b]
    rw [e, List.map_map]
    congr 1
    exact List.map_congr_left fun q _ => ih q
theorem ans_congr {α β : Type} {go : α → List α} {f : α → Nat} {go' : β → List β} {f' : β → Nat} {p : α} {q : β} (h : ∀ n, Gr.cf go n f p = Gr.cf go' n f' q) {r : Option (Nat × Int)} (ha : Gr.Ans go f p r) : Gr.Ans go' f' q r := by
  cases r with
  | none => intro N; obtain ⟨n, h1, h2⟩ := ha N; exact ⟨n, h1, by rw [← h n]; exact h2⟩
  | some c =>
    obtain ⟨⟨N, h1, h2⟩, h3, h4⟩ := ha
    refine ⟨⟨N, fun n hn => by rw [← h n]; exact h1 n hn, ?_⟩, fun n hn => h3 n (by rw [h n]; exact hn), ?_⟩
    · rw [h2]
      unfold Gr.tot
      congr 1
      exact List.map_congr_left fun n _ => h n
    · rcases h4 with h4 | ⟨k, e, h4⟩
      · exact .inl h4
      · exact .inr ⟨k, e, by rw [← h k]; exact h4⟩
/-- how many rows lead from a pair to an unlike one -/
noncomputable def An (s1 : List (List Nat)) (g1 : List Nat) (s2 : List (List Nat)) (g2 : List Nat) (p : Pr) : Option (Nat × Int) := open Classical in if h : ∃ r, Gr.Ans (gl s1 s2) (un g1 g2) p r then Classical.choose h else none
theorem an_ok {s1 s2 : List (List Nat)} {g1 g2 : List Nat} {p : Pr} {r : Option (Nat × Int)} (h : Gr.Ans (gl s1 s2) (un g1 g2) p r) : An s1 g1 s2 g2 p = r := by
  have ex : ∃ r, Gr.Ans (gl s1 s2) (un g1 g2) p r := ⟨r, h⟩
  unfold An
  rw [dif_pos ex]
  exact Gr.Ans.unique _ _ (Classical.choose_spec ex) h
theorem an_swap {s1 s2 : List (List Nat)} {g1 g2 : List Nat} {p : Pr} {r : Option (Nat × Int)} (h : Gr.Ans (gl s1 s2) (un g1 g2) p r) : An s2 g2 s1 g1 (p.2, p.1) = r := an_ok (ans_congr (fun n => (cf_swap s1 s2 g1 g2 n p).symm) h)
theorem un_le (g1 g2 : List Nat) (p : Pr) : un g1 g2 p ≤ 1 := by unfold un; split <;> omega
def aD : Option (Nat × Int) → D
  | none => .non
  | some c => .int c.1
section
variable {G : Type} {K : Env1} {Γ : Gam G}
/-- what a def that counts answers -/
def SAn (m : Mir G) (M1 M2 : D) (P : Pr → Prop) (A : Pr → Option (Nat × Int)) : Prop := ∀ (p : Pr) (g : G), P p → m [M1, M2, pD p] g = .ok (ansD (A p)) g
theorem san_of {m : Mir G} {M1 M2 : D} {s1 s2 : List (List Nat)} {g1 g2 : List Nat} (h : SCnt m M1 M2 (gl s1 s2) (un g1 g2) (inP s1 s2)) : SAn m M1 M2 (inP s1 s2) (An s1 g1 s2 g2) := fun p g hp => by
  obtain ⟨r, e, a⟩ := h p g hp
  rw [e, an_ok a]
theorem an_ex {m : Mir G} {M1 M2 : D} {s1 s2 : List (List Nat)} {g1 g2 : List Nat} (h : SCnt m M1 M2 (gl s1 s2) (un g1 g2) (inP s1 s2)) (g : G) {p : Pr} (hp : inP s1 s2 p) : Gr.Ans (gl s1 s2) (un g1 g2) p (An s1 g1 s2 g2 p) := by
  obtain ⟨r, e, a⟩ := h p g hp
  rw [an_ok a]
  exact a
theorem s_check_stand {u : Nat} {x : Str} {m : Mir G} (h : Γ[u]? = some (x, .fn 3 m)) (hm : IsInt m) {s : List (List Nat)} {good : List Nat} {k : Nat} (hk : k < s.length) (g : G) : runF N_check_stand.length (ex K Γ (c_check_stand u)) [machD s good, .int k] g = .ok .non g := by
  have c1 : (k : Int) ≤ (s.length : Int) - 1 := by omega
  unfold c_check_stand N_check_stand
  simp [h, hm _ _ _ _, c1]
theorem s_apart {u1 u2 : Nat} {x1 x2 : Str} {m1 m2 : Mir G} (h1 : Γ[u1]? = some (x1, .fn 2 m1)) (h2 : Γ[u2]? = some (x2, .fn 3 m2)) {M : D} {A : Pr → Option (Nat × Int)} {P : Pr → Prop} {a b : Nat} {g : G} (c1 : m1 [M, .int a] g = .ok .non g) (c2 : m1 [M, .int b] g = .ok .non g) (hA : SAn m2 M M P A) (hp : P (a, b)) : runF N_apart.length (ex K Γ (c_apart u1 u2)) [M, .int a, .int b] g = .ok (aD (A (a, b))) g := by
  have e := hA (a, b) g hp
  rw [pD_eq] at e
  unfold c_apart N_apart
  cases q : A (a, b) with
  | none => rw [q] at e; simp [h1, c1, c2, h2, e, ansD, aD]
  | some c => rw [q] at e; simp [h1, c1, c2, h2, e, ansD, aD, cD]
/-! ### kinds -/
/-- the places of those that pass -/
def lkF (T : Nat → Bool) : Nat → List Nat → List Nat
  | _, [] => []
  | c, f :: fs => if T f = true then c :: lkF T (c + 1) fs else lkF T (c + 1) fs
theorem lkF_range (T : Nat → Bool) : ∀ (fs : List Nat) (c : Nat), (List.range' c fs.length).filter (fun at_ => T (fs.getD (at_ - c) 0)) = lkF T c fs
  | [], c => rfl
  | f :: fs, c => by
    rw [List.length_cons, List.range'_succ, List.filter_cons]
    have ih := lkF_range T fs (c + 1)
    have e : (List.range' (c + 1) fs.length).filter (fun at_ => T ((f :: fs).getD (at_ - c) 0)) = (List.range' (c + 1) fs.length).filter (fun at_ => T (fs.getD (at_ - (c + 1)) 0)) := by
      refine List.filter_congr fun x hx => ?_
      have := (List.mem_range'_1.mp hx).1
      rw [show x - c = (x - (c + 1)) + 1 by omega]
      rfl
    rw [e, ih, Nat.sub_self]
    rfl
theorem lkF_lt {T : Nat → Bool} : ∀ {fs : List Nat} {c x : Nat}, x ∈ lkF T c fs → c ≤ x ∧ x < c + fs.length
  | [], c, x, h => by cases h
  | f :: fs, c, x, h => by
    unfold lkF at h
    split at h
    · rcases List.mem_cons.mp h with rfl | h
      · simp
      · have := lkF_lt h; simp; omega
    · have := lkF_lt h; simp; omega
/-- the first ones, and each one's number -/
def kfs (A : Pr → Option (Nat × Int)) : Nat → List Nat
  | 0 => []
  | k + 1 => if lkF (fun f => (A (f, k)).isSome) 0 (kfs A k) = [] then kfs A k ++ [k] else kfs A k
def kli (A : Pr → Option (Nat × Int)) (k : Nat) : List Nat := lkF (fun f => (A (f, k)).isSome) 0 (kfs A k)
def kno (A : Pr → Option (Nat × Int)) (k : Nat) : Nat := match kli A k with
  | [] => (kfs A k).length
  | a :: _ => a
theorem kfs_lt {A : Pr → Option (Nat × Int)} : ∀ {k x : Nat}, x ∈ kfs A k → x < k
  | 0, x, h => by cases h
  | k + 1, x, h => by
    unfold kfs at h
    split at h
    · rcases List.mem_append.mp h with h | h
      · have := kfs_lt h; omega
      · rw [List.mem_singleton.mp h]; omega
    · have := kfs_lt h; omega
theorem kfs_len (A : Pr → Option (Nat × Int)) : ∀ k, (kfs A k).length ≤ k
  | 0 => Nat.le_refl _
  | k + 1 => by
    unfold kfs
    have := kfs_len A k
    split
    · simp; omega
    · omega
theorem kno_lt (A : Pr → Option (Nat × Int)) (k : Nat) : kno A k ≤ k := by
  unfold kno
  have := kfs_len A k
  split
  · exact this
  · rename_i a l h
    have : a ∈ kli A k := by rw [h]; exact List.mem_cons_self
    have := lkF_lt this
    omega
theorem enum_filter (T : Nat → Bool) (p : D → Bool) (q : D → D) (hp : ∀ (i : Int) (f : Nat), p (.tup [.int i, nat f]) = T f) (hq : ∀ (i : Int) (f : Nat), q (.tup [.int i, nat f]) = .int i) : ∀ (fs : List Nat) (c : Nat), ((enumL (c : Int) (fs.map nat)).filter p).map q = (lkF T c fs).map nat
  | [], c => rfl
  | f :: fs, c => by
    have ih := enum_filter T p q hp hq fs (c + 1)
    have e : ((c + 1 : Nat) : Int) = (c : Int) + 1 := by omega
    rw [e] at ih
    rw [List.map_cons]
    unfold enumL lkF
    rw [List.filter_cons, hp]
    split
    · rw [List.map_cons, List.map_cons, ih, hq]; rfl
    · exact ih
theorem kinds_lc {u : Nat} {x : Str} {m : Mir G} (h : Γ[u]? = some (x, .fn 3 m)) {M F0 : D} {A : Pr → Option (Nat × Int)} {P : Pr → Prop} (hA : SAn m M M P A) {k : Nat} {x4 : Option (Bool × D)} (g : G) : ∀ (fs : List Nat) (c : Nat), (∀ f ∈ fs, P (f, k)) →
    lcL (.tp [5, 6]) (ev K Γ (c_kinds_of_t1 u)) (ev K Γ c_kinds_of_e1) [5, 6] (enumL (c : Int) (fs.map nat)) ⟨[some (false, M), some (true, F0), none, some (false, nat k), x4, none, none], g⟩ = .ok ((lkF (fun f => (A (f, k)).isSome) c fs).map nat) ⟨[some (false, M), some (true, F0), none, some (false, nat k), x4, none, none], g⟩
  | [], c, _ => rfl
  | f :: fs, c, hP => by
    have ih := kinds_lc h hA (x4 := x4) (F0 := F0) g fs (c + 1) fun y hy => hP y (List.mem_cons_of_mem _ hy)
    have e1 : ((c + 1 : Nat) : Int) = (c : Int) + 1 := by omega
    rw [e1] at ih
    have et : ev K Γ (c_kinds_of_t1 u) ⟨[some (false, M), some (true, F0), none, some (false, nat k), x4, some (false, .int (c : Int)), some (false, nat f)], g⟩ = .ok (.vl (.bl (A (f, k)).isSome)) ⟨[some (false, M), some (true, F0), none, some (false, nat k), x4, some (false, .int (c : Int)), some (false, nat f)], g⟩ := by
      have e := hA (f, k) g (hP f List.mem_cons_self)
      rw [pD_eq] at e
      unfold c_kinds_of_t1 nat
      cases q : A (f, k) with
      | none => rw [q] at e; simp [h, e, ansD]
      | some r => rw [q] at e; simp [h, e, ansD, cD]
    rw [List.map_cons]
    unfold enumL lkF
    have stp : ∀ ds, lcL (.tp [5, 6]) (ev K Γ (c_kinds_of_t1 u)) (ev K Γ c_kinds_of_e1) [5, 6] (.tup [.int (c : Int), nat f] :: ds) ⟨[some (false, M), some (true, F0), none, some (false, nat k), x4, none, none], g⟩ = if (A (f, k)).isSome = true then (lcL (.tp [5, 6]) (ev K Γ (c_kinds_of_t1 u)) (ev K Γ c_kinds_of_e1) [5, 6] ds ⟨[some (false, M), some (true, F0), none, some (false, nat k), x4, none, none], g⟩).bind fun rs s5 => .ok (.int (c : Int) :: rs) s5 else lcL (.tp [5, 6]) (ev K Γ (c_kinds_of_t1 u)) (ev K Γ c_kinds_of_e1) [5, 6] ds ⟨[some (false, M), some (true, F0), none, some (false, nat k), x4, none, none], g⟩ := fun ds => by
      have ea : asgT (.tp [5, 6]) (.tup [.int (c : Int), nat f]) (⟨[some (false, M), some (true, F0), none, some (false, nat k), x4, none, none], g⟩ : Sg G) = some ⟨[some (false, M), some (true, F0), none, some (false, nat k), x4, some (false, .int (c : Int)), some (false, nat f)], g⟩ := rfl
      conv => lhs; unfold lcL
      rw [ea]
      simp only []
      rw [et]
      cases q : (A (f, k)).isSome <;> rfl
    rw [stp, ih]
    by_cases q : (A (f, k)).isSome = true
    · simp only [if_pos q]; rfl
    · simp only [if_neg q]
theorem kinds_turn {u : Nat} {x : Str} {m : Mir G} (h : Γ[u]? = some (x, .fn 3 m)) {M : D} {A : Pr → Option (Nat × Int)} {P : Pr → Prop} (hA : SAn m M M P A) {k : Nat} (hP : ∀ f ∈ kfs A k, P (f, k)) (hk : k ≤ 8) {x4 : Option (Bool × D)} (g : G) :
    ∃ y4, ex K Γ (c_kinds_of_b1 u) ⟨[some (false, M), some (true, .lst ((List.range k).map fun i => nat (kno A i))), some (true, .lst ((kfs A k).map nat)), some (false, nat k), x4, none, none], g⟩ = .nx ⟨[some (false, M), some (true, .lst ((List.range (k + 1)).map fun i => nat (kno A i))), some (true, .lst ((kfs A (k + 1)).map nat)), some (false, nat k), y4, none, none], g⟩ := by
  have lc := kinds_lc (K := K) h hA (x4 := x4) (F0 := .lst ((List.range k).map fun i => nat (kno A i))) g (kfs A k) 0 hP
  have kl := kfs_len A k
  have er : (List.range (k + 1)).map (fun i => nat (kno A i)) = ((List.range k).map fun i => nat (kno A i)) ++ [nat (kno A k)] := by rw [List.range_succ, List.map_append]; rfl
  have ef : kfs A (k + 1) = if kli A k = [] then kfs A k ++ [k] else kfs A k := rfl
  have l1 : ((List.range k).map fun i => nat (kno A i)).length = k := by simp
  rw [er, ef]
  have lcd : lkF (fun f => (A (f, k)).isSome) 0 (kfs A k) = kli A k := rfl
  rw [lcd] at lc
  have lk : kno A k = match kli A k with
    | [] => (kfs A k).length
    | a :: _ => a := rfl
  have ll : (kli A k).length ≤ 8 := by
    have : (kli A k).length ≤ (kfs A k).length := by
      rw [← lcd, ← lkF_range]
      refine Nat.le_trans (List.length_filter_le ..) ?_
      simp
    omega
  generalize (List.range k).map (fun i => nat (kno A i)) = F0 at lc l1 ⊢
  generalize kno A k = nk at lk ⊢
  generalize kli A k = li at lc lk ll ⊢
  generalize kfs A k = fs at lc kl hP lk ⊢
  have s1 : ex K Γ (.asg 4 (.hl1 c_kinds_of_e1 (.tp [5, 6]) 2 true (c_kinds_of_t1 u) [5, 6])) ⟨[some (false, M), some (true, .lst F0), some (true, .lst (fs.map nat)), some (false, nat k), x4, none, none], g⟩ = .nx ⟨[some (false, M), some (true, .lst F0), some (true, .lst (fs.map nat)), some (false, nat k), some (true, .lst (li.map nat)), none, none], g⟩ := by
    have sz : (enumL 0 (fs.map nat)).length ≤ sizeLine := size_ge (by rw [enumL_len]; simp; omega)
    show exAsg 4 (evHid 2 true (.tp [5, 6]) (ev K Γ (c_kinds_of_t1 u)) (ev K Γ c_kinds_of_e1) [5, 6]) _ = _
    have e : evHid 2 true (.tp [5, 6]) (ev K Γ (c_kinds_of_t1 u)) (ev K Γ c_kinds_of_e1) [5, 6] ⟨[some (false, M), some (true, .lst F0), some (true, .lst (fs.map nat)), some (false, nat k), x4, none, none], g⟩ = .ok (.fr (.lst (li.map nat))) ⟨[some (false, M), some (true, .lst F0), some (true, .lst (fs.map nat)), some (false, nat k), x4, none, none], g⟩ := by
      have lc : lcL (.tp [5, 6]) (ev K Γ (c_kinds_of_t1 u)) (ev K Γ c_kinds_of_e1) [5, 6] (enumL 0 (fs.map nat)) ⟨[some (false, M), some (true, .lst F0), none, some (false, nat k), x4, none, none], g⟩ = .ok (li.map nat) ⟨[some (false, M), some (true, .lst F0), none, some (false, nat k), x4, none, none], g⟩ := lc
      show (evLcD (enumL 0 (fs.map nat)) _ _ _ _ ⟨[some (false, M), some (true, .lst F0), none, some (false, nat k), x4, none, none], g⟩).bind _ = _
      unfold evLcD
      rw [if_pos sz]
      show ((lcL (.tp [5, 6]) (ev K Γ (c_kinds_of_t1 u)) (ev K Γ c_kinds_of_e1) [5, 6] (enumL 0 (fs.map nat)) ⟨[some (false, M), some (true, .lst F0), none, some (false, nat k), x4, none, none], g⟩).bind _).bind _ = _
      rw [lc]
      rfl
    unfold exAsg exE
    rw [e]
    rfl
  unfold c_kinds_of_b1
  rw [seq_nx s1]
  refine ⟨some (true, .lst (li.map nat)), ?_⟩
  have pl : (li.map nat).all (plain 59) = true := by
    rw [List.all_eq_true]; intro d hd; obtain ⟨p, _, rfl⟩ := List.mem_map.mp hd; rfl
  have en := eq_nil pl
  have sz1 : F0.length < sizeLine := by
    have : 8 < sizeLine := by decide +kernel
    omega
  have sz2 : (fs.map nat).length < sizeLine := by
    have : 8 < sizeLine := by decide +kernel
    simp; omega
  cases li with
  | nil =>
    have lk : nk = fs.length := lk
    subst lk
    have en : eqO (.lst []) (.lst []) = some (.vl (.bl true)) := eq_nil pl
    rw [List.map_nil]
    simp [en, sz1, show fs.length < sizeLine by simpa using sz2, nat]
  | cons a li =>
    have lk : nk = a := lk
    subst lk
    have en : eqO (.lst (.int (nk : Int) :: li.map nat)) (.lst []) = some (.vl (.bl false)) := eq_nil pl
    rw [List.map_cons]
    simp [en, sz1, nat]
end
end BF
set_option Elab.async false
set_option linter.all false
set_option autoImplicit false
set_option maxRecDepth 100000
set_option maxHeartbeats 1000000
namespace BF
open PySem PySem.Spec PyProof.Rows L2
theorem intsD_lo (lo n : Nat) : intsD (lo : Int) n = (List.range' lo n).map nat := by
  unfold intsD nat
  rw [List.range'_eq_map_range, List.map_map]
  refine List.map_congr_left fun i _ => ?_
  show D.int _ = D.int _
  congr 1
/-- a for over a range: I by the turn -/
theorem forR {G : Type} {t : Tg} {body : Sg G → Ro G} {lo n : Nat} (I : Nat → Sg G → Prop) (h : ∀ k s, lo ≤ k → k < lo + n → I k s → ∃ s1 s2, asgT t (nat k) s = some s1 ∧ body s1 = .nx s2 ∧ I (k + 1) s2) (s : Sg G) (h0 : I lo s) : ∃ s', forL t body (intsD (lo : Int) n) s = .nx s' ∧ I (lo + n) s' := by
  rw [intsD_lo]
  obtain ⟨s', e, k, hk, ek, i⟩ := forL_ind (t := t) (body := body) (fun ds s => ∃ k, lo ≤ k ∧ k ≤ lo + n ∧ ds = (List.range' k (lo + n - k)).map nat ∧ I k s) (fun d ds s ⟨k, h1, h2, e, i⟩ => by
    have hlt : k < lo + n := by
      apply Classical.byContradiction
      intro z
      rw [show lo + n - k = 0 by omega] at e
      cases e
    rw [show lo + n - k = (lo + n - (k + 1)) + 1 by omega, List.range'_succ, List.map_cons] at e
    cases e
    obtain ⟨s1, s2, q1, q2, q3⟩ := h k s h1 hlt i
    exact ⟨s1, s2, q1, q2, k + 1, by omega, by omega, rfl, q3⟩) ((List.range' lo n).map nat) s ⟨lo, Nat.le_refl _, by omega, by rw [Nat.add_sub_cancel_left], h0⟩
  refine ⟨s', e, ?_⟩
  obtain ⟨hk2, ek, i⟩ : k ≤ lo + n ∧ [] = (List.range' k (lo + n - k)).map nat ∧ I k s' := ⟨ek, i⟩
  have : k = lo + n := by
    have := congrArg List.length ek
    simp at this
    omega
  subst this
  exact i
section
variable {G : Type} {K : Env1} {Γ : Gam G}
theorem s_kinds_of {u : Nat} {x : Str} {m : Mir G} (h : Γ[u]? = some (x, .fn 3 m)) {s : List (List Nat)} {good : List Nat} {A : Pr → Option (Nat × Int)} {P : Pr → Prop} (hA : SAn m (machD s good) (machD s good) P A) (hP : ∀ a b, a < s.length → b < s.length → P (a, b)) (hn : s.length ≤ 8) (g : G) :
    runF N_kinds_of.length (ex K Γ (c_kinds_of u)) [machD s good] g = .ok (.lst ((List.range s.length).map fun i => nat (kno A i))) g := by
  refine run_rt (sl := [some (false, machD s good), none, none, none, none, none, none]) rfl ?_
  unfold c_kinds_of
  have s1 : ex K Γ (.par [1, 2] (.cons (.lst .nil) (.cons (.lst .nil) .nil))) ⟨[some (false, machD s good), none, none, none, none, none, none], g⟩ = .nx ⟨[some (false, machD s good), some (true, .lst []), some (true, .lst []), none, none, none, none], g⟩ := rfl
  rw [seq_nx s1]
  have it : evI K Γ (.rg1 (.blt .len (.cons (.ix (.attr "Machine" "parts" (.var 0)) (.cst (.int 0))) .nil))) ⟨[some (false, machD s good), some (true, .lst []), some (true, .lst []), none, none, none, none], g⟩ = .ok (intsD ((0 : Nat) : Int) s.length) ⟨[some (false, machD s good), some (true, .lst []), some (true, .lst []), none, none, none, none], g⟩ := by
    have rb : rgB (s.length : Int) = true := by unfold rgB; simp; omega
    simp [rb]
  obtain ⟨s', e, x3, y4, es⟩ := forR (t := .nm 3) (body := ex K Γ (c_kinds_of_b1 u)) (lo := 0) (n := s.length) (fun k st => ∃ x3 y4, st = ⟨[some (false, machD s good), some (true, .lst ((List.range k).map fun i => nat (kno A i))), some (true, .lst ((kfs A k).map nat)), x3, y4, none, none], g⟩) (fun k st _ hk ⟨x3, y4, es⟩ => by
    subst es
    obtain ⟨y4', e⟩ := kinds_turn (K := K) h hA (k := k) (fun f hf => hP f k (Nat.lt_trans (kfs_lt hf) (by omega)) (by omega)) (by omega) (x4 := y4) g
    exact ⟨_, _, rfl, e, some (false, nat k), y4', rfl⟩) ⟨[some (false, machD s good), some (true, .lst []), some (true, .lst []), none, none, none, none], g⟩ ⟨none, none, rfl⟩
  have s2 := (ex_for (t := .nm 3) (b := c_kinds_of_b1 u) it).trans e
  rw [seq_nx s2, es, Nat.zero_add]
  exact seq_rt rfl
theorem s_kinds {u : Nat} {x : Str} {m : Mir G} (h : Γ[u]? = some (x, .fn 1 m)) {M : D} {ds : List D} {g : G} (e : m [M] g = .ok (.lst ds) g) : runF N_kinds.length (ex K Γ (c_kinds u)) [M] g = .ok (.tup ds) g := by
  unfold c_kinds N_kinds
  simp [h, e]
end
end BF
set_option Elab.async false
set_option linter.all false
set_option autoImplicit false
set_option maxRecDepth 100000
set_option maxHeartbeats 1000000
namespace BF
open PySem PySem.Spec PyProof.Rows L2
/-! ## by length -/
/-- at each place a number -/
def dF (cs : List Pr) (h : Pr → Nat) : D := dM nat (cs.map fun p => (p, h p))
theorem dF_get {cs : List Pr} {h : Pr → Nat} {p : Pr} (hp : p ∈ cs) : ixO2 (dF cs h) (pD p) = some (.vl (nat (h p))) := by
  unfold dF
  rw [ixO2_pD]
  have : lk (cs.map fun p => (p, h p)) p = some (h p) := by
    induction cs with
    | nil => cases hp
    | cons k ks ih =>
      rw [List.map_cons]
      unfold lk
      by_cases c : k = p
      · rw [if_pos c, c]
      · rw [if_neg c]
        exact ih ((List.mem_cons.mp hp).resolve_left fun z => c z.symm)
  rw [this]
  rfl
theorem dF_put {cs : List Pr} {h : Pr → Nat} {p : Pr} (hp : p ∉ cs) (hl : cs.length ≤ 100) : sortB ((cs.map fun q => (pD q, nat (h q))).map (·.1)) (pD p) = true ∧ (cs.map fun q => (pD q, nat (h q))).length < sizeLine ∧ putK (cs.map fun q => (pD q, nat (h q))) (pD p) (nat (h p)) = (cs ++ [p]).map fun q => (pD q, nat (h q)) := by
  have e : (cs.map fun q => (pD q, nat (h q))) = (cs.map fun q => (q, h q)).map fun q => (pD q.1, nat q.2) := by simp
  have k : (cs.map fun q => (q, h q)).map (·.1) = cs := by simp [Function.comp_def]
  refine ⟨?_, ?_, ?_⟩
  · rw [e]; exact sortB_pD nat _ p
  · rw [List.length_map]; exact sz64 (by omega)
  · rw [e, putK_pD, pt_new (by rw [k]; exact hp), List.map_append, List.map_append]
    simp
theorem dF_eq (cs : List Pr) (h : Pr → Nat) : dF cs h = .dct (cs.map fun q => (pD q, nat (h q))) := by
  unfold dF dM
  simp
section
variable {G : Type} {K : Env1} {Γ : Gam G}
theorem bl_e1 {u : Nat} {x : Str} {m : Mir G} (h : Γ[u]? = some (x, .fn 3 m)) {M1 M2 : D} {f : Pr → Nat} (hu : SUn m M1 M2 f) (hf1 : ∀ p, f p ≤ 1) {x2 x3 x4 x5 x7 x8 x9 : Option (Bool × D)} (p : Pr) (g : G) :
    ev K Γ (c_by_length_e1 u) ⟨[some (false, M1), some (false, M2), x2, x3, x4, x5, some (false, pD p), x7, x8, x9], g⟩ = .ok (.vl (nat (f p))) ⟨[some (false, M1), some (false, M2), x2, x3, x4, x5, some (false, pD p), x7, x8, x9], g⟩ := by
  have e := hu p g
  have := hf1 p
  unfold c_by_length_e1
  generalize pD p = pd at e ⊢
  by_cases c : 0 < f p
  · have : f p = 1 := by omega
    rw [this] at e ⊢
    simp [h, e]
  · have : f p = 0 := by omega
    rw [this] at e ⊢
    simp [h, e]
theorem bl_nst {u : Nat} {x : Str} {m : Mir G} (h : Γ[u]? = some (x, .fn 3 m)) {M1 M2 : D} {f : Pr → Nat} (hu : SUn m M1 M2 f) (hf1 : ∀ p, f p ≤ 1) {x2 x3 x4 x7 x8 x9 : Option (Bool × D)} (g : G) : ∀ (rest done : List Pr) (x6 : Option (Bool × D)), (done ++ rest).Nodup → (done ++ rest).length ≤ 100 →
    ∃ y6, nstL (.nm 6) (ev K Γ c_by_length_k1) (ev K Γ (c_by_length_e1 u)) (rest.map pD) (done.map fun q => (pD q, nat (f q))) ⟨[some (false, M1), some (false, M2), x2, x3, x4, none, x6, x7, x8, x9], g⟩ = some ((done ++ rest).map fun q => (pD q, nat (f q)), ⟨[some (false, M1), some (false, M2), x2, x3, x4, none, y6, x7, x8, x9], g⟩)
  | [], done, x6, _, _ => ⟨x6, by rw [List.append_nil]; rfl⟩
  | p :: rest, done, x6, hn, hl => by
    have hn' : (done ++ [p] ++ rest).Nodup := by rw [List.append_assoc]; exact hn
    obtain ⟨y6, e⟩ := bl_nst h hu hf1 (x2 := x2) (x3 := x3) (x4 := x4) (x7 := x7) (x8 := x8) (x9 := x9) g rest (done ++ [p]) (some (false, pD p)) hn' (by simp at hl ⊢; omega)
    have hp : p ∉ done := fun z => (List.nodup_append.mp hn).2.2 p z p List.mem_cons_self rfl
    obtain ⟨k1, k2, k3⟩ := dF_put (h := f) hp (by simp at hl; omega)
    refine ⟨y6, ?_⟩
    rw [List.append_assoc] at e
    rw [List.map_cons]
    unfold nstL
    have ea : asgT (.nm 6) (pD p) (⟨[some (false, M1), some (false, M2), x2, x3, x4, none, x6, x7, x8, x9], g⟩ : Sg G) = some ⟨[some (false, M1), some (false, M2), x2, x3, x4, none, some (false, pD p), x7, x8, x9], g⟩ := rfl
    rw [ea]
    simp only []
    rw [bl_e1 h hu hf1 p g]
    simp only []
    have eu : use (⟨[some (false, M1), some (false, M2), x2, x3, x4, none, some (false, pD p), x7, x8, x9], g⟩ : Sg G) (.vl (nat (f p))) = .ok (nat (f p)) ⟨[some (false, M1), some (false, M2), x2, x3, x4, none, some (false, pD p), x7, x8, x9], g⟩ := rfl
    rw [eu]
    simp only []
    have ek : ev K Γ c_by_length_k1 ⟨[some (false, M1), some (false, M2), x2, x3, x4, none, some (false, pD p), x7, x8, x9], g⟩ = .ok (.pl 6) ⟨[some (false, M1), some (false, M2), x2, x3, x4, none, some (false, pD p), x7, x8, x9], g⟩ := rfl
    rw [ek]
    simp only []
    have eu2 : use (⟨[some (false, M1), some (false, M2), x2, x3, x4, none, some (false, pD p), x7, x8, x9], g⟩ : Sg G) (.pl 6) = .ok (pD p) ⟨[some (false, M1), some (false, M2), x2, x3, x4, none, some (false, pD p), x7, x8, x9], g⟩ := rfl
    rw [eu2]
    simp only []
    rw [if_pos ⟨k1, k2⟩, k3]
    exact e
theorem bl_sum {M1 M2 : D} {cs : List Pr} {h : Pr → Nat} {fs : List Pr} (hf : ∀ q ∈ fs, q ∈ cs) {fd : List D} (hl : L2.atI fd (-1) = some (dF cs h)) {x2 x3 x4 x6 x7 x8 : Option (Bool × D)} (g : G) :
    lcL (.nm 9) (evC (.bl true)) (ev K Γ c_by_length_e2) [9] (fs.map pD) ⟨[some (false, M1), some (false, M2), x2, x3, x4, some (true, .lst fd), x6, x7, x8, none], g⟩ = .ok (fs.map fun q => D.int (h q)) ⟨[some (false, M1), some (false, M2), x2, x3, x4, some (true, .lst fd), x6, x7, x8, none], g⟩ := by
  have := lcL_mapN (fe := ev K Γ c_by_length_e2) (i := 9) (s0 := ⟨[some (false, M1), some (false, M2), x2, x3, x4, some (true, .lst fd), x6, x7, x8, none], g⟩) (fun d => match ixO2 (dF cs h) d with
    | some (.vl z) => z
    | _ => .non) rfl (fs.map pD) fun d hd => by
      obtain ⟨r, hr, rfl⟩ := List.mem_map.mp hd
      have e := dF_get (h := h) (hf r hr)
      show ev K Γ c_by_length_e2 ⟨[some (false, M1), some (false, M2), x2, x3, x4, some (true, .lst fd), x6, x7, x8, some (false, pD r)], g⟩ = _
      rw [e]
      generalize dF cs h = dc at hl e ⊢
      generalize pD r = pd at e ⊢
      unfold c_by_length_e2
      simp [hl, e]
  rw [this, List.map_map]
  congr 1
  refine List.map_congr_left fun r hr => ?_
  have e := dF_get (h := h) (hf r hr)
  show (match ixO2 (dF cs h) (pD r) with
    | some (.vl z) => z
    | _ => .non) = _
  rw [e]
  rfl
theorem bl_turn {u : Nat} {x : Str} {m : Mir G} (hu : Γ[u]? = some (x, .fn 3 m)) {M1 M2 : D} {go : Pr → List Pr} {P : Pr → Prop} (hg : SGo m M1 M2 go P) (gp : Gp go P) {cs : List Pr} {h : Pr → Nat} (hc : ∀ p ∈ cs, ∀ q ∈ go p, q ∈ cs) (hP : ∀ p ∈ cs, P p) {fd : List D} (hl : L2.atI fd (-1) = some (dF cs h)) {x2 x3 x4 x7 : Option (Bool × D)} (g : G) : ∀ (rest done : List Pr) (x6 : Option (Bool × D)), (done ++ rest).Nodup → (done ++ rest).length ≤ 100 → (∀ p ∈ rest, p ∈ cs) →
    ∃ y6, forL (.nm 6) (ex K Γ (c_by_length_b1 u)) (rest.map pD) ⟨[some (false, M1), some (false, M2), x2, x3, x4, some (true, .lst fd), x6, x7, some (true, dF done fun p => ((go p).map h).sum), none], g⟩ = .nx ⟨[some (false, M1), some (false, M2), x2, x3, x4, some (true, .lst fd), y6, x7, some (true, dF (done ++ rest) fun p => ((go p).map h).sum), none], g⟩
  | [], done, x6, _, _, _ => ⟨x6, by rw [List.append_nil]; rfl⟩
  | p :: rest, done, x6, hn, hll, hr => by
    have hn' : (done ++ [p] ++ rest).Nodup := by rw [List.append_assoc]; exact hn
    obtain ⟨y6, e⟩ := bl_turn hu hg gp hc hP hl (x2 := x2) (x3 := x3) (x4 := x4) (x7 := x7) g rest (done ++ [p]) (some (false, pD p)) hn' (by simp at hll ⊢; omega) fun y hy => hr y (List.mem_cons_of_mem _ hy)
    have hp : p ∉ done := fun z => (List.nodup_append.mp hn).2.2 p z p List.mem_cons_self rfl
    have pc : p ∈ cs := hr p List.mem_cons_self
    obtain ⟨k1, k2, k3⟩ := dF_put (h := fun p => ((go p).map h).sum) hp (by simp at hll; omega)
    rw [List.append_assoc] at e
    refine ⟨y6, forL_cons (s1 := ⟨[some (false, M1), some (false, M2), x2, x3, x4, some (true, .lst fd), some (false, pD p), x7, some (true, dF done fun p => ((go p).map h).sum), none], g⟩) (s2 := ⟨[some (false, M1), some (false, M2), x2, x3, x4, some (true, .lst fd), some (false, pD p), x7, some (true, dF (done ++ [p]) fun p => ((go p).map h).sum), none], g⟩) rfl ?_ e⟩
    have eg := hg p g (hP p pc)
    have lc := bl_sum (K := K) (Γ := Γ) (M1 := M1) (M2 := M2) (h := h) (hc p pc) hl (x2 := x2) (x3 := x3) (x4 := x4) (x6 := some (false, pD p)) (x7 := x7) (x8 := some (true, dF done fun p => ((go p).map h).sum)) g
    have st : stO (dF done fun p => ((go p).map h).sum) (pD p) (.int ((((go p).map h).sum : Nat) : Int)) = some (dF (done ++ [p]) fun p => ((go p).map h).sum) := by
      rw [dF_eq, dF_eq]
      show (if sortB ((done.map fun q => (pD q, nat (((go q).map h).sum))).map (·.1)) (pD p) = true ∧ _ then _ else _) = _
      rw [if_pos ⟨k1, k2⟩]
      exact congrArg (fun z => some (D.dct z)) k3
    have i1 := intsOf_map' (go p) fun q => (h q : Int)
    have is : ((go p).map fun q => (h q : Int)).sum = (((go p).map h).sum : Nat) := by
      generalize go p = l
      induction l with
      | nil => rfl
      | cons a l ih => simp only [List.map_cons, List.sum_cons, ih]; omega
    have sz : ((go p).map pD).length ≤ sizeLine := size_ge (by have := gp.len p (hP p pc); simp; omega)
    obtain ⟨kvs, ek⟩ : ∃ kvs, dF done (fun p => ((go p).map h).sum) = .dct kvs := ⟨_, dF_eq ..⟩
    generalize dF (done ++ [p]) (fun p => ((go p).map h).sum) = d2 at st ⊢
    rw [ek] at st lc ⊢
    generalize (go p).map pD = gs at eg sz lc
    generalize ((go p).map h).sum = sm at is st
    generalize ((go p).map fun q => (h q : Int)) = ys at i1 is
    generalize ((go p).map fun q => D.int (h q)) = zs at i1 lc
    generalize pD p = pd at eg lc st ⊢
    unfold c_by_length_b1
    simp [hu, eg, sz, lc, sumO, i1, is, st]
end
end BF
set_option Elab.async false
set_option linter.all false
set_option autoImplicit false
set_option maxRecDepth 100000
set_option maxHeartbeats 1000000
namespace BF
open PySem PySem.Spec PyProof.Rows L2
theorem atI_last {α : Type} (l : List α) (x : α) : L2.atI (l ++ [x]) (-1) = some x := by
  unfold L2.atI L2.ixN
  rw [if_neg (by omega), if_pos (by simp; omega)]
  have e : (-1 + ((l ++ [x]).length : Int)).toNat = l.length := by simp; omega
  rw [e]
  simp
section
variable {G : Type} {K : Env1} {Γ : Gam G}
theorem nst_nx {i : Nat} {t : Tg} {it : Ci} {k e : Ce} {r : Cs} {st st1 : Sg G} (h : exNst i t (evI K Γ it) (ev K Γ k) (ev K Γ e) st = .nx st1) : ex K Γ (.nst i t it k e r) st = ex K Γ r st1 := by
  show exSeq (exNst i t (evI K Γ it) (ev K Γ k) (ev K Γ e)) (ex K Γ r) st = _
  unfold exSeq
  rw [h]
def blD (cs : List Pr) (go : Pr → List Pr) (f : Pr → Nat) (k : Nat) : D := dF cs fun p => Gr.cf go k f p
def SBl (m : Mir G) (M1 M2 : D) (go : Pr → List Pr) (f : Pr → Nat) (P : Pr → Prop) : Prop := ∀ (b : Pr) (n : Nat) (g : G), P b → n ≤ 300 → ∃ cs, CmOk go P b cs ∧ m [M1, M2, pD b, .int n] g = .ok (.lst ((List.range (n + 1)).map (blD cs go f))) g
theorem s_by_length {u1 u2 u3 : Nat} {x1 x2 x3 : Str} {m1 m2 m3 : Mir G} (h1 : Γ[u1]? = some (x1, .fn 3 m1)) (h2 : Γ[u2]? = some (x2, .fn 3 m2)) (h3 : Γ[u3]? = some (x3, .fn 3 m3)) {M1 M2 : D} {go : Pr → List Pr} {f : Pr → Nat} {P : Pr → Prop} (hc : SCm m1 M1 M2 go P) (hu : SUn m2 M1 M2 f) (hg : SGo m3 M1 M2 go P) (hf1 : ∀ p, f p ≤ 1) (gp : Gp go P) :
    SBl (runF N_by_length.length (ex K Γ (c_by_length u1 u2 u3))) M1 M2 go f P := by
  intro b n g hb hn
  obtain ⟨cs, ec, ok⟩ := hc b g hb
  have c64 := gp.fin cs ok.nd ok.inn
  refine ⟨cs, ok, run_rt (sl := [some (false, M1), some (false, M2), some (false, pD b), some (false, .int n), none, none, none, none, none, none]) rfl ?_⟩
  unfold c_by_length
  have s1 : ex K Γ (.asg 4 (.call u1 (.cons (.var 0) (.cons (.var 1) (.cons (.var 2) .nil))))) ⟨[some (false, M1), some (false, M2), some (false, pD b), some (false, .int n), none, none, none, none, none, none], g⟩ = .nx ⟨[some (false, M1), some (false, M2), some (false, pD b), some (false, .int n), some (false, .lst (cs.map pD)), none, none, none, none, none], g⟩ := by
    generalize pD b = pb at ec ⊢
    generalize cs.map pD = cd at ec ⊢
    simp [h1, ec]
  rw [seq_nx s1]
  obtain ⟨y6, en⟩ := bl_nst (K := K) h2 hu hf1 (x2 := some (false, pD b)) (x3 := some (false, .int n)) (x4 := some (false, .lst (cs.map pD))) (x7 := none) (x8 := none) (x9 := none) g cs [] none (by simpa using ok.nd) (by simp; omega)
  have s2 : exNst 5 (.nm 6) (evI K Γ (.seq (.var 4))) (ev K Γ c_by_length_k1) (ev K Γ (c_by_length_e1 u2)) ⟨[some (false, M1), some (false, M2), some (false, pD b), some (false, .int n), some (false, .lst (cs.map pD)), none, none, none, none, none], g⟩ = .nx ⟨[some (false, M1), some (false, M2), some (false, pD b), some (false, .int n), some (false, .lst (cs.map pD)), some (true, .lst [blD cs go f 0]), y6, none, none, none], g⟩ := by
    unfold exNst
    rw [if_pos ⟨show 5 < 10 by omega, rfl⟩]
    have ei : evI K Γ (.seq (.var 4)) (hidS ⟨[some (false, M1), some (false, M2), some (false, pD b), some (false, .int n), some (false, .lst (cs.map pD)), none, none, none, none, none], g⟩ 5) = .ok (cs.map pD) ⟨[some (false, M1), some (false, M2), some (false, pD b), some (false, .int n), some (false, .lst (cs.map pD)), none, none, none, none, none], g⟩ := rfl
    rw [ei]
    simp only []
    have en : nstL (.nm 6) (ev K Γ c_by_length_k1) (ev K Γ (c_by_length_e1 u2)) (cs.map pD) [] ⟨[some (false, M1), some (false, M2), some (false, pD b), some (false, .int n), some (false, .lst (cs.map pD)), none, none, none, none, none], g⟩ = _ := en
    rw [en]
    show Ro.nx _ = Ro.nx _
    rw [show blD cs go f 0 = .dct (cs.map fun q => (pD q, nat (f q))) from dF_eq cs f]
    rfl
  rw [nst_nx s2]
  obtain ⟨s', e, y6', y7, y8, b8, es⟩ := forR (t := .nm 7) (body := ex K Γ (c_by_length_b2 u3)) (lo := 0) (n := n) (fun k st => ∃ y6 y7 y8 b8, st = ⟨[some (false, M1), some (false, M2), some (false, pD b), some (false, .int n), some (false, .lst (cs.map pD)), some (true, .lst ((List.range (k + 1)).map (blD cs go f))), y6, y7, y8, b8], g⟩ ∧ b8 = none) (fun k st _ hk ⟨y6, y7, y8, b8, es, eb⟩ => by
    subst es
    subst eb
    have er : (List.range (k + 1)).map (blD cs go f) = (List.range k).map (blD cs go f) ++ [blD cs go f k] := by rw [List.range_succ, List.map_append]; rfl
    have hl : L2.atI ((List.range (k + 1)).map (blD cs go f)) (-1) = some (dF cs fun p => Gr.cf go k f p) := by rw [er]; exact atI_last _ _
    obtain ⟨z6, e1⟩ := bl_turn (K := K) h3 hg gp ok.cl ok.inn hl (x2 := some (false, pD b)) (x3 := some (false, .int n)) (x4 := some (false, .lst (cs.map pD))) (x7 := some (false, nat k)) g cs [] y6 (by simpa using ok.nd) (by simp; omega) (fun p hp => hp)
    rw [List.nil_append] at e1
    have e1 : forL (.nm 6) (ex K Γ (c_by_length_b1 u3)) (cs.map pD) ⟨[some (false, M1), some (false, M2), some (false, pD b), some (false, .int n), some (false, .lst (cs.map pD)), some (true, .lst ((List.range (k + 1)).map (blD cs go f))), y6, some (false, nat k), some (true, .dct []), none], g⟩ = .nx ⟨[some (false, M1), some (false, M2), some (false, pD b), some (false, .int n), some (false, .lst (cs.map pD)), some (true, .lst ((List.range (k + 1)).map (blD cs go f))), z6, some (false, nat k), some (true, blD cs go f (k + 1)), none], g⟩ := e1
    have er2 : (List.range (k + 1 + 1)).map (blD cs go f) = (List.range (k + 1)).map (blD cs go f) ++ [blD cs go f (k + 1)] := by rw [List.range_succ, List.map_append]; rfl
    refine ⟨_, _, rfl, ?_, z6, some (false, nat k), some (false, blD cs go f (k + 1)), none, rfl, rfl⟩
    rw [er2]
    have t1 : ex K Γ (.asg 8 .dnew) ⟨[some (false, M1), some (false, M2), some (false, pD b), some (false, .int n), some (false, .lst (cs.map pD)), some (true, .lst ((List.range (k + 1)).map (blD cs go f))), y6, some (false, nat k), y8, none], g⟩ = .nx ⟨[some (false, M1), some (false, M2), some (false, pD b), some (false, .int n), some (false, .lst (cs.map pD)), some (true, .lst ((List.range (k + 1)).map (blD cs go f))), y6, some (false, nat k), some (true, .dct []), none], g⟩ := rfl
    have t2 := (ex_for (K := K) (Γ := Γ) (t := .nm 6) (it := .seq (.var 4)) (b := c_by_length_b1 u3) (s := ⟨[some (false, M1), some (false, M2), some (false, pD b), some (false, .int n), some (false, .lst (cs.map pD)), some (true, .lst ((List.range (k + 1)).map (blD cs go f))), y6, some (false, nat k), some (true, .dct []), none], g⟩) (ds := cs.map pD) rfl).trans e1
    have t3 : ex K Γ (.app 5 (.var 8)) ⟨[some (false, M1), some (false, M2), some (false, pD b), some (false, .int n), some (false, .lst (cs.map pD)), some (true, .lst ((List.range (k + 1)).map (blD cs go f))), z6, some (false, nat k), some (true, blD cs go f (k + 1)), none], g⟩ = .nx ⟨[some (false, M1), some (false, M2), some (false, pD b), some (false, .int n), some (false, .lst (cs.map pD)), some (true, .lst ((List.range (k + 1)).map (blD cs go f) ++ [blD cs go f (k + 1)])), z6, some (false, nat k), some (false, blD cs go f (k + 1)), none], g⟩ := by
      have sz : ((List.range (k + 1)).map (blD cs go f)).length < sizeLine := sz64 (by simp; omega)
      generalize (List.range (k + 1)).map (blD cs go f) = R at sz ⊢
      generalize blD cs go f (k + 1) = d
      generalize cs.map pD = cd
      generalize pD b = pb
      simp [sz]
    show ex K Γ (c_by_length_b2 u3) ⟨[some (false, M1), some (false, M2), some (false, pD b), some (false, .int n), some (false, .lst (cs.map pD)), some (true, .lst ((List.range (k + 1)).map (blD cs go f))), y6, some (false, nat k), y8, none], g⟩ = _
    unfold c_by_length_b2
    rw [seq_nx t1, seq_nx t2, seq_nx t3]
    rfl) ⟨[some (false, M1), some (false, M2), some (false, pD b), some (false, .int n), some (false, .lst (cs.map pD)), some (true, .lst [blD cs go f 0]), y6, none, none, none], g⟩ ⟨y6, none, none, none, rfl, rfl⟩
  have it : evI K Γ (.rg1 (.var 3)) ⟨[some (false, M1), some (false, M2), some (false, pD b), some (false, .int n), some (false, .lst (cs.map pD)), some (true, .lst [blD cs go f 0]), y6, none, none, none], g⟩ = .ok (intsD ((0 : Nat) : Int) n) ⟨[some (false, M1), some (false, M2), some (false, pD b), some (false, .int n), some (false, .lst (cs.map pD)), some (true, .lst [blD cs go f 0]), y6, none, none, none], g⟩ := by
    have rb : rgB (n : Int) = true := rgB_small (by omega) (by omega)
    generalize blD cs go f 0 = d
    generalize cs.map pD = cd
    generalize pD b = pb
    simp [rb]
  have s3 := (ex_for (t := .nm 7) (b := c_by_length_b2 u3) it).trans e
  rw [seq_nx s3, es.1, Nat.zero_add]
  exact seq_rt rfl
theorem s_check_pair {s1 s2 : List (List Nat)} {L : Nat} {g1 g2 : List Nat} (S1 : StOk s1 L) (S2 : StOk s2 L) (g : G) : runF N_check_pair.length (ex K Γ c_check_pair) [machD s1 g1, machD s2 g2] g = .ok .non g := by
  obtain ⟨r1, l1, e1⟩ := S1.at0
  obtain ⟨r2, l2, e2⟩ := S2.at0
  unfold c_check_pair N_check_pair
  simp [e1, e2, l1, l2, neO, eqB]
/-- the word -/
def wD : Option (Nat × Int) → D
  | none => .str "many"
  | some c => if 0 < c.1 then .str "few" else .str "alike"
def a1D : Option (Nat × Int) → D
  | none => .non
  | some c => .int c.2
theorem s_word {u1 u2 u3 u4 u5 u6 : Nat} {x1 x2 x3 x4 x5 x6 : Str} {m1 m2 : Mir G} (h1 : Γ[u1]? = some (x1, .fn 2 m1)) (h2 : Γ[u2]? = some (x2, .fn 3 m2)) (h3 : Γ[u3]? = some (x3, .cst (.tup [.int 0, .int 0]))) (h4 : Γ[u4]? = some (x4, .cst (.str "many"))) (h5 : Γ[u5]? = some (x5, .cst (.str "few"))) (h6 : Γ[u6]? = some (x6, .cst (.str "alike"))) {M1 M2 : D} {A : Pr → Option (Nat × Int)} {P : Pr → Prop} {g : G} (c1 : m1 [M1, M2] g = .ok .non g) (hA : SAn m2 M1 M2 P A) (hp : P (0, 0)) : runF N_word.length (ex K Γ (c_word u1 u2 u3 u4 u5 u6)) [M1, M2] g = .ok (wD (A (0, 0))) g := by
  have e := hA (0, 0) g hp
  rw [pD_eq] at e
  have e : m2 [M1, M2, .tup [.int 0, .int 0]] g = .ok (ansD (A (0, 0))) g := e
  unfold c_word N_word
  cases q : A (0, 0) with
  | none => rw [q] at e; simp [h1, c1, h2, h3, h4, e, ansD, wD]
  | some c =>
    rw [q] at e
    by_cases z : 0 < c.1
    · simp [h1, c1, h2, h3, h5, e, ansD, cD, wD, z]
    · have z' : c.1 = 0 := by omega
      simp [h1, c1, h2, h3, h6, e, ansD, cD, wD, z']
theorem s_count_unlike {u1 u2 u3 : Nat} {x1 x2 x3 : Str} {m1 m2 : Mir G} (h1 : Γ[u1]? = some (x1, .fn 2 m1)) (h2 : Γ[u2]? = some (x2, .fn 3 m2)) (h3 : Γ[u3]? = some (x3, .cst (.tup [.int 0, .int 0]))) {M1 M2 : D} {A : Pr → Option (Nat × Int)} {P : Pr → Prop} {g : G} (c1 : m1 [M1, M2] g = .ok .non g) (hA : SAn m2 M1 M2 P A) (hp : P (0, 0)) : runF N_count_unlike.length (ex K Γ (c_count_unlike u1 u2 u3)) [M1, M2] g = .ok (aD (A (0, 0))) g := by
  have e := hA (0, 0) g hp
  rw [pD_eq] at e
  have e : m2 [M1, M2, .tup [.int 0, .int 0]] g = .ok (ansD (A (0, 0))) g := e
  unfold c_count_unlike N_count_unlike
  cases q : A (0, 0) with
  | none => rw [q] at e; simp [h1, c1, h2, h3, e, ansD, aD]
  | some c => rw [q] at e; simp [h1, c1, h2, h3, e, ansD, cD, aD]
theorem s_longest {u1 u2 u3 : Nat} {x1 x2 x3 : Str} {m1 m2 : Mir G} (h1 : Γ[u1]? = some (x1, .fn 2 m1)) (h2 : Γ[u2]? = some (x2, .fn 3 m2)) (h3 : Γ[u3]? = some (x3, .cst (.tup [.int 0, .int 0]))) {M1 M2 : D} {A : Pr → Option (Nat × Int)} {P : Pr → Prop} {g : G} (c1 : m1 [M1, M2] g = .ok .non g) (hA : SAn m2 M1 M2 P A) (hp : P (0, 0)) : runF N_longest.length (ex K Γ (c_longest u1 u2 u3)) [M1, M2] g = .ok (a1D (A (0, 0))) g := by
  have e := hA (0, 0) g hp
  rw [pD_eq] at e
  have e : m2 [M1, M2, .tup [.int 0, .int 0]] g = .ok (ansD (A (0, 0))) g := e
  unfold c_longest N_longest
  cases q : A (0, 0) with
  | none => rw [q] at e; simp [h1, c1, h2, h3, e, ansD, a1D]
  | some c => rw [q] at e; simp [h1, c1, h2, h3, e, ansD, cD, a1D]
theorem s_unlike_of {u1 u2 u3 u4 u5 : Nat} {x1 x2 x3 x4 x5 : Str} {m1 m2 m4 : Mir G} (h1 : Γ[u1]? = some (x1, .fn 2 m1)) (h2 : Γ[u2]? = some (x2, .fn 3 m2)) (h3 : Γ[u3]? = some (x3, .cst (.int 200))) (h4 : Γ[u4]? = some (x4, .fn 4 m4)) (h5 : Γ[u5]? = some (x5, .cst (.tup [.int 0, .int 0]))) (hm : IsInt m2) {M1 M2 : D} {go : Pr → List Pr} {f : Pr → Nat} {P : Pr → Prop} {g : G} (c1 : m1 [M1, M2] g = .ok .non g) (hb : SBl m4 M1 M2 go f P) (hp : P (0, 0)) {n : Nat} (hn : n ≤ 200) : runF N_unlike_of.length (ex K Γ (c_unlike_of u1 u2 u3 u4 u5)) [M1, M2, .int n] g = .ok (nat (Gr.cf go n f (0, 0))) g := by
  obtain ⟨cs, ok, e⟩ := hb (0, 0) n g hp (by omega)
  have e1 : L2.atI ((List.range (n + 1)).map (blD cs go f)) (n : Int) = some (blD cs go f n) := by
    have := atI_map (xs := List.range (n + 1)) (f := blD cs go f) (j := n) (by simp)
    rw [List.getElem_range] at this
    exact this
  have e2 := dF_get (h := fun p => Gr.cf go n f p) ok.bg
  rw [pD_eq] at e e2
  have e : m4 [M1, M2, .tup [.int 0, .int 0], .int n] g = _ := e
  have e2 : ixO2 (blD cs go f n) (.tup [.int 0, .int 0]) = some (.vl (.int (Gr.cf go n f (0, 0)))) := e2
  generalize (List.range (n + 1)).map (blD cs go f) = R at e e1
  generalize blD cs go f n = d at e1 e2
  generalize Gr.cf go n f (0, 0) = v at e2 ⊢
  have c : (n : Int) ≤ 200 := by omega
  unfold c_unlike_of N_unlike_of
  simp [h1, c1, h2, hm _ _ _ _, h3, c, h4, h5, e, e1, e2]
end
end BF
set_option Elab.async false
set_option linter.all false
set_option autoImplicit false
set_option maxRecDepth 100000
set_option maxHeartbeats 1000000
namespace BF
open PySem PySem.Spec PyProof.Rows L2
theorem cut_hi {ds : List D} {k : Nat} (h : k ≤ ds.length) : cutD ds none (some (k : Int)) = ds.take k := by
  unfold cutD
  rw [HT.sIx_nat, HT.sIx_none, Nat.min_eq_left h]
  simp
/-- x put at place j -/
def putAt {α : Type} (l : List α) (j : Nat) (x : α) : List α := l.take j ++ [x] ++ l.drop (j + 1)
theorem putAt_len {α : Type} {l : List α} {j : Nat} {x : α} (h : j < l.length) : (putAt l j x).length = l.length := by
  unfold putAt
  simp
  omega
theorem mem_putAt {α : Type} {l : List α} {j : Nat} {x y : α} (h : y ∈ putAt l j x) : y = x ∨ y ∈ l := by
  unfold putAt at h
  rcases List.mem_append.mp h with h | h
  · rcases List.mem_append.mp h with h | h
    · exact .inr (List.mem_of_mem_take h)
    · exact .inl (List.mem_singleton.mp h)
  · exact .inr (List.mem_of_mem_drop h)
theorem putAt_map {α β : Type} (f : α → β) (l : List α) (j : Nat) (x : α) : (l.map f).take j ++ [f x] ++ (l.map f).drop (j + 1) = (putAt l j x).map f := by
  unfold putAt
  simp
theorem StOk.put {s : List (List Nat)} {L i j v : Nat} (S : StOk s L) (hi : i < s.length) (hj : j < L) (hv : v < s.length) : StOk (putAt s i (putAt (s.getD i []) j v)) L := by
  have hl := putAt_len (x := putAt (s.getD i []) j v) hi
  obtain ⟨r1, r2⟩ := S.row hi
  refine ⟨by rw [hl]; exact S.n1, by rw [hl]; exact S.n8, S.l1, S.l3, fun r hr => ?_, fun r hr x hx => ?_⟩
  · rcases mem_putAt hr with rfl | h
    · rw [putAt_len (by rw [r1]; exact hj)]; exact r1
    · exact S.len r h
  · rw [hl]
    rcases mem_putAt hr with rfl | h
    · rcases mem_putAt hx with rfl | h
      · exact hv
      · exact r2 x h
    · exact S.lt r h x hx
theorem gd_filter {n : Nat} (q : Nat → Bool) : GdOk n ((List.range n).filter q) := ⟨(List.pairwise_lt_range).filter _, fun x hx => List.mem_range.mp (List.mem_filter.mp hx).1⟩
theorem ife_false {G : Type} {K : Env1} {Γ : Gam G} {c : Ce} {a b : Cs} {st st1 : Sg G} (h : ev K Γ c st = .ok (.vl (.bl false)) st1) : ex K Γ (.ife c a b) st = ex K Γ b st1 := by
  show exIf (ev K Γ c) (ex K Γ a) (ex K Γ b) st = _
  unfold exIf exE
  rw [h]
  rfl
section
variable {K : Env1} {Γ : Gam Dr} {a0 : Addr}
theorem near_lc {s good : List Nat} {n st : Nat} {x0 x1 x2 x4 x6 x7 : Option (Bool × D)} (g : Dr) :
    lcL (.nm 8) (ev K Γ c__law_near_t1) (ev K Γ c__law_near_e1) [8] ((List.range n).map nat) ⟨[x0, x1, x2, some (false, rowD good), x4, some (false, nat st), x6, x7, none], g⟩ = .ok (((List.range n).filter fun y => decide (y ∈ good) != decide (y = st)).map nat) ⟨[x0, x1, x2, some (false, rowD good), x4, some (false, nat st), x6, x7, none], g⟩ := by
  rw [lcL_filterN (fun d => match d with
    | .int i => decide (i.toNat ∈ good) != decide (i.toNat = st)
    | _ => false) (ft := ev K Γ c__law_near_t1) (fe := ev K Γ c__law_near_e1) (i := 8) (s0 := ⟨[x0, x1, x2, some (false, rowD good), x4, some (false, nat st), x6, x7, none], g⟩) rfl _ (fun d hd => ?_) (fun s => rfl)]
  · congr 1
    generalize List.range n = l
    induction l with
    | nil => rfl
    | cons a l ih =>
      rw [List.map_cons, List.filter_cons, List.filter_cons, ih]
      show (if (decide (a ∈ good) != decide (a = st)) = true then _ else _) = _
      split <;> rfl
  · obtain ⟨i, hi, rfl⟩ := List.mem_map.mp hd
    have p := plain_nats 59 good
    have q := any_nat good i
    show ev K Γ c__law_near_t1 ⟨[x0, x1, x2, some (false, rowD good), x4, some (false, nat st), x6, x7, some (false, nat i)], g⟩ = .ok (.vl (.bl (decide (i ∈ good) != decide (i = st)))) _
    unfold c__law_near_t1
    have ei : decide ((i : Int) = (st : Int)) = decide (i = st) := by
      by_cases c : i = st
      · simp [c]
      · rw [decide_eq_false c, decide_eq_false (by omega)]
    simp [inO2, inO, inB, p, q, eqO, eqB, ei, neO]
    cases decide (i ∈ good) <;> cases decide (i = st) <;> rfl
theorem near_turn {u1 u2 : Nat} {x1' x2' : Str} {m1 m2 : Mir Dr} (h1 : Γ[u1]? = some (x1', .fn 2 m1)) (hn : Nx m1 a0) (h2 : Γ[u2]? = some (x2', .fn 2 m2)) (hp : Pk m2 a0) {s : List (List Nat)} {good : List Nat} {L : Nat} (S : StOk s L) (hg : GdOk s.length good) {x1 x4 x5 x6 x7 : Option (Bool × D)} (g : Dr) :
    ∃ s' good' y5 y6 y7 g', ex K Γ (c__law_near_b1 u1 u2) ⟨[some (false, .ref a0), x1, some (false, stepsD s), some (false, rowD good), x4, x5, x6, x7, none], g⟩ = .nx ⟨[some (false, .ref a0), x1, some (false, stepsD s'), some (false, rowD good'), x4, y5, y6, y7, none], g'⟩ ∧ StOk s' L ∧ GdOk s'.length good' := by
  have n1 := S.n1
  have n8 := S.n8
  obtain ⟨d, hd, g1, e1⟩ := hp [.int 1, .int s.length] g (by simp) (by simp)
  obtain ⟨c, rfl, c1, c2⟩ : ∃ c : Nat, d = .int c ∧ 1 ≤ c ∧ c ≤ s.length := by
    simp only [List.mem_cons, List.not_mem_nil, or_false] at hd
    rcases hd with rfl | rfl
    · exact ⟨1, rfl, by omega, n1⟩
    · exact ⟨s.length, rfl, n1, Nat.le_refl _⟩
  obtain ⟨st, g2, e2, c3⟩ := hn c g1 (by omega) (by omega)
  obtain ⟨w, g3, e3, c4⟩ := hn 2 g2 (by omega) (by omega)
  have t1 : ex K Γ (.asg 5 (.call u1 (.cons (.var 0) (.cons (.call u2 (.cons (.var 0) (.cons (.lst (.cons (.cst (.int 1)) (.cons (.blt .len (.cons (.var 2) .nil)) .nil))) .nil))) .nil)))) ⟨[some (false, .ref a0), x1, some (false, stepsD s), some (false, rowD good), x4, x5, x6, x7, none], g⟩ = .nx ⟨[some (false, .ref a0), x1, some (false, stepsD s), some (false, rowD good), x4, some (false, nat st), x6, x7, none], g2⟩ := by
    simp [h1, h2, e1, e2]
  by_cases z : w = 0
  · subst z
    have lc := near_lc (K := K) (Γ := Γ) (s := []) (good := good) (n := s.length) (st := st) (x0 := some (false, .ref a0)) (x1 := x1) (x2 := some (false, stepsD s)) (x4 := x4) (x6 := x6) (x7 := x7) g3
    refine ⟨s, (List.range s.length).filter fun y => decide (y ∈ good) != decide (y = st), some (false, nat st), x6, x7, g3, ?_, S, gd_filter _⟩
    unfold c__law_near_b1
    rw [seq_nx t1]
    have rb : rgB (s.length : Int) = true := rgB_small (by omega) (by omega)
    have sz : s.length ≤ sizeLine := size_ge (by omega)
    have sz2 : (((List.range s.length).filter fun y => decide (y ∈ good) != decide (y = st)).map nat).length ≤ 1000 := by
      rw [List.length_map]
      have := List.length_filter_le (fun y => decide (y ∈ good) != decide (y = st)) (List.range s.length)
      simp at this
      simp; omega
    rw [← intsD_nat] at lc
    rw [rowD_eq ((List.range s.length).filter fun y => decide (y ∈ good) != decide (y = st))]
    generalize ((List.range s.length).filter fun y => decide (y ∈ good) != decide (y = st)).map nat = Z at lc sz2 ⊢
    simp at lc
    simp [h1, e3, eqO, eqB, rb, sz, lc, sz2]
  · obtain ⟨j, g4, e4, c5⟩ := hn L g3 (by have := S.l1; omega) (by have := S.l3; omega)
    obtain ⟨v, g5, e5, c6⟩ := hn s.length g4 (by omega) (by omega)
    have hst : st < s.length := by omega
    have hj : j < L := by omega
    have hv : v < s.length := by omega
    obtain ⟨r1, r2⟩ := S.row hst
    obtain ⟨r0, l0, a0'⟩ := S.at0
    have ar := at_row hst
    refine ⟨putAt s st (putAt (s.getD st []) j v), good, some (false, nat st), some (false, nat j), some (false, rowD (putAt (s.getD st []) j v)), g5, ?_, S.put hst hj hv, by rw [putAt_len hst]; exact hg⟩
    unfold c__law_near_b1
    rw [seq_nx t1]
    have w0 : ¬ ((w : Int) = 0) := by omega
    generalize hr : s.getD st [] = r at ar r1 ⊢
    have q1 : cutD (r.map nat) none (some (j : Int)) = (r.map nat).take j := cut_hi (by simp; omega)
    have q2 : cutD (r.map nat) (some ((j : Int) + 1)) none = (r.map nat).drop (j + 1) := by
      rw [show (j : Int) + 1 = ((j + 1 : Nat) : Int) by omega]; exact cut_lo (by simp; omega)
    have q3 : cutD (s.map rowD) none (some (st : Int)) = (s.map rowD).take st := cut_hi (by simp; omega)
    have q4 : cutD (s.map rowD) (some ((st : Int) + 1)) none = (s.map rowD).drop (st + 1) := by
      rw [show (st : Int) + 1 = ((st + 1 : Nat) : Int) by omega]; exact cut_lo (by simp; omega)
    have p1 := putAt_map nat r j v
    have p2 := putAt_map rowD s st (putAt r j v)
    have z0 : 1000 ≤ sizeLine := size_ge (Nat.le_refl _)
    have rl := S.l3
    have v1 : ex K Γ (.asg 6 (.call u1 (.cons (.var 0) (.cons (.blt .len (.cons (.ix (.var 2) (.cst (.int 0))) .nil)) .nil)))) ⟨[some (false, .ref a0), x1, some (false, stepsD s), some (false, rowD good), x4, some (false, nat st), x6, x7, none], g3⟩ = .nx ⟨[some (false, .ref a0), x1, some (false, stepsD s), some (false, rowD good), x4, some (false, nat st), some (false, nat j), x7, none], g4⟩ := by
      simp [h1, a0', l0, e4]
    have v2 : ex K Γ (.asg 7 (.bin .add (.bin .add (.slHi (.ix (.var 2) (.var 5)) (.var 6)) (.tup (.cons (.call u1 (.cons (.var 0) (.cons (.blt .len (.cons (.var 2) .nil)) .nil))) .nil))) (.slLo (.ix (.var 2) (.var 5)) (.bin .add (.var 6) (.cst (.int 1)))))) ⟨[some (false, .ref a0), x1, some (false, stepsD s), some (false, rowD good), x4, some (false, nat st), some (false, nat j), x7, none], g4⟩ = .nx ⟨[some (false, .ref a0), x1, some (false, stepsD s), some (false, rowD good), x4, some (false, nat st), some (false, nat j), some (false, rowD (putAt r j v)), none], g5⟩ := by
      have l1 : ((r.map nat).take j).length + 1 ≤ sizeLine := by simp; omega
      have l2 : ((r.map nat).take j ++ [D.int (v : Int)]).length + ((r.map nat).drop (j + 1)).length ≤ sizeLine := by simp; omega
      rw [rowD_eq (putAt r j v), ← p1]
      simp only [rowD_eq] at ar
      generalize (r.map nat).take j = ta at q1 l1 l2 ⊢
      generalize (r.map nat).drop (j + 1) = tb at q2 l2 ⊢
      simp only [List.length_append, List.length_cons, List.length_nil] at l2
      simp [h1, ar, q1, q2, e5, l1, l2]
    have v3 : ex K Γ (.asg 2 (.bin .add (.bin .add (.slHi (.var 2) (.var 5)) (.tup (.cons (.var 7) .nil))) (.slLo (.var 2) (.bin .add (.var 5) (.cst (.int 1)))))) ⟨[some (false, .ref a0), x1, some (false, stepsD s), some (false, rowD good), x4, some (false, nat st), some (false, nat j), some (false, rowD (putAt r j v)), none], g5⟩ = .nx ⟨[some (false, .ref a0), x1, some (false, stepsD (putAt s st (putAt r j v))), some (false, rowD good), x4, some (false, nat st), some (false, nat j), some (false, rowD (putAt r j v)), none], g5⟩ := by
      have l1 : ((s.map rowD).take st).length + 1 ≤ sizeLine := by simp; omega
      have l2 : ((s.map rowD).take st ++ [rowD (putAt r j v)]).length + ((s.map rowD).drop (st + 1)).length ≤ sizeLine := by simp; omega
      rw [stepsD_eq (putAt s st (putAt r j v)), ← p2, stepsD_eq]
      generalize (s.map rowD).take st = ta at q3 l1 l2 ⊢
      generalize (s.map rowD).drop (st + 1) = tb at q4 l2 ⊢
      generalize s.map rowD = sm at q3 q4 ⊢
      generalize rowD (putAt r j v) = rw' at l2 ⊢
      simp only [List.length_append, List.length_cons, List.length_nil] at l2
      simp [q3, q4, l1, l2]
    have cf : ev K Γ (.cmp .eq (.call u1 (.cons (.var 0) (.cons (.cst (.int 2)) .nil))) (.cst (.int 0))) ⟨[some (false, .ref a0), x1, some (false, stepsD s), some (false, rowD good), x4, some (false, nat st), x6, x7, none], g2⟩ = .ok (.vl (.bl false)) ⟨[some (false, .ref a0), x1, some (false, stepsD s), some (false, rowD good), x4, some (false, nat st), x6, x7, none], g3⟩ := by
      simp [h1, e3, eqO, eqB, z]
    refine seq_nx ((ife_false cf).trans ?_)
    rw [seq_nx v1, seq_nx v2, seq_nx v3]
    rfl
theorem s_near {u1 u2 : Nat} {x1' x2' : Str} {m1 m2 : Mir Dr} (h1 : Γ[u1]? = some (x1', .fn 2 m1)) (hp : Pk m1 a0) (h2 : Γ[u2]? = some (x2', .fn 2 m2)) (hn : Nx m2 a0) {s : List (List Nat)} {good : List Nat} {L : Nat} (S : StOk s L) (hg : GdOk s.length good) (g : Dr) :
    ∃ s' good' g', runF N__law_near.length (ex K Γ (c__law_near u1 u2)) [.ref a0, partsD s good] g = .ok (partsD s' good') g' ∧ StOk s' L ∧ GdOk s'.length good' := by
  obtain ⟨d, hd, g1, e1⟩ := hp [.int 0, .int 1, .int 1, .int 2] g (by simp) (by simp)
  obtain ⟨c, rfl, c1⟩ : ∃ c : Nat, d = .int c ∧ c ≤ 2 := by
    simp only [List.mem_cons, List.not_mem_nil, or_false] at hd
    rcases hd with rfl | rfl | rfl | rfl
    · exact ⟨0, rfl, by omega⟩
    · exact ⟨1, rfl, by omega⟩
    · exact ⟨1, rfl, by omega⟩
    · exact ⟨2, rfl, by omega⟩
  obtain ⟨st', e, s', good', y4, y5, y6, y7, g', es, S', hg'⟩ := forR (t := .nm 4) (body := ex K Γ (c__law_near_b1 u2 u1)) (lo := 0) (n := c) (fun k st => ∃ s' good' y4 y5 y6 y7 g', st = ⟨[some (false, .ref a0), some (false, partsD s good), some (false, stepsD s'), some (false, rowD good'), y4, y5, y6, y7, none], g'⟩ ∧ StOk s' L ∧ GdOk s'.length good') (fun k st _ hk ⟨s', good', y4, y5, y6, y7, g', es, S', hg'⟩ => by
    subst es
    obtain ⟨s2, good2, z5, z6, z7, g2, e, S2, hg2⟩ := near_turn (K := K) h2 hn h1 hp S' hg' (x1 := some (false, partsD s good)) (x4 := some (false, nat k)) (x5 := y5) (x6 := y6) (x7 := y7) g'
    exact ⟨_, _, rfl, e, s2, good2, some (false, nat k), z5, z6, z7, g2, rfl, S2, hg2⟩) ⟨[some (false, .ref a0), some (false, partsD s good), some (false, stepsD s), some (false, rowD good), none, none, none, none, none], g1⟩ ⟨s, good, none, none, none, none, g1, rfl, S, hg⟩
  refine ⟨s', good', g', run_rt (sl := [some (false, .ref a0), some (false, partsD s good), none, none, none, none, none, none, none]) rfl ?_, S', hg'⟩
  unfold c__law_near
  have t1 : ex K Γ (.unp (.tp [2, 3]) (.var 1)) ⟨[some (false, .ref a0), some (false, partsD s good), none, none, none, none, none, none, none], g⟩ = .nx ⟨[some (false, .ref a0), some (false, partsD s good), some (false, stepsD s), some (false, rowD good), none, none, none, none, none], g⟩ := by simp
  have it : evI K Γ (.rg1 (.call u1 (.cons (.var 0) (.cons (.lst (.cons (.cst (.int 0)) (.cons (.cst (.int 1)) (.cons (.cst (.int 1)) (.cons (.cst (.int 2)) .nil))))) .nil)))) ⟨[some (false, .ref a0), some (false, partsD s good), some (false, stepsD s), some (false, rowD good), none, none, none, none, none], g⟩ = .ok (intsD ((0 : Nat) : Int) c) ⟨[some (false, .ref a0), some (false, partsD s good), some (false, stepsD s), some (false, rowD good), none, none, none, none, none], g1⟩ := by
    have rb : rgB (c : Int) = true := rgB_small (by omega) (by omega)
    generalize partsD s good = Pp
    generalize stepsD s = Dd
    generalize rowD good = Gg
    simp [h1, e1, rb]
  have t2 := (ex_for (t := .nm 4) (b := c__law_near_b1 u2 u1) it).trans e
  rw [seq_nx t1, seq_nx t2, es]
  exact seq_rt rfl
theorem s_two {u1 u2 u3 : Nat} {x1' x2' x3' : Str} {m1 m2 m3 : Mir Dr} (h1 : Γ[u1]? = some (x1', .fn 2 m1)) (hn : Nx m1 a0) (h2 : Γ[u2]? = some (x2', .fn 2 m2)) (h3 : Γ[u3]? = some (x3', .fn 2 m3))
    (hp : ∀ (L : Nat) (g : Dr), 1 ≤ L → L ≤ 3 → ∃ s good g', m2 [.ref a0, .int L] g = .ok (partsD s good) g' ∧ StOk s L ∧ GdOk s.length good) (hr : ∀ (s : List (List Nat)) (good : List Nat) (L : Nat) (g : Dr), StOk s L → GdOk s.length good → ∃ s' good' g', m3 [.ref a0, partsD s good] g = .ok (partsD s' good') g' ∧ StOk s' L ∧ GdOk s'.length good') (g : Dr) :
    ∃ L s1 good1 s2 good2 g', runF N__law_two.length (ex K Γ (c__law_two u1 u2 u3)) [.ref a0] g = .ok (.tup [partsD s1 good1, partsD s2 good2]) g' ∧ StOk s1 L ∧ GdOk s1.length good1 ∧ StOk s2 L ∧ GdOk s2.length good2 := by
  obtain ⟨v, g1, k1, k2⟩ := hn 3 g (by omega) (by omega)
  obtain ⟨L, eL⟩ : ∃ L : Nat, L = 1 + v := ⟨_, rfl⟩
  have eL' : (1 : Int) + (v : Int) = (L : Int) := by omega
  obtain ⟨s1, good1, g2, k3, S1, hg1⟩ := hp L g1 (by omega) (by omega)
  obtain ⟨w, g3, k4, k5⟩ := hn 3 g2 (by omega) (by omega)
  by_cases z : 0 < w
  · obtain ⟨s2, good2, g4, k6, S2, hg2⟩ := hr s1 good1 L g3 S1 hg1
    refine ⟨L, s1, good1, s2, good2, g4, ?_, S1, hg1, S2, hg2⟩
    generalize partsD s1 good1 = P1 at k3 k6 ⊢
    generalize partsD s2 good2 = P2 at k6 ⊢
    unfold c__law_two N__law_two
    simp [h1, k1, eL', h2, k3, k4, z, h3, k6]
  · have z' : w = 0 := by omega
    subst z'
    obtain ⟨s2, good2, g4, k6, S2, hg2⟩ := hp L g3 (by omega) (by omega)
    refine ⟨L, s1, good1, s2, good2, g4, ?_, S1, hg1, S2, hg2⟩
    generalize partsD s1 good1 = P1 at k3 ⊢
    generalize partsD s2 good2 = P2 at k6 ⊢
    unfold c__law_two N__law_two
    simp [h1, k1, eL', h2, k3, k4, h3, k6]
end
end BF
set_option Elab.async false
set_option linter.all false
set_option autoImplicit false
set_option maxRecDepth 100000
set_option maxHeartbeats 1000000
namespace BF
open PySem PySem.Spec PyProof.Rows L2
theorem ne_nl {ds : List D} (h : ds.all (plain 59) = true) : neO (.lst ds) (.lst []) = some (.vl (.bl (!ds.isEmpty))) := by
  unfold neO eqB
  simp only [plain_lst, h, List.all_nil, Bool.and_true, if_true, Option.map_some]
  cases ds with
  | nil => simp
  | cons a sk => simp [eqD, toPy, toPys, PyData.eqv, PyData.eqvAll]
/-! ## ways: rows from a place to others -/
abbrev Kw := List (Pr × List Nat)
def entD (e : Pr × List Nat) : D := .tup [rowD e.2, pD e.1]
theorem plain_ent (l : Kw) : (l.map entD).all (plain 59) = true := by
  rw [List.all_eq_true]
  intro d hd
  obtain ⟨e, _, rfl⟩ := List.mem_map.mp hd
  have := plain_nats 57 e.2
  simp [entD, pD, this]
def wfS (r : List Nat) (s : Kw × Kw) (c : Nat) (q : Pr) : Kw × Kw := if q ∈ s.1.map (·.1) then s else (s.1 ++ [(q, r ++ [c])], s.2 ++ [(q, r ++ [c])])
def wfG (r : List Nat) : Nat → List Pr → Kw × Kw → Kw × Kw
  | _, [], s => s
  | c, q :: qs, s => wfG r (c + 1) qs (wfS r s c q)
def wfR (go : Pr → List Pr) : Kw → Kw × Kw → Kw × Kw
  | [], s => s
  | e :: es, s => wfR go es (wfG e.2 0 (go e.1) s)
theorem wfS_len (r : List Nat) (s : Kw × Kw) (c : Nat) (q : Pr) : s.1.length ≤ (wfS r s c q).1.length ∧ (wfS r s c q).1.length ≤ s.1.length + 1 ∧ (wfS r s c q).2.length ≤ s.2.length + 1 := by
  unfold wfS
  split <;> simp
section
variable {G : Type} {K : Env1} {Γ : Gam G}
theorem wf_t1 {M1 M2 : D} {x2 x4 x7 : Option (Bool × D)} {s : Kw × Kw} {r : List Nat} {c : Nat} {q : Pr} (h1 : s.1.length ≤ 500) (h2 : s.2.length ≤ 500) (h3 : r.length ≤ 500) (g : G) :
    ex K Γ c_ways_from_b1 ⟨[some (false, M1), some (false, M2), x2, some (true, dM rowD s.1), x4, some (true, .lst (s.2.map entD)), some (false, rowD r), x7, some (false, nat c), some (false, pD q)], g⟩ = .nx ⟨[some (false, M1), some (false, M2), x2, some (true, dM rowD (wfS r s c q).1), x4, some (true, .lst ((wfS r s c q).2.map entD)), some (false, rowD r), x7, some (false, nat c), some (false, pD q)], g⟩ := by
  have e1 := ninO2_pD rowD s.1 q
  by_cases m : q ∈ s.1.map (·.1)
  · have e : wfS r s c q = s := if_pos m
    rw [e]
    rw [decide_eq_true m] at e1
    generalize dM rowD s.1 = dd at e1 ⊢
    generalize s.2.map entD = lt
    generalize pD q = pq at e1 ⊢
    unfold c_ways_from_b1
    simp [e1]
  · have e : wfS r s c q = (s.1 ++ [(q, r ++ [c])], s.2 ++ [(q, r ++ [c])]) := if_neg m
    rw [e]
    rw [decide_eq_false m] at e1
    have st := stO_pD rowD s.1 q (r ++ [c]) (sz64 (by omega))
    rw [pt_new m] at st
    have er : rowD (r ++ [c]) = .tup (r.map nat ++ [.int (c : Int)]) := by simp [rowD]
    have sz : (r.map nat).length + 1 ≤ sizeLine := size_ge (by simp; omega)
    have el : (s.2 ++ [(q, r ++ [c])]).map entD = s.2.map entD ++ [.tup [rowD (r ++ [c]), pD q]] := by rw [List.map_append]; rfl
    have sz2 : (s.2.map entD).length < sizeLine := sz64 (by simp; omega)
    rw [el]
    obtain ⟨kvs, ek⟩ : ∃ kvs, dM rowD s.1 = .dct kvs := ⟨_, rfl⟩
    show _ = Ro.nx ⟨[some (false, M1), some (false, M2), x2, some (true, dM rowD (s.1 ++ [(q, r ++ [c])])), x4, some (true, .lst (s.2.map entD ++ [.tup [rowD (r ++ [c]), pD q]])), some (false, rowD r), x7, some (false, nat c), some (false, pD q)], g⟩
    rw [er] at st ⊢
    generalize dM rowD (s.1 ++ [(q, r ++ [c])]) = d2 at st ⊢
    rw [ek] at e1 st ⊢
    generalize s.2.map entD = lt at sz2 ⊢
    generalize pD q = pq at e1 st ⊢
    rw [rowD_eq r]
    generalize r.map nat = rn at sz st ⊢
    unfold c_ways_from_b1
    simp [e1, sz, st, sz2]
theorem wf_goals {M1 M2 : D} {x2 x4 x7 : Option (Bool × D)} {r : List Nat} (h3 : r.length ≤ 500) (g : G) : ∀ (qs : List Pr) (c : Nat) (s : Kw × Kw) (x8 x9 : Option (Bool × D)), s.1.length + qs.length ≤ 500 → s.2.length + qs.length ≤ 500 →
    ∃ y8 y9, forL (.tp [8, 9]) (ex K Γ c_ways_from_b1) (enumL (c : Int) (qs.map pD)) ⟨[some (false, M1), some (false, M2), x2, some (true, dM rowD s.1), x4, some (true, .lst (s.2.map entD)), some (false, rowD r), x7, x8, x9], g⟩ = .nx ⟨[some (false, M1), some (false, M2), x2, some (true, dM rowD (wfG r c qs s).1), x4, some (true, .lst ((wfG r c qs s).2.map entD)), some (false, rowD r), x7, y8, y9], g⟩
  | [], c, s, x8, x9, _, _ => ⟨x8, x9, rfl⟩
  | q :: qs, c, s, x8, x9, h1, h2 => by
    simp only [List.length_cons] at h1 h2
    have hl := wfS_len r s c q
    obtain ⟨y8, y9, e⟩ := wf_goals (M1 := M1) (M2 := M2) (x2 := x2) (x4 := x4) (x7 := x7) h3 g qs (c + 1) (wfS r s c q) (some (false, nat c)) (some (false, pD q)) (by omega) (by omega)
    have ec : ((c + 1 : Nat) : Int) = (c : Int) + 1 := by omega
    rw [ec] at e
    refine ⟨y8, y9, ?_⟩
    rw [List.map_cons]
    unfold enumL
    exact forL_cons (s1 := ⟨[some (false, M1), some (false, M2), x2, some (true, dM rowD s.1), x4, some (true, .lst (s.2.map entD)), some (false, rowD r), x7, some (false, nat c), some (false, pD q)], g⟩) rfl (wf_t1 (by omega) (by omega) h3 g) e
theorem wfG_len (r : List Nat) : ∀ (qs : List Pr) (c : Nat) (s : Kw × Kw), s.1.length ≤ (wfG r c qs s).1.length ∧ (wfG r c qs s).1.length ≤ s.1.length + qs.length ∧ (wfG r c qs s).2.length ≤ s.2.length + qs.length
  | [], c, s => by simp [wfG]
  | q :: qs, c, s => by
    have h1 := wfS_len r s c q
    have h2 := wfG_len r qs (c + 1) (wfS r s c q)
    simp only [wfG, List.length_cons]
    omega
theorem wf_rows {u : Nat} {x : Str} {m : Mir G} (hu : Γ[u]? = some (x, .fn 3 m)) {M1 M2 : D} {go : Pr → List Pr} {P : Pr → Prop} (hg : SGo m M1 M2 go P) (gp : Gp go P) {x2 x4 : Option (Bool × D)} (g : G) : ∀ (es : Kw) (s : Kw × Kw) (x6 x7 x8 x9 : Option (Bool × D)), s.1.length + 3 * es.length ≤ 500 → s.2.length + 3 * es.length ≤ 500 → (∀ e ∈ es, P e.1 ∧ e.2.length ≤ 500) →
    ∃ y6 y7 y8 y9, forL (.tp [6, 7]) (ex K Γ (c_ways_from_b2 u)) (es.map entD) ⟨[some (false, M1), some (false, M2), x2, some (true, dM rowD s.1), x4, some (true, .lst (s.2.map entD)), x6, x7, x8, x9], g⟩ = .nx ⟨[some (false, M1), some (false, M2), x2, some (true, dM rowD (wfR go es s).1), x4, some (true, .lst ((wfR go es s).2.map entD)), y6, y7, y8, y9], g⟩
  | [], s, x6, x7, x8, x9, _, _, _ => ⟨x6, x7, x8, x9, rfl⟩
  | e :: es, s, x6, x7, x8, x9, h1, h2, he => by
    simp only [List.length_cons] at h1 h2
    obtain ⟨hP, h3⟩ := he e List.mem_cons_self
    have l3 := gp.len e.1 hP
    have hl := wfG_len e.2 (go e.1) 0 s
    obtain ⟨z8, z9, e1⟩ := wf_goals (K := K) (Γ := Γ) (M1 := M1) (M2 := M2) (x2 := x2) (x4 := x4) (x7 := some (false, pD e.1)) h3 g (go e.1) 0 s x8 x9 (by omega) (by omega)
    obtain ⟨y6, y7, y8, y9, e2⟩ := wf_rows hu hg gp (x2 := x2) (x4 := x4) g es (wfG e.2 0 (go e.1) s) (some (false, rowD e.2)) (some (false, pD e.1)) z8 z9 (by omega) (by omega) fun y hy => he y (List.mem_cons_of_mem _ hy)
    refine ⟨y6, y7, y8, y9, ?_⟩
    rw [List.map_cons]
    refine forL_cons (s1 := ⟨[some (false, M1), some (false, M2), x2, some (true, dM rowD s.1), x4, some (true, .lst (s.2.map entD)), some (false, rowD e.2), some (false, pD e.1), x8, x9], g⟩) rfl ?_ e2
    have eg := hg e.1 g hP
    have it : evI K Γ (.enum (.call u (.cons (.var 0) (.cons (.var 1) (.cons (.var 7) .nil))))) ⟨[some (false, M1), some (false, M2), x2, some (true, dM rowD s.1), x4, some (true, .lst (s.2.map entD)), some (false, rowD e.2), some (false, pD e.1), x8, x9], g⟩ = .ok (enumL ((0 : Nat) : Int) ((go e.1).map pD)) ⟨[some (false, M1), some (false, M2), x2, some (true, dM rowD s.1), x4, some (true, .lst (s.2.map entD)), some (false, rowD e.2), some (false, pD e.1), x8, x9], g⟩ := by
      generalize (go e.1).map pD = gs at eg ⊢
      generalize dM rowD s.1 = dd
      generalize s.2.map entD = lt
      generalize rowD e.2 = rr
      generalize pD e.1 = pe at eg ⊢
      simp [hu, eg]
    unfold c_ways_from_b2
    rw [seq_nx ((ex_for it).trans e1)]
    rfl
end
end BF
set_option Elab.async false
set_option linter.all false
set_option autoImplicit false
set_option maxRecDepth 100000
set_option maxHeartbeats 1000000
namespace BF
open PySem PySem.Spec PyProof.Rows L2
/-! ## what the ways are -/
def ks (l : Kw) : List Pr := l.map (·.1)
theorem ks_app (a b : Kw) : ks (a ++ b) = ks a ++ ks b := List.map_append
theorem mem_ks {l : Kw} {e : Pr × List Nat} (h : e ∈ l) : e.1 ∈ ks l := List.mem_map.mpr ⟨e, h, rfl⟩
structure GI (r : List Nat) (c : Nat) (qs : List Pr) (s s' : Kw × Kw) : Prop where
  sub : ∀ e ∈ s.1, e ∈ s'.1
  sub2 : ∀ e ∈ s.2, e ∈ s'.2
  all : ∀ q ∈ qs, q ∈ ks s'.1
  old : ∀ e ∈ s'.1, e ∈ s.1 ∨ (e ∈ s'.2 ∧ s.1.length < s'.1.length ∧ ∃ j, e.2 = r ++ [c + j] ∧ qs[j]? = some e.1)
  old2 : ∀ e ∈ s'.2, e ∈ s.2 ∨ e ∈ s'.1
  nd : (ks s.1).Nodup → (ks s'.1).Nodup
  ln : s.1.length ≤ s'.1.length
  gr : s'.1.length + s.2.length = s.1.length + s'.2.length
theorem wfG_ok (r : List Nat) : ∀ (qs : List Pr) (c : Nat) (s : Kw × Kw), GI r c qs s (wfG r c qs s)
  | [], c, s => ⟨fun e h => h, fun e h => h, fun q h => (nomatch h), fun e h => .inl h, fun e h => .inl h, fun h => h, Nat.le_refl _, rfl⟩
  | q :: qs, c, s => by
    have ih := wfG_ok r qs (c + 1) (wfS r s c q)
    show GI r c (q :: qs) s (wfG r (c + 1) qs (wfS r s c q))
    generalize wfG r (c + 1) qs (wfS r s c q) = s' at ih ⊢
    by_cases m : q ∈ s.1.map (·.1)
    · have e : wfS r s c q = s := if_pos m
      rw [e] at ih
      refine ⟨ih.sub, ih.sub2, fun p hp => ?_, fun e he => ?_, ih.old2, ih.nd, ih.ln, ih.gr⟩
      · rcases List.mem_cons.mp hp with rfl | h
        · obtain ⟨e, h1, h2⟩ := List.mem_map.mp m
          rw [← h2]; exact mem_ks (ih.sub e h1)
        · exact ih.all p h
      · rcases ih.old e he with h | ⟨h, hlt, j, h1, h2⟩
        · exact .inl h
        · exact .inr ⟨h, hlt, j + 1, by rw [h1, show c + 1 + j = c + (j + 1) by omega], h2⟩
    · have e : wfS r s c q = (s.1 ++ [(q, r ++ [c])], s.2 ++ [(q, r ++ [c])]) := if_neg m
      rw [e] at ih
      have hnew : (q, r ++ [c]) ∈ s'.1 := ih.sub _ (List.mem_append_right _ List.mem_cons_self)
      have hnew2 : (q, r ++ [c]) ∈ s'.2 := ih.sub2 _ (List.mem_append_right _ List.mem_cons_self)
      refine ⟨fun e h => ih.sub e (List.mem_append_left _ h), fun e h => ih.sub2 e (List.mem_append_left _ h), fun p hp => ?_, fun e he => ?_, fun e he => ?_, fun hn => ih.nd ?_, ?_, ?_⟩
      · rcases List.mem_cons.mp hp with rfl | h
        · exact mem_ks hnew
        · exact ih.all p h
      · have lt' : s.1.length < s'.1.length := by have := ih.ln; simp at this; omega
        rcases ih.old e he with h | ⟨h, hlt, j, h1, h2⟩
        · rcases List.mem_append.mp h with h | h
          · exact .inl h
          · rw [List.mem_singleton.mp h]
            exact .inr ⟨hnew2, lt', 0, by rw [Nat.add_zero], rfl⟩
        · exact .inr ⟨h, lt', j + 1, by rw [h1, show c + 1 + j = c + (j + 1) by omega], h2⟩
      · rcases ih.old2 e he with h | h
        · rcases List.mem_append.mp h with h | h
          · exact .inl h
          · rw [List.mem_singleton.mp h]; exact .inr hnew
        · exact .inr h
      · show (ks (s.1 ++ [(q, r ++ [c])])).Nodup
        rw [ks_app, List.nodup_append]
        refine ⟨hn, by simp [ks], fun a ha b hb e0 => ?_⟩
        have e1 : b = q := by simpa [ks] using hb
        rw [e0, e1] at ha
        exact m ha
      · have := ih.ln; simp at this; omega
      · have := ih.gr; simp at this; omega
section
variable (go : Pr → List Pr) (P : Pr → Prop) (L : Nat) (b : Pr)
def stp (p : Pr) (c : Nat) : Pr := (go p).getD c p
def eG (p : Pr) (r : List Nat) : Pr := r.foldl (stp go) p
theorem eG_app (p : Pr) (r : List Nat) (c : Nat) : eG go p (r ++ [c]) = stp go (eG go p r) c := by
  unfold eG
  rw [List.foldl_append]
  rfl
structure WI (s : Kw × Kw) (pend : Kw) : Prop where
  nd : (ks s.1).Nodup
  ve : ∀ e ∈ s.1, eG go b e.2 = e.1 ∧ e.2 ≠ [] ∧ (∀ c ∈ e.2, c < L) ∧ e.2.length ≤ s.1.length ∧ P e.1
  la : ∀ e ∈ s.2, e ∈ s.1
  pe : ∀ e ∈ pend, eG go b e.2 = e.1 ∧ (∀ c ∈ e.2, c < L) ∧ e.2.length ≤ s.1.length ∧ P e.1
  cl : ∀ p, p = b ∨ p ∈ ks s.1 → p ∈ ks pend ∨ p ∈ ks s.2 ∨ ∀ q ∈ go p, q ∈ ks s.1
variable {go P L b}
theorem WI.turn (gp : Gp go P) (hL : ∀ p, P p → (go p).length = L) {s : Kw × Kw} {e : Pr × List Nat} {pend : Kw} (W : WI go P L b s (e :: pend)) : WI go P L b (wfG e.2 0 (go e.1) s) pend := by
  have I := wfG_ok e.2 (go e.1) 0 s
  generalize wfG e.2 0 (go e.1) s = s' at I
  obtain ⟨p1, p2, p3, p4⟩ := W.pe e List.mem_cons_self
  have ksub : ∀ q ∈ ks s.1, q ∈ ks s'.1 := fun q hq => by
    obtain ⟨a, h1, h2⟩ := List.mem_map.mp hq
    rw [← h2]; exact mem_ks (I.sub a h1)
  have ksub2 : ∀ q ∈ ks s.2, q ∈ ks s'.2 := fun q hq => by
    obtain ⟨a, h1, h2⟩ := List.mem_map.mp hq
    rw [← h2]; exact mem_ks (I.sub2 a h1)
  have ln := I.ln
  refine ⟨I.nd W.nd, fun a ha => ?_, fun a ha => ?_, fun a ha => ?_, fun p hp => ?_⟩
  · rcases I.old a ha with h | ⟨h, hlt, j, h1, h2⟩
    · obtain ⟨v1, v2, v3, v4, v5⟩ := W.ve a h
      exact ⟨v1, v2, v3, by omega, v5⟩
    · have hj : j < (go e.1).length := (List.getElem?_eq_some_iff.mp h2).1
      rw [Nat.zero_add] at h1
      refine ⟨?_, by rw [h1]; simp, fun c hc => ?_, ?_, gp.cl e.1 p4 a.1 (List.mem_of_getElem? h2)⟩
      · rw [h1, eG_app, p1]
        unfold stp
        rw [List.getD_eq_getElem?_getD, h2]
        rfl
      · rw [h1] at hc
        rcases List.mem_append.mp hc with h | h
        · exact p2 c h
        · rw [List.mem_singleton.mp h, ← hL e.1 p4]; exact hj
      · rw [h1, List.length_append]
        show e.2.length + 1 ≤ _
        omega
  · rcases I.old2 a ha with h | h
    · exact I.sub a (W.la a h)
    · exact h
  · obtain ⟨v1, v2, v3, v4⟩ := W.pe a (List.mem_cons_of_mem _ ha)
    exact ⟨v1, v2, by omega, v4⟩
  · have old : (p = b ∨ p ∈ ks s.1) → p ∈ ks pend ∨ p ∈ ks s'.2 ∨ ∀ q ∈ go p, q ∈ ks s'.1 := fun h => by
      rcases W.cl p h with h | h | h
      · rcases List.mem_cons.mp (show p ∈ e.1 :: ks pend from h) with h | h
        · subst h; exact .inr (.inr I.all)
        · exact .inl h
      · exact .inr (.inl (ksub2 p h))
      · exact .inr (.inr fun q hq => ksub q (h q hq))
    rcases hp with h | h
    · exact old (.inl h)
    · obtain ⟨a, h1, h2⟩ := List.mem_map.mp h
      rcases I.old a h1 with h | ⟨h, _⟩
      · exact old (.inr (by rw [← h2]; exact mem_ks h))
      · exact .inr (.inl (by rw [← h2]; exact mem_ks h))
theorem WI.rows (gp : Gp go P) (hL : ∀ p, P p → (go p).length = L) : ∀ {pend : Kw} {s : Kw × Kw}, WI go P L b s pend → WI go P L b (wfR go pend s) [] ∧ s.1.length ≤ (wfR go pend s).1.length ∧ (wfR go pend s).1.length + s.2.length = s.1.length + (wfR go pend s).2.length
  | [], s, W => ⟨W, Nat.le_refl _, rfl⟩
  | e :: pend, s, W => by
    have I := wfG_ok e.2 (go e.1) 0 s
    obtain ⟨h1, h2, h3⟩ := WI.rows gp hL (W.turn gp hL)
    have a1 := I.ln
    have a2 := I.gr
    refine ⟨h1, ?_, ?_⟩
    · show _ ≤ (wfR go pend (wfG e.2 0 (go e.1) s)).1.length
      omega
    · show (wfR go pend (wfG e.2 0 (go e.1) s)).1.length + _ = _ + (wfR go pend (wfG e.2 0 (go e.1) s)).2.length
      omega
/-- what ways_from answers -/
structure WyOk (go : Pr → List Pr) (P : Pr → Prop) (L : Nat) (b : Pr) (kn : Kw) : Prop where
  nd : (ks kn).Nodup
  ve : ∀ e ∈ kn, eG go b e.2 = e.1 ∧ e.2 ≠ [] ∧ (∀ c ∈ e.2, c < L) ∧ e.2.length ≤ 64 ∧ P e.1
  st : ∀ q ∈ go b, q ∈ ks kn
  cl : ∀ p ∈ ks kn, ∀ q ∈ go p, q ∈ ks kn
end
section
variable {G : Type} {K : Env1} {Γ : Gam G}
def SWy (m : Mir G) (M1 M2 : D) (go : Pr → List Pr) (P : Pr → Prop) (L : Nat) : Prop := ∀ (b : Pr) (g : G), P b → ∃ kn, m [M1, M2, pD b] g = .ok (dM rowD kn) g ∧ WyOk go P L b kn
theorem s_ways_from {u : Nat} {x : Str} {m : Mir G} (hu : Γ[u]? = some (x, .fn 3 m)) {M1 M2 : D} {go : Pr → List Pr} {P : Pr → Prop} {L : Nat} (hg : SGo m M1 M2 go P) (gp : Gp go P) (hL : ∀ p, P p → (go p).length = L) : SWy (runF N_ways_from.length (ex K Γ (c_ways_from u))) M1 M2 go P L := by
  intro b g hb
  have k64 : ∀ {s : Kw × Kw} {pend : Kw}, WI go P L b s pend → s.1.length ≤ 64 := fun {s pend} W => by
    have := gp.fin (ks s.1) W.nd fun p hp => by
      obtain ⟨e, h1, h2⟩ := List.mem_map.mp hp
      rw [← h2]; exact (W.ve e h1).2.2.2.2
    simpa [ks] using this
  have sw : ∀ {kn rows : Kw}, WI go P L b (kn, rows) [] → WI go P L b (kn, []) rows := fun {kn rows} W => by
    refine ⟨W.nd, W.ve, fun e h => (nomatch h), fun e h => ?_, fun p hp => ?_⟩
    · obtain ⟨v1, v2, v3, v4, v5⟩ := W.ve e (W.la e h)
      exact ⟨v1, v3, v4, v5⟩
    · rcases W.cl p hp with h | h | h
      · cases h
      · exact .inl h
      · exact .inr (.inr h)
  let st (kn rows : Kw) (b4 : Bool) (x5 x6 x7 x8 x9 : Option (Bool × D)) : Sg G := ⟨[some (false, M1), some (false, M2), some (false, pD b), some (true, dM rowD kn), some (b4, .lst (rows.map entD)), x5, x6, x7, x8, x9], g⟩
  let mu : Sg G → Nat := fun s => (match s.sl[3]? with
      | some (some (_, D.dct kv)) => 2 * (64 - kv.length)
      | _ => 0) + (match s.sl[4]? with
      | some (some (_, D.lst rs)) => (if rs.isEmpty then 0 else 1)
      | _ => 0)
  have mu_eq : ∀ kn rows b4 x5 x6 x7 x8 x9, mu (st kn rows b4 x5 x6 x7 x8 x9) = 2 * (64 - kn.length) + (if rows.isEmpty then 0 else 1) := fun kn rows b4 x5 x6 x7 x8 x9 => by
    show 2 * (64 - (kn.map fun q => (pD q.1, rowD q.2)).length) + (if (rows.map entD).isEmpty then 0 else 1) = _
    rw [List.length_map]
    cases rows <;> rfl
  refine Exists.elim (whL_ind (c := ev K Γ c_ways_from_w1) (body := ex K Γ (c_ways_from_b3 u))
    (fun s => ∃ kn rows b4 x5 x6 x7 x8 x9, s = st kn rows b4 x5 x6 x7 x8 x9 ∧ WI go P L b (kn, []) rows ∧ rows.length ≤ 64)
    (fun s => ∃ kn b4 x5 x6 x7 x8 x9, s = st kn [] b4 x5 x6 x7 x8 x9 ∧ WI go P L b (kn, []) [])
    mu ?_ 1000 (st [] [(b, [])] true none none none none none) ?_ ?_) fun s' ⟨e, kn, b4, x5, x6, x7, x8, x9, es, W⟩ => ?_
  · rintro s ⟨kn, rows, b4, x5, x6, x7, x8, x9, rfl, W, hr⟩
    have nn := ne_nl (plain_ent rows)
    have ec : ev K Γ c_ways_from_w1 (st kn rows b4 x5 x6 x7 x8 x9) = .ok (.vl (.bl (!(rows.map entD).isEmpty))) (st kn rows b4 x5 x6 x7 x8 x9) := by
      show ev K Γ c_ways_from_w1 ⟨[some (false, M1), some (false, M2), some (false, pD b), some (true, dM rowD kn), some (b4, .lst (rows.map entD)), x5, x6, x7, x8, x9], g⟩ = .ok _ ⟨[some (false, M1), some (false, M2), some (false, pD b), some (true, dM rowD kn), some (b4, .lst (rows.map entD)), x5, x6, x7, x8, x9], g⟩
      generalize rows.map entD = rs at nn ⊢
      generalize dM rowD kn = dd
      generalize pD b = pb
      unfold c_ways_from_w1
      cases b4 <;> simp [nn]
    refine ⟨_, _, ec, ?_⟩
    cases rows with
    | nil => exact .inl ⟨rfl, kn, b4, x5, x6, x7, x8, x9, rfl, W⟩
    | cons e0 rows =>
      refine .inr ⟨rfl, ?_⟩
      have kl := k64 W
      simp only [] at kl
      obtain ⟨y6, y7, y8, y9, e1⟩ := wf_rows (K := K) hu hg gp (M1 := M1) (M2 := M2) (x2 := some (false, pD b)) (x4 := some (false, .lst ((e0 :: rows).map entD))) g (e0 :: rows) (kn, []) x6 x7 x8 x9 (by simp only []; omega) (by simp only [List.length_nil]; omega) (fun e he => by
        obtain ⟨v1, v2, v3, v4⟩ := W.pe e he
        exact ⟨v4, by simp only [] at v3; omega⟩)
      obtain ⟨W', l1, l2⟩ := W.rows gp hL
      generalize hw : wfR go (e0 :: rows) (kn, []) = w at e1 W' l1 l2
      obtain ⟨kn', rows'⟩ := w
      simp only [List.length_nil] at e1 l1 l2
      have W2 := sw W'
      have kl' := k64 W2
      simp only [] at kl'
      have t1 : ex K Γ (.asg 5 (.lst .nil)) ⟨[some (false, M1), some (false, M2), some (false, pD b), some (true, dM rowD kn), some (b4, .lst ((e0 :: rows).map entD)), x5, x6, x7, x8, x9], g⟩ = .nx ⟨[some (false, M1), some (false, M2), some (false, pD b), some (true, dM rowD kn), some (b4, .lst ((e0 :: rows).map entD)), some (true, .lst []), x6, x7, x8, x9], g⟩ := rfl
      have it : evI K Γ (.seq (.var 4)) ⟨[some (false, M1), some (false, M2), some (false, pD b), some (true, dM rowD kn), some (b4, .lst ((e0 :: rows).map entD)), some (true, .lst []), x6, x7, x8, x9], g⟩ = .ok ((e0 :: rows).map entD) ⟨[some (false, M1), some (false, M2), some (false, pD b), some (true, dM rowD kn), some (false, .lst ((e0 :: rows).map entD)), some (true, .lst []), x6, x7, x8, x9], g⟩ := by
        cases b4 <;> rfl
      have t2 := (ex_for (t := .tp [6, 7]) (b := c_ways_from_b2 u) it).trans e1
      have t3 : ex K Γ (.asg 4 (.var 5)) ⟨[some (false, M1), some (false, M2), some (false, pD b), some (true, dM rowD kn'), some (false, .lst ((e0 :: rows).map entD)), some (true, .lst (rows'.map entD)), y6, y7, y8, y9], g⟩ = .nx (st kn' rows' false (some (false, .lst (rows'.map entD))) y6 y7 y8 y9) := rfl
      refine ⟨st kn' rows' false (some (false, .lst (rows'.map entD))) y6 y7 y8 y9, ?_, ⟨kn', rows', false, _, _, _, _, _, rfl, W2, by omega⟩, ?_⟩
      · show ex K Γ (c_ways_from_b3 u) ⟨[some (false, M1), some (false, M2), some (false, pD b), some (true, dM rowD kn), some (b4, .lst ((e0 :: rows).map entD)), x5, x6, x7, x8, x9], g⟩ = _
        unfold c_ways_from_b3
        rw [seq_nx t1, seq_nx t2, seq_nx t3]
        rfl
      · rw [mu_eq, mu_eq]
        cases rows' with
        | nil => simp; simp at l2; omega
        | cons e1 r1 => simp; simp at l2; omega
  · rw [mu_eq]; simp
  · exact ⟨[], [(b, [])], true, none, none, none, none, none, rfl, ⟨List.nodup_nil, fun e h => (nomatch h), fun e h => (nomatch h), fun e h => by
      rw [List.mem_singleton.mp h]; exact ⟨rfl, fun c h => (nomatch h), Nat.le_refl _, hb⟩, fun p hp => by
      rcases hp with h | h
      · subst h; exact .inl List.mem_cons_self
      · cases h⟩, by simp⟩
  · refine ⟨kn, run_rt (sl := [some (false, M1), some (false, M2), some (false, pD b), none, none, none, none, none, none, none]) rfl ?_, ?_⟩
    · unfold c_ways_from
      have t1 : ex K Γ (.par [3, 4] (.cons .dnew (.cons (.lst (.cons (.tup (.cons (.tup .nil) (.cons (.var 2) .nil))) .nil)) .nil))) ⟨[some (false, M1), some (false, M2), some (false, pD b), none, none, none, none, none, none, none], g⟩ = .nx (st [] [(b, [])] true none none none none none) := rfl
      have t2 : ex K Γ (.whl 1000 c_ways_from_w1 (c_ways_from_b3 u)) (st [] [(b, [])] true none none none none none) = .nx s' := e
      rw [seq_nx t1, seq_nx t2, es]
      exact seq_rt rfl
    · have kl := k64 W
      simp only [] at kl
      refine ⟨W.nd, fun e he => ?_, fun q hq => ?_, fun p hp q hq => ?_⟩
      · obtain ⟨v1, v2, v3, v4, v5⟩ := W.ve e he
        simp only [] at v4
        exact ⟨v1, v2, v3, by omega, v5⟩
      · rcases W.cl b (.inl rfl) with h | h | h
        · cases h
        · cases h
        · exact h q hq
      · rcases W.cl p (.inr hp) with h | h | h
        · cases h
        · cases h
        · exact h q hq
end
end BF
set_option Elab.async false
set_option linter.all false
set_option autoImplicit false
set_option maxRecDepth 100000
set_option maxHeartbeats 1000000
namespace Gr
section
variable {α : Type} [DecidableEq α] (go : α → List α) (f : α → Nat)
/-- where there are long walks, one goes round on its way -/
theorem round_ex {p : α} {R : List α} (hR : ∀ q, Rc go p q → q ∈ R) {n : Nat} (hn : R.length ≤ n) (h : 0 < cf go n f p) : ∃ x, Rc go p x ∧ (∃ v, v ≠ [] ∧ Wk go x v ∧ (v.getLast?).getD x = x) ∧ ∃ k, 0 < cf go k f x := by
  obtain ⟨w, e1, e2, e3⟩ := (cf_pos go).mp h
  -- the first places of the walk, p first
  have hin : ∀ (a : List α), Wk go p a → (a.getLast?).getD p ∈ R := fun a ha => hR _ ⟨a, ha, rfl⟩
  have pre : ∀ k, Wk go p (w.take k) := fun k => by
    have := (Wk.append go (p := p) (a := w.take k) (b := w.drop k)).mp (by rw [List.take_append_drop]; exact e2)
    exact this.1
  have all : ∀ x ∈ p :: w, x ∈ R := by
    intro x hx
    rcases List.mem_cons.mp hx with rfl | hx
    · exact hR _ (Rc.refl go _)
    · obtain ⟨i, hi, e⟩ := List.mem_iff_getElem.mp hx
      have := hin (w.take (i + 1)) (pre (i + 1))
      rw [List.getLast?_take] at this
      simp [hi, e] at this
      exact this
  have nd : ¬ ((p :: w).take (R.length + 1)).Nodup := fun z => by
    have := nodup_le z fun x hx => all x (List.mem_of_mem_take hx)
    rw [List.length_take] at this
    simp only [List.length_cons] at this
    omega
  obtain ⟨a, x, b, c, e⟩ := double nd
  have hlen : (a ++ x :: b ++ x :: c).length = R.length + 1 := by
    rw [← e, List.length_take]; simp only [List.length_cons]; omega
  have ew : p :: w = a ++ x :: b ++ x :: c ++ (p :: w).drop (R.length + 1) := by rw [← e, List.take_append_drop]
  simp only [List.length_append, List.length_cons] at hlen
  generalize hd : (p :: w).drop (R.length + 1) = d at ew
  -- w = u ++ v ++ t, u to x, v round to x
  obtain ⟨u, v, t, hw, hu, hv, hvl⟩ : ∃ u v t, w = u ++ v ++ t ∧ (u.getLast?).getD p = x ∧ (v.getLast?).getD x = x ∧ v.length = b.length + 1 := by
    cases a with
    | nil =>
      simp only [List.nil_append, List.cons_append, List.cons.injEq] at ew
      obtain ⟨rfl, ew⟩ := ew
      exact ⟨[], b ++ [p], c ++ d, by rw [ew]; simp, rfl, by simp, by simp⟩
    | cons a0 a =>
      simp only [List.cons_append, List.cons.injEq] at ew
      obtain ⟨rfl, ew⟩ := ew
      exact ⟨a ++ [x], b ++ [x], c ++ d, by rw [ew]; simp, by simp, by simp, by simp⟩
  rw [hw] at e2
  obtain ⟨w1, w3⟩ := (Wk.append go).mp e2
  obtain ⟨w1, w2⟩ := (Wk.append go).mp w1
  have luv : ((u ++ v).getLast?).getD p = x := by
    cases v with
    | nil => simp at hvl
    | cons y v =>
      cases h : (y :: v).getLast? with
      | none => simp at h
      | some z => rw [h] at hv; simp [List.getLast?_append, h]; exact hv
  rw [luv] at w3
  rw [hu] at w2
  refine ⟨x, ⟨u, w1, hu⟩, ⟨v, fun z => by rw [z] at hvl; simp at hvl, w2, hv⟩, t.length, (cf_pos go).mpr ⟨t, rfl, w3, ?_⟩⟩
  have : (t.getLast?).getD x = (w.getLast?).getD p := by
    rw [hw]
    cases t with
    | nil => simp only [List.append_nil, luv]; rfl
    | cons y t =>
      cases h : (y :: t).getLast? with
      | none => simp at h
      | some z => simp [List.getLast?_append, h]
  rw [this]; exact e3
end
end Gr
namespace BF
open PySem PySem.Spec PyProof.Rows L2
theorem WyOk.reach {go : Pr → List Pr} {P : Pr → Prop} {L : Nat} {b : Pr} {kn : Kw} (W : WyOk go P L b kn) : ∀ (w : List Pr), w ≠ [] → Gr.Wk go b w → (w.getLast?).getD b ∈ ks kn := by
  have key : ∀ (w : List Pr) (a : Pr), a ∈ ks kn → Gr.Wk go a w → (w.getLast?).getD a ∈ ks kn := by
    intro w
    induction w with
    | nil => intro a ha _; exact ha
    | cons c w ih =>
      intro a ha hw
      have hc := W.cl a ha c hw.1
      have := ih c hc hw.2
      cases w with
      | nil => exact hc
      | cons d w =>
        rw [List.getLast?_cons_cons]
        have e : ∀ z, ((d :: w).getLast?).getD z = (d :: w).getLast (by simp) := fun z => by rw [List.getLast?_eq_some_getLast (by simp)]; rfl
        rw [e] at this ⊢
        exact this
  intro w hne hw
  cases w with
  | nil => exact (hne rfl).elim
  | cons c w =>
    have hc := W.st c hw.1
    have := key w c hc hw.2
    cases w with
    | nil => exact hc
    | cons d w =>
      rw [List.getLast?_cons_cons]
      have e : ∀ z, ((d :: w).getLast?).getD z = (d :: w).getLast (by simp) := fun z => by rw [List.getLast?_eq_some_getLast (by simp)]; rfl
      rw [e] at this ⊢
      exact this
/-- a place on a ring that leads to an unlike one -/
theorem ring_ex {go : Pr → List Pr} {f : Pr → Nat} {b : Pr} {cs : List Pr} (hR : ∀ q, Gr.Rc go b q → q ∈ cs) (h : Gr.Inf go f b) : ∃ x ∈ cs, Gr.Rc go b x ∧ (∃ v, v ≠ [] ∧ Gr.Wk go x v ∧ (v.getLast?).getD x = x) ∧ ∃ k, 0 < Gr.cf go k f x := by
  obtain ⟨n, h1, h2⟩ := h cs.length
  obtain ⟨x, r, v, k⟩ := Gr.round_ex go f hR h1 h2
  exact ⟨x, hR x r, r, v, k⟩
theorem eqO_pD (p q : Pr) : eqO (pD p) (pD q) = some (.vl (.bl (decide (p = q)))) := by
  obtain ⟨a, b⟩ := p
  obtain ⟨c, d⟩ := q
  unfold eqO eqB pD
  simp [eqD, toPy, toPys, PyData.eqv, PyData.eqvAll]
  have e : ∀ x y : Nat, ((x : Int) == (y : Int)) = decide (x = y) := fun x y => by
    by_cases h : x = y
    · simp [h]
    · rw [decide_eq_false h]; simp; omega
  rw [e, e]
/-! min of (length, row) -/
def endD (r : List Nat) : D := .tup [.int r.length, rowD r]
theorem end_plain (r : List Nat) : plain 20 (endD r) = true := by
  have := plain_nats 18 r
  simp [endD, this]
theorem alike_ints : ∀ (a b : List Nat), PySem.W.alikeAll (toPys (a.map nat)) (toPys (b.map nat)) = true
  | [], b => by simp [toPys, PySem.W.alikeAll]
  | x :: a, [] => by simp [toPys, PySem.W.alikeAll]
  | x :: a, y :: b => by
    have := alike_ints a b
    simp [toPys, toPy, PySem.W.alikeAll, PySem.W.alike, this]
theorem alike_ends (a b : List Nat) : PySem.W.alike (toPy (endD a)) (toPy (endD b)) = true := by
  have := alike_ints a b
  simp [endD, toPy, toPys, PySem.W.alike, PySem.W.alikeAll, this]
theorem min_ends : ∀ {rs : List (List Nat)}, rs ≠ [] → ∃ r ∈ rs, minO2 (.lst (rs.map endD)) = some (.vl (endD r))
  | [], h => (h rfl).elim
  | r0 :: rs, _ => by
    have hp : ((r0 :: rs).map endD).all (plain 20) = true := by
      rw [List.all_eq_true]
      intro d hd
      obtain ⟨r, _, rfl⟩ := List.mem_map.mp hd
      exact end_plain r
    have ha : alikeB (toPys ((r0 :: rs).map endD)) = true := by
      unfold alikeB
      rw [toPys_eq, Bool.and_eq_true]
      refine ⟨?_, ?_⟩
      · rw [List.all_eq_true]
        intro x hx
        rw [List.all_eq_true]
        intro y hy
        obtain ⟨d1, h1, rfl⟩ := List.mem_map.mp hx
        obtain ⟨d2, h2, rfl⟩ := List.mem_map.mp hy
        obtain ⟨a, _, rfl⟩ := List.mem_map.mp h1
        obtain ⟨b, _, rfl⟩ := List.mem_map.mp h2
        exact alike_ends a b
      · rw [List.all_eq_true]
        intro x hx
        obtain ⟨d1, h1, rfl⟩ := List.mem_map.mp hx
        obtain ⟨a, _, rfl⟩ := List.mem_map.mp h1
        simp [endD, toPy, isNoP]
    have hm := minDD_mem (rs.map endD) (endD r0)
    rw [← List.map_cons] at hm
    obtain ⟨r, h1, h2⟩ := List.mem_map.mp hm
    refine ⟨r, h1, ?_⟩
    rw [h2]
    show (if (((r0 :: rs).map endD).all (plain 20) = true ∧ alikeB (toPys ((r0 :: rs).map endD)) = true) then some (Ov.vl (minDD (endD r0) (rs.map endD))) else none) = _
    rw [if_pos ⟨hp, ha⟩]
end BF
set_option Elab.async false
set_option linter.all false
set_option autoImplicit false
set_option maxRecDepth 100000
set_option maxHeartbeats 1000000
namespace BF
open PySem PySem.Spec PyProof.Rows L2
section
variable {G : Type} {K : Env1} {Γ : Gam G}
theorem ife_true {c : Ce} {a b : Cs} {st st1 : Sg G} (h : ev K Γ c st = .ok (.vl (.bl true)) st1) : ex K Γ (.ife c a b) st = ex K Γ a st1 := by
  show exIf (ev K Γ c) (ex K Γ a) (ex K Γ b) st = _
  unfold exIf exE
  rw [h]
  rfl
theorem ring_lc {u : Nat} {x : Str} {m : Mir G} (hu : Γ[u]? = some (x, .fn 3 m)) {M1 M2 : D} {f : Pr → Nat} (hm : SUn m M1 M2 f) {kn : Kw} {x2 x3 x5 x6 x7 : Option (Bool × D)} (g : G) : ∀ (rest : Kw), (∀ e ∈ rest, lk kn e.1 = some e.2) →
    lcL (.nm 8) (ev K Γ (c_ring_t1 u)) (ev K Γ c_ring_e1) [8] ((ks rest).map pD) ⟨[some (false, M1), some (false, M2), x2, x3, some (false, dM rowD kn), x5, x6, x7, none], g⟩ = .ok ((rest.filter fun e => decide (0 < f e.1)).map fun e => endD e.2) ⟨[some (false, M1), some (false, M2), x2, x3, some (false, dM rowD kn), x5, x6, x7, none], g⟩
  | [], _ => rfl
  | e :: rest, h => by
    have ih := ring_lc hu hm (x2 := x2) (x3 := x3) (x5 := x5) (x6 := x6) (x7 := x7) g rest fun y hy => h y (List.mem_cons_of_mem _ hy)
    have et : ev K Γ (c_ring_t1 u) ⟨[some (false, M1), some (false, M2), x2, x3, some (false, dM rowD kn), x5, x6, x7, some (false, pD e.1)], g⟩ = .ok (.vl (.bl (decide (0 < f e.1)))) ⟨[some (false, M1), some (false, M2), x2, x3, some (false, dM rowD kn), x5, x6, x7, some (false, pD e.1)], g⟩ := by
      have := hm e.1 g
      generalize pD e.1 = pe at this ⊢
      generalize dM rowD kn = dd
      unfold c_ring_t1
      simp [hu, this]
    have ee : ev K Γ c_ring_e1 ⟨[some (false, M1), some (false, M2), x2, x3, some (false, dM rowD kn), x5, x6, x7, some (false, pD e.1)], g⟩ = .ok (.vl (endD e.2)) ⟨[some (false, M1), some (false, M2), x2, x3, some (false, dM rowD kn), x5, x6, x7, some (false, pD e.1)], g⟩ := by
      have q := ixO2_pD rowD kn e.1
      rw [h e List.mem_cons_self] at q
      have q : ixO2 (dM rowD kn) (pD e.1) = some (.vl (rowD e.2)) := q
      generalize pD e.1 = pe at q ⊢
      generalize dM rowD kn = dd at q ⊢
      unfold c_ring_e1 endD
      simp only [rowD_eq] at q
      simp [q]
    have stp : ∀ ds, lcL (.nm 8) (ev K Γ (c_ring_t1 u)) (ev K Γ c_ring_e1) [8] (pD e.1 :: ds) ⟨[some (false, M1), some (false, M2), x2, x3, some (false, dM rowD kn), x5, x6, x7, none], g⟩ = if decide (0 < f e.1) = true then (lcL (.nm 8) (ev K Γ (c_ring_t1 u)) (ev K Γ c_ring_e1) [8] ds ⟨[some (false, M1), some (false, M2), x2, x3, some (false, dM rowD kn), x5, x6, x7, none], g⟩).bind fun rs s5 => .ok (endD e.2 :: rs) s5 else lcL (.nm 8) (ev K Γ (c_ring_t1 u)) (ev K Γ c_ring_e1) [8] ds ⟨[some (false, M1), some (false, M2), x2, x3, some (false, dM rowD kn), x5, x6, x7, none], g⟩ := fun ds => by
      have ea : asgT (.nm 8) (pD e.1) (⟨[some (false, M1), some (false, M2), x2, x3, some (false, dM rowD kn), x5, x6, x7, none], g⟩ : Sg G) = some ⟨[some (false, M1), some (false, M2), x2, x3, some (false, dM rowD kn), x5, x6, x7, some (false, pD e.1)], g⟩ := rfl
      conv => lhs; unfold lcL
      rw [ea]
      simp only []
      rw [et]
      cases q : decide (0 < f e.1) with
      | false => rfl
      | true =>
        show (match ev K Γ c_ring_e1 ⟨[some (false, M1), some (false, M2), x2, x3, some (false, dM rowD kn), x5, x6, x7, some (false, pD e.1)], g⟩ with
          | .ok y s3 => _
          | _ => _) = _
        rw [ee]
        rfl
    show lcL _ _ _ _ (pD e.1 :: (ks rest).map pD) _ = _
    rw [stp, ih, List.filter_cons]
    by_cases q : 0 < f e.1
    · rw [if_pos (decide_eq_true q), if_pos (decide_eq_true q)]; rfl
    · rw [decide_eq_false q]; rfl
/-- what is asked of a ring -/
structure RgOk (go : Pr → List Pr) (f : Pr → Nat) (P : Pr → Prop) (L : Nat) (b : Pr) (h l t : List Nat) : Prop where
  rd : eG go (eG go b h) l = eG go b h
  ne : l ≠ []
  un : 0 < f (eG go (eG go b h) t)
  hh : ∀ c ∈ h, c < L
  hl : ∀ c ∈ l, c < L
  ht : ∀ c ∈ t, c < L
  pp : P (eG go b h)
  sz : h.length ≤ 64 ∧ l.length ≤ 64 ∧ t.length ≤ 64
theorem lk_of {kn : Kw} (hn : (ks kn).Nodup) {e : Pr × List Nat} (he : e ∈ kn) : lk kn e.1 = some e.2 := lk_mem hn (by exact he)
theorem ring_hit {u1 u2 u3 : Nat} {x1 x2' x3' : Str} {m1 m3 : Mir G} (h1 : Γ[u1]? = some (x1, .fn 3 m1)) (h2 : Γ[u2]? = some (x2', .cst (.tup [.int 0, .int 0]))) (h3 : Γ[u3]? = some (x3', .fn 3 m3)) {M1 M2 : D} {go : Pr → List Pr} {f : Pr → Nat} {P : Pr → Prop} {L : Nat} (hw : SWy m1 M1 M2 go P L) (hu : SUn m3 M1 M2 f) (gp : Gp go P) (hb : P (0, 0)) {us : List Pr} {p : Pr} (hp : P p) (pu : p ∈ us) (hr : Gr.Rc go (0, 0) p) (hn : ∃ k, 0 < Gr.cf go k f p) (hc : ∃ v, v ≠ [] ∧ Gr.Wk go p v ∧ (v.getLast?).getD p = p) {x4 x5 x6 x7 : Option (Bool × D)} (g : G) :
    ∃ h l t, RgOk go f P L (0, 0) h l t ∧ ex K Γ (c_ring_b1 u1 u2 u3) ⟨[some (false, M1), some (false, M2), some (false, dS us), some (false, pD p), x4, x5, x6, x7, none], g⟩ = .rt (.tup [rowD h, rowD l, rowD t]) g := by
  obtain ⟨kn, ek, W⟩ := hw p g hp
  obtain ⟨kn0, ek0, W0⟩ := hw (0, 0) g hb
  -- the loop
  obtain ⟨v, v1, v2, v3⟩ := hc
  have pk := W.reach v v1 v2
  rw [v3] at pk
  obtain ⟨el, el1, el2⟩ := List.mem_map.mp pk
  obtain ⟨l1, l2, l3, l4, l5⟩ := W.ve el el1
  have lkl := lk_of W.nd el1
  rw [el2] at lkl l1
  -- the head
  obtain ⟨hd, hd1, hd2, hd3, hd4⟩ : ∃ hd : List Nat, eG go (0, 0) hd = p ∧ (∀ c ∈ hd, c < L) ∧ hd.length ≤ 64 ∧ (p = (0, 0) ∧ hd = [] ∨ p ≠ (0, 0) ∧ lk kn0 p = some hd) := by
    by_cases c : p = (0, 0)
    · exact ⟨[], c.symm, fun c h => (nomatch h), by simp, .inl ⟨c, rfl⟩⟩
    · obtain ⟨w, w1, w2⟩ := hr
      have := W0.reach w (fun z => by rw [z] at w2; exact c w2.symm) w1
      rw [w2] at this
      obtain ⟨eh, h1, h2⟩ := List.mem_map.mp this
      obtain ⟨a1, a2, a3, a4, a5⟩ := W0.ve eh h1
      have := lk_of W0.nd h1
      rw [h2] at this a1
      exact ⟨eh.2, a1, a3, a4, .inr ⟨c, this⟩⟩
  -- the tail
  have ends := ring_lc (K := K) h3 hu (kn := kn) (x2 := some (false, dS us)) (x3 := some (false, pD p)) (x5 := some (false, rowD hd)) (x6 := x6) (x7 := x7) g kn (fun e he => lk_of W.nd he)
  obtain ⟨tl, tl1, tl2, tl3, tl4⟩ : ∃ tl : List Nat, 0 < f (eG go p tl) ∧ (∀ c ∈ tl, c < L) ∧ tl.length ≤ 64 ∧ ((0 < f p ∧ tl = []) ∨ (¬ 0 < f p ∧ minO2 (.lst ((kn.filter fun e => decide (0 < f e.1)).map fun e => endD e.2)) = some (.vl (endD tl)))) := by
    by_cases c : 0 < f p
    · exact ⟨[], c, fun c h => (nomatch h), by simp, .inl ⟨c, rfl⟩⟩
    · obtain ⟨k, hk⟩ := hn
      obtain ⟨w, w1, w2, w3⟩ := (Gr.cf_pos go).mp hk
      have wne : w ≠ [] := fun z => by rw [z] at w3; exact c w3
      have := W.reach w wne w2
      obtain ⟨e, e1, e2⟩ := List.mem_map.mp this
      have hin : e.2 ∈ (kn.filter fun e => decide (0 < f e.1)).map (·.2) := List.mem_map.mpr ⟨e, List.mem_filter.mpr ⟨e1, by rw [e2]; exact decide_eq_true w3⟩, rfl⟩
      obtain ⟨r, r1, r2⟩ := min_ends (rs := (kn.filter fun e => decide (0 < f e.1)).map (·.2)) (fun z => by rw [z] at hin; cases hin)
      rw [List.map_map] at r2
      obtain ⟨e', e3, e4⟩ := List.mem_map.mp r1
      obtain ⟨e5, e6⟩ := List.mem_filter.mp e3
      obtain ⟨a1, a2, a3, a4, a5⟩ := W.ve e' e5
      rw [e4] at a1 a3 a4
      exact ⟨r, by rw [a1]; exact of_decide_eq_true e6, a3, a4, .inr ⟨c, r2⟩⟩
  refine ⟨hd, el.2, tl, ⟨by rw [hd1]; exact l1, l2, by rw [hd1]; exact tl1, hd2, l3, tl2, by rw [hd1]; exact hp, hd3, l4, tl3⟩, ?_⟩
  have t1 : ex K Γ (.asg 4 (.call u1 (.cons (.var 0) (.cons (.var 1) (.cons (.var 3) .nil))))) ⟨[some (false, M1), some (false, M2), some (false, dS us), some (false, pD p), x4, x5, x6, x7, none], g⟩ = .nx ⟨[some (false, M1), some (false, M2), some (false, dS us), some (false, pD p), some (false, dM rowD kn), x5, x6, x7, none], g⟩ := by
    generalize dM rowD kn = dd at ek ⊢
    generalize dS us = du
    generalize pD p = pp at ek ⊢
    simp [h1, ek]
  have i1 := inO2_dS us p
  rw [decide_eq_true pu] at i1
  have i2 := inO2_pD rowD kn p
  rw [decide_eq_true (show p ∈ kn.map (·.1) from pk)] at i2
  have eq0 := eqO_pD p (0, 0)
  have eq0 : eqO (pD p) (.tup [.int 0, .int 0]) = some (.vl (.bl (decide (p = (0, 0))))) := eq0
  have q1 := ixO2_pD rowD kn p
  rw [lkl] at q1
  have q1 : ixO2 (dM rowD kn) (pD p) = some (.vl (rowD el.2)) := q1
  have ek0 : m1 [M1, M2, .tup [.int 0, .int 0]] g = .ok (dM rowD kn0) g := ek0
  have q0 : p ≠ (0, 0) → ixO2 (dM rowD kn0) (pD p) = some (.vl (rowD hd)) := fun c => by
    rcases hd4 with h | h
    · exact (c h.1).elim
    · have := ixO2_pD rowD kn0 p
      rw [h.2] at this
      exact this
  have t2 : ex K Γ (.asg 5 (.ife (.cmp .eq (.var 3) (.glo u2)) (.tup .nil) (.ix (.call u1 (.cons (.var 0) (.cons (.var 1) (.cons (.glo u2) .nil)))) (.var 3)))) ⟨[some (false, M1), some (false, M2), some (false, dS us), some (false, pD p), some (false, dM rowD kn), x5, x6, x7, none], g⟩ = .nx ⟨[some (false, M1), some (false, M2), some (false, dS us), some (false, pD p), some (false, dM rowD kn), some (false, rowD hd), x6, x7, none], g⟩ := by
    by_cases c : p = (0, 0)
    · have e : hd = [] := by
        rcases hd4 with h | h
        · exact h.2
        · exact (h.1 c).elim
      rw [decide_eq_true c] at eq0
      rw [e]
      generalize dM rowD kn = dd
      generalize dS us = du
      generalize pD p = pp at eq0 ⊢
      simp [h2, eq0]
    · have q0 := q0 c
      rw [decide_eq_false c] at eq0
      generalize dM rowD kn = dd
      generalize dM rowD kn0 = dd0 at ek0 q0
      generalize dS us = du
      generalize pD p = pp at eq0 q0 ⊢
      generalize rowD hd = rh at q0 ⊢
      simp [h2, eq0, h1, ek0, q0]
  have k64 : (ks kn).length ≤ 64 := gp.fin (ks kn) W.nd fun q hq => by
    obtain ⟨e, h1, h2⟩ := List.mem_map.mp hq
    rw [← h2]; exact (W.ve e h1).2.2.2.2
  have sz : ((ks kn).map pD).length ≤ sizeLine := size_ge (by rw [List.length_map]; omega)
  have sq : seqO (dM rowD kn) = some ((ks kn).map pD) := seqO_dM rowD kn
  have t3 : ex K Γ (.asg 6 (.lc1 c_ring_e1 (.nm 8) (.seq (.var 4)) (c_ring_t1 u3) [8])) ⟨[some (false, M1), some (false, M2), some (false, dS us), some (false, pD p), some (false, dM rowD kn), some (false, rowD hd), x6, x7, none], g⟩ = .nx ⟨[some (false, M1), some (false, M2), some (false, dS us), some (false, pD p), some (false, dM rowD kn), some (false, rowD hd), some (true, .lst ((kn.filter fun e => decide (0 < f e.1)).map fun e => endD e.2)), x7, none], g⟩ := by
    generalize ((kn.filter fun e => decide (0 < f e.1)).map fun e => endD e.2) = Z at ends ⊢
    generalize (ks kn).map pD = kd at ends sz sq
    generalize dM rowD kn = dd at ends sq ⊢
    generalize dS us = du at ends ⊢
    generalize pD p = pp at ends ⊢
    generalize rowD hd = rh at ends ⊢
    simp [sq, sz, ends]
  have um := hu p g
  have t4 : ex K Γ (.asg 7 (.ife (.call u3 (.cons (.var 0) (.cons (.var 1) (.cons (.var 3) .nil)))) (.tup .nil) (.ix (.blt .minD (.cons (.var 6) .nil)) (.cst (.int 1))))) ⟨[some (false, M1), some (false, M2), some (false, dS us), some (false, pD p), some (false, dM rowD kn), some (false, rowD hd), some (true, .lst ((kn.filter fun e => decide (0 < f e.1)).map fun e => endD e.2)), x7, none], g⟩ = .nx ⟨[some (false, M1), some (false, M2), some (false, dS us), some (false, pD p), some (false, dM rowD kn), some (false, rowD hd), some (true, .lst ((kn.filter fun e => decide (0 < f e.1)).map fun e => endD e.2)), some (false, rowD tl), none], g⟩ := by
    generalize ((kn.filter fun e => decide (0 < f e.1)).map fun e => endD e.2) = Z at tl4 ⊢
    generalize dM rowD kn = dd
    generalize dS us = du
    generalize rowD hd = rh
    rcases tl4 with ⟨c, e⟩ | ⟨c, e⟩
    · subst e
      rw [decide_eq_true c] at um
      generalize pD p = pp at um ⊢
      simp [h3, um]
    · rw [decide_eq_false c] at um
      generalize pD p = pp at um ⊢
      unfold endD at e
      generalize rowD tl = rt at e ⊢
      have e' : blF .minD [.lst Z] = some (.vl (.tup [.int tl.length, rt])) := e
      simp only [blF, one] at e'
      simp [h3, um, e]
  have t5 : ex K Γ (.ret (.tup (.cons (.var 5) (.cons (.ix (.var 4) (.var 3)) (.cons (.var 7) .nil))))) ⟨[some (false, M1), some (false, M2), some (false, dS us), some (false, pD p), some (false, dM rowD kn), some (false, rowD hd), some (true, .lst ((kn.filter fun e => decide (0 < f e.1)).map fun e => endD e.2)), some (false, rowD tl), none], g⟩ = .rt (.tup [rowD hd, rowD el.2, rowD tl]) g := by
    generalize ((kn.filter fun e => decide (0 < f e.1)).map fun e => endD e.2) = Z
    generalize dM rowD kn = dd at q1 ⊢
    generalize dS us = du
    generalize pD p = pp at q1 ⊢
    generalize rowD hd = rh
    generalize rowD tl = rt
    generalize rowD el.2 = re at q1 ⊢
    simp [q1]
  unfold c_ring_b1
  rw [seq_nx t1]
  refine seq_rt ?_
  have ct : ev K Γ (.bop true (.cons (.cmp .isin (.var 3) (.var 2)) (.cons (.cmp .isin (.var 3) (.var 4)) .nil))) ⟨[some (false, M1), some (false, M2), some (false, dS us), some (false, pD p), some (false, dM rowD kn), x5, x6, x7, none], g⟩ = .ok (.vl (.bl true)) ⟨[some (false, M1), some (false, M2), some (false, dS us), some (false, pD p), some (false, dM rowD kn), x5, x6, x7, none], g⟩ := by
    generalize dM rowD kn = dd at i2 ⊢
    generalize dS us = du at i1 ⊢
    generalize pD p = pp at i1 i2 ⊢
    simp [i1, i2]
  refine (ife_true ct).trans ?_
  rw [seq_nx t2, seq_nx t3, seq_nx t4]
  exact seq_rt t5
end
end BF
set_option Elab.async false
set_option linter.all false
set_option autoImplicit false
set_option maxRecDepth 100000
set_option maxHeartbeats 1000000
namespace BF
open PySem PySem.Spec PyProof.Rows L2
theorem forL_rt {G : Type} {t : Tg} {body : Sg G → Ro G} {d : D} {ds : List D} {s s1 : Sg G} {v : D} {g : G} (h1 : asgT t d s = some s1) (h2 : body s1 = .rt v g) : forL t body (d :: ds) s = .rt v g := by
  unfold forL
  rw [h1]
  simp only []
  rw [h2]
def tr (go : Pr → List Pr) : Pr → List Nat → List Pr
  | _, [] => []
  | p, c :: r => stp go p c :: tr go (stp go p c) r
theorem tr_ok {go : Pr → List Pr} {P : Pr → Prop} {L : Nat} (gp : Gp go P) (hL : ∀ p, P p → (go p).length = L) : ∀ (r : List Nat) (p : Pr), P p → (∀ c ∈ r, c < L) → Gr.Wk go p (tr go p r) ∧ ((tr go p r).getLast?).getD p = eG go p r
  | [], p, _, _ => ⟨trivial, rfl⟩
  | c :: r, p, hp, hc => by
    have h0 : c < (go p).length := by rw [hL p hp]; exact hc c List.mem_cons_self
    have hm : stp go p c ∈ go p := by
      unfold stp
      rw [List.getD_eq_getElem?_getD, List.getElem?_eq_getElem h0]
      exact List.getElem_mem h0
    obtain ⟨h1, h2⟩ := tr_ok gp hL r (stp go p c) (gp.cl p hp _ hm) fun y hy => hc y (List.mem_cons_of_mem _ hy)
    refine ⟨⟨hm, h1⟩, ?_⟩
    show ((stp go p c :: tr go (stp go p c) r).getLast?).getD p = eG go (stp go p c) r
    rw [← h2]
    cases tr go (stp go p c) r with
    | nil => rfl
    | cons d w =>
      rw [List.getLast?_cons_cons]
      have e : ∀ z, ((d :: w).getLast?).getD z = (d :: w).getLast (by simp) := fun z => by rw [List.getLast?_eq_some_getLast (by simp)]; rfl
      rw [e, e]
section
variable {G : Type} {K : Env1} {Γ : Gam G}
theorem ring_miss {u1 u2 u3 : Nat} {x1 : Str} {m1 : Mir G} (h1 : Γ[u1]? = some (x1, .fn 3 m1)) {M1 M2 : D} {us : List Pr} {p : Pr} {kn : Kw} {g : G} (ek : m1 [M1, M2, pD p] g = .ok (dM rowD kn) g) (hc : ¬ (p ∈ us ∧ p ∈ ks kn)) {x4 x5 x6 x7 : Option (Bool × D)} :
    ex K Γ (c_ring_b1 u1 u2 u3) ⟨[some (false, M1), some (false, M2), some (false, dS us), some (false, pD p), x4, x5, x6, x7, none], g⟩ = .nx ⟨[some (false, M1), some (false, M2), some (false, dS us), some (false, pD p), some (false, dM rowD kn), x5, x6, x7, none], g⟩ := by
  have t1 : ex K Γ (.asg 4 (.call u1 (.cons (.var 0) (.cons (.var 1) (.cons (.var 3) .nil))))) ⟨[some (false, M1), some (false, M2), some (false, dS us), some (false, pD p), x4, x5, x6, x7, none], g⟩ = .nx ⟨[some (false, M1), some (false, M2), some (false, dS us), some (false, pD p), some (false, dM rowD kn), x5, x6, x7, none], g⟩ := by
    generalize dM rowD kn = dd at ek ⊢
    generalize dS us = du
    generalize pD p = pp at ek ⊢
    simp [h1, ek]
  have i1 := inO2_dS us p
  have i2 := inO2_pD rowD kn p
  have ct : ev K Γ (.bop true (.cons (.cmp .isin (.var 3) (.var 2)) (.cons (.cmp .isin (.var 3) (.var 4)) .nil))) ⟨[some (false, M1), some (false, M2), some (false, dS us), some (false, pD p), some (false, dM rowD kn), x5, x6, x7, none], g⟩ = .ok (.vl (.bl false)) ⟨[some (false, M1), some (false, M2), some (false, dS us), some (false, pD p), some (false, dM rowD kn), x5, x6, x7, none], g⟩ := by
    by_cases a : p ∈ us
    · have b : ¬ p ∈ kn.map (·.1) := fun z => hc ⟨a, z⟩
      rw [decide_eq_true a] at i1
      rw [decide_eq_false b] at i2
      generalize dM rowD kn = dd at i2 ⊢
      generalize dS us = du at i1 ⊢
      generalize pD p = pp at i1 i2 ⊢
      simp [i1, i2]
    · rw [decide_eq_false a] at i1
      generalize dM rowD kn = dd at i2 ⊢
      generalize dS us = du at i1 ⊢
      generalize pD p = pp at i1 i2 ⊢
      simp [i1]
  unfold c_ring_b1
  rw [seq_nx t1]
  exact seq_nx ((ife_false ct).trans rfl)
theorem ring_loop {u1 u2 u3 : Nat} {x1 x2' x3' : Str} {m1 m3 : Mir G} (h1 : Γ[u1]? = some (x1, .fn 3 m1)) (h2 : Γ[u2]? = some (x2', .cst (.tup [.int 0, .int 0]))) (h3 : Γ[u3]? = some (x3', .fn 3 m3)) {M1 M2 : D} {go : Pr → List Pr} {f : Pr → Nat} {P : Pr → Prop} {L : Nat} (hw : SWy m1 M1 M2 go P L) (hu : SUn m3 M1 M2 f) (gp : Gp go P) (hL : ∀ p, P p → (go p).length = L) (hb : P (0, 0)) {us : List Pr} (hus : ∀ p ∈ us, ∃ k, 0 < Gr.cf go k f p) {x5 x6 x7 : Option (Bool × D)} (g : G) : ∀ (rest : List Pr) (x3 x4 : Option (Bool × D)), (∀ p ∈ rest, P p ∧ Gr.Rc go (0, 0) p) → (∃ p ∈ rest, p ∈ us ∧ ∃ v, v ≠ [] ∧ Gr.Wk go p v ∧ (v.getLast?).getD p = p) →
    ∃ h l t, RgOk go f P L (0, 0) h l t ∧ forL (.nm 3) (ex K Γ (c_ring_b1 u1 u2 u3)) (rest.map pD) ⟨[some (false, M1), some (false, M2), some (false, dS us), x3, x4, x5, x6, x7, none], g⟩ = .rt (.tup [rowD h, rowD l, rowD t]) g
  | [], x3, x4, _, ⟨p, hp, _⟩ => nomatch hp
  | p :: rest, x3, x4, hr, hx => by
    obtain ⟨hp, rc⟩ := hr p List.mem_cons_self
    obtain ⟨kn, ek, W⟩ := hw p g hp
    by_cases c : p ∈ us ∧ p ∈ ks kn
    · obtain ⟨e, e1, e2⟩ := List.mem_map.mp c.2
      obtain ⟨a1, a2, a3, a4, a5⟩ := W.ve e e1
      obtain ⟨w1, w2⟩ := tr_ok gp hL e.2 p hp a3
      have tne : tr go p e.2 ≠ [] := fun z => by
        cases q : e.2 with
        | nil => exact a2 q
        | cons y r => rw [q] at z; cases z
      obtain ⟨h, l, t, ok, e⟩ := ring_hit (K := K) h1 h2 h3 hw hu gp hb hp c.1 rc (hus p c.1) ⟨tr go p e.2, tne, w1, by rw [w2, a1, e2]⟩ (x4 := x4) (x5 := x5) (x6 := x6) (x7 := x7) g
      exact ⟨h, l, t, ok, forL_rt (s1 := ⟨[some (false, M1), some (false, M2), some (false, dS us), some (false, pD p), x4, x5, x6, x7, none], g⟩) rfl e⟩
    · have hx' : ∃ p ∈ rest, p ∈ us ∧ ∃ v, v ≠ [] ∧ Gr.Wk go p v ∧ (v.getLast?).getD p = p := by
        obtain ⟨q, q1, q2, v, v1, v2, v3⟩ := hx
        rcases List.mem_cons.mp q1 with rfl | q1
        · have := W.reach v v1 v2
          rw [v3] at this
          exact (c ⟨q2, this⟩).elim
        · exact ⟨q, q1, q2, v, v1, v2, v3⟩
      obtain ⟨h, l, t, ok, e⟩ := ring_loop h1 h2 h3 hw hu gp hL hb hus (x5 := x5) (x6 := x6) (x7 := x7) g rest (some (false, pD p)) (some (false, dM rowD kn)) (fun y hy => hr y (List.mem_cons_of_mem _ hy)) hx'
      exact ⟨h, l, t, ok, forL_cons (s1 := ⟨[some (false, M1), some (false, M2), some (false, dS us), some (false, pD p), x4, x5, x6, x7, none], g⟩) rfl (ring_miss h1 ek c) e⟩
theorem s_ring {u1 u2 u3 u4 u5 u6 u7 : Nat} {x1 x2 x3 x4 x5 x6 x7 : Str} {m1 m2 m4 m5 m6 m7 : Mir G} (h1 : Γ[u1]? = some (x1, .fn 2 m1)) (h2 : Γ[u2]? = some (x2, .fn 3 m2)) (h3 : Γ[u3]? = some (x3, .cst (.tup [.int 0, .int 0]))) (h4 : Γ[u4]? = some (x4, .fn 3 m4)) (h5 : Γ[u5]? = some (x5, .fn 3 m5)) (h6 : Γ[u6]? = some (x6, .fn 3 m6)) (h7 : Γ[u7]? = some (x7, .fn 3 m7)) {M1 M2 : D} {go : Pr → List Pr} {f : Pr → Nat} {P : Pr → Prop} {L : Nat} {g : G} (c1 : m1 [M1, M2] g = .ok .non g) (hc : SCnt m2 M1 M2 go f P) (hs : SUs m4 M1 M2 go f P) (hcm : SCm m5 M1 M2 go P) (hw : SWy m6 M1 M2 go P L) (hu : SUn m7 M1 M2 f) (gp : Gp go P) (hL : ∀ p, P p → (go p).length = L) (hb : P (0, 0)) :
    ∃ r, Gr.Ans go f (0, 0) r ∧ ((r ≠ none ∧ runF N_ring.length (ex K Γ (c_ring u1 u2 u3 u4 u5 u6 u7)) [M1, M2] g = .ok .non g) ∨ (r = none ∧ ∃ h l t, RgOk go f P L (0, 0) h l t ∧ runF N_ring.length (ex K Γ (c_ring u1 u2 u3 u4 u5 u6 u7)) [M1, M2] g = .ok (.tup [rowD h, rowD l, rowD t]) g)) := by
  obtain ⟨r, ec, an⟩ := hc (0, 0) g hb
  have ec : m2 [M1, M2, .tup [.int 0, .int 0]] g = .ok (ansD r) g := ec
  refine ⟨r, an, ?_⟩
  have t1 : ex K Γ (.expr (.call u1 (.cons (.var 0) (.cons (.var 1) .nil)))) ⟨[some (false, M1), some (false, M2), none, none, none, none, none, none, none], g⟩ = .nx ⟨[some (false, M1), some (false, M2), none, none, none, none, none, none, none], g⟩ := by simp [h1, c1]
  cases r with
  | some c =>
    refine .inl ⟨fun z => (nomatch z), run_rt (sl := [some (false, M1), some (false, M2), none, none, none, none, none, none, none]) rfl ?_⟩
    unfold c_ring
    rw [seq_nx t1]
    refine seq_rt ?_
    simp [h2, h3, ec, ansD, cD]
  | none =>
    obtain ⟨us, eu, U⟩ := hs (0, 0) g hb
    obtain ⟨cs, ecs, C⟩ := hcm (0, 0) g hb
    have eu : m4 [M1, M2, .tup [.int 0, .int 0]] g = .ok (dS us) g := eu
    have ecs : m5 [M1, M2, .tup [.int 0, .int 0]] g = .ok (.lst (cs.map pD)) g := ecs
    have inf : Gr.Inf go f (0, 0) := an
    obtain ⟨x, xc, rc, v, k⟩ := ring_ex (fun q hq => C.all q hq) inf
    obtain ⟨h, l, t, ok, e⟩ := ring_loop (K := K) h6 h3 h7 hw hu gp hL hb (us := us) U.pos (x5 := none) (x6 := none) (x7 := none) g cs none none (fun p hp => ⟨C.inn p hp, C.rc p hp⟩) ⟨x, xc, U.all x rc k, v⟩
    refine .inr ⟨rfl, h, l, t, ok, run_rt (sl := [some (false, M1), some (false, M2), none, none, none, none, none, none, none]) rfl ?_⟩
    unfold c_ring
    rw [seq_nx t1]
    have t2 : ex K Γ (.ife (.cmp .isn (.call u2 (.cons (.var 0) (.cons (.var 1) (.cons (.glo u3) .nil)))) (.cst .non)) (.cons (.ret (.cst .non)) .nil) .nil) ⟨[some (false, M1), some (false, M2), none, none, none, none, none, none, none], g⟩ = .nx ⟨[some (false, M1), some (false, M2), none, none, none, none, none, none, none], g⟩ := by
      simp [h2, h3, ec, ansD]
    have t3 : ex K Γ (.asg 2 (.call u4 (.cons (.var 0) (.cons (.var 1) (.cons (.glo u3) .nil))))) ⟨[some (false, M1), some (false, M2), none, none, none, none, none, none, none], g⟩ = .nx ⟨[some (false, M1), some (false, M2), some (false, dS us), none, none, none, none, none, none], g⟩ := by
      generalize dS us = du at eu ⊢
      simp [h4, h3, eu]
    have it : evI K Γ (.seq (.call u5 (.cons (.var 0) (.cons (.var 1) (.cons (.glo u3) .nil))))) ⟨[some (false, M1), some (false, M2), some (false, dS us), none, none, none, none, none, none], g⟩ = .ok (cs.map pD) ⟨[some (false, M1), some (false, M2), some (false, dS us), none, none, none, none, none, none], g⟩ := by
      generalize cs.map pD = cd at ecs ⊢
      generalize dS us = du
      simp [h5, h3, ecs]
    rw [seq_nx t2, seq_nx t3]
    exact seq_rt ((ex_for it).trans e)
end
end BF
set_option Elab.async false
set_option linter.all false
set_option maxRecDepth 100000
set_option maxHeartbeats 0
namespace L05
open PySem PySem.Spec PyProof.Rows L2 BF
def top (i : Nat) : Stmt := PySem.Challenge.pw_butfewrows_k05_whole_rings.main.body.getD i (.Pass ⟨0, 0, 0, 0⟩)
def cls (i j : Nat) : Stmt := match top i with
  | .ClassDef _ _ _ b _ _ _ _ _ _ _ => b.getD j (.Pass ⟨0, 0, 0, 0⟩)
  | _ => .Pass ⟨0, 0, 0, 0⟩
def M0 : Pm := ⟨[], [], ([] : List PySem.Str), ([("Machine", "parts")] : List (PySem.Str × PySem.Str)), (["all", "any", "bool", "enumerate", "int", "isinstance", "len", "list", "max", "min", "range", "sum", "tuple", "zip"] : List PySem.Str)⟩
def Γ0 (K : Env1) (a0 : Addr) : Gam Dr := []
def M1 : Pm := { M0 with gn := M0.gn ++ ([("MOST_STANDS", .cst)] : List (PySem.Str × Gk)) }
def Γ1 (K : Env1) (a0 : Addr) : Gam Dr := Γ0 K a0 ++ ([("MOST_STANDS", .cst (.int 8))] : Gam Dr)
def M2 : Pm := { M1 with gn := M1.gn ++ ([("MOST_LETTERS", .cst)] : List (PySem.Str × Gk)) }
def Γ2 (K : Env1) (a0 : Addr) : Gam Dr := Γ1 K a0 ++ ([("MOST_LETTERS", .cst (.int 3))] : Gam Dr)
theorem sc8 : FnScope N_is_integer (["thing", "low", "high"] : List PySem.Str) (defScope (top 8)) := ⟨rfl, rfl, rfl, by decide +kernel, rfl, by decide +kernel, by decide +kernel⟩
def M3 : Pm := { M2 with gn := M2.gn ++ ([("is_integer", .fn 3)] : List (PySem.Str × Gk)) }
theorem ch8 : chB { M2 with N := N_is_integer } (defScope (top 8)) c_is_integer (defBody (top 8)) = true := by decide +kernel
def m_is_integer (K : Env1) (a0 : Addr) : Mir Dr := runF N_is_integer.length (ex K (Γ2 K a0) c_is_integer)
def Γ3 (K : Env1) (a0 : Addr) : Gam Dr := Γ2 K a0 ++ ([("is_integer", .fn 3 (m_is_integer K a0))] : Gam Dr)
theorem sc9 : FnScope N_check_steps (["thing"] : List PySem.Str) (defScope (top 9)) := ⟨rfl, rfl, rfl, by decide +kernel, rfl, by decide +kernel, by decide +kernel⟩
def M4 : Pm := { M3 with gn := M3.gn ++ ([("check_steps", .fn 1)] : List (PySem.Str × Gk)) }
theorem ch9 : chB { M3 with N := N_check_steps } (defScope (top 9)) (c_check_steps 0 1 2) (defBody (top 9)) = true := by decide +kernel
def m_check_steps (K : Env1) (a0 : Addr) : Mir Dr := runF N_check_steps.length (ex K (Γ3 K a0) (c_check_steps 0 1 2))
def Γ4 (K : Env1) (a0 : Addr) : Gam Dr := Γ3 K a0 ++ ([("check_steps", .fn 1 (m_check_steps K a0))] : Gam Dr)
theorem sc10 : FnScope N_check_good (["thing", "stands"] : List PySem.Str) (defScope (top 10)) := ⟨rfl, rfl, rfl, by decide +kernel, rfl, by decide +kernel, by decide +kernel⟩
def M5 : Pm := { M4 with gn := M4.gn ++ ([("check_good", .fn 2)] : List (PySem.Str × Gk)) }
theorem ch10 : chB { M4 with N := N_check_good } (defScope (top 10)) (c_check_good 2) (defBody (top 10)) = true := by decide +kernel
def m_check_good (K : Env1) (a0 : Addr) : Mir Dr := runF N_check_good.length (ex K (Γ4 K a0) (c_check_good 2))
def Γ5 (K : Env1) (a0 : Addr) : Gam Dr := Γ4 K a0 ++ ([("check_good", .fn 2 (m_check_good K a0))] : Gam Dr)
theorem sc11 : FnScope N_Machine_init (["self", "steps", "good"] : List PySem.Str) (defScope (cls 11 0)) := ⟨rfl, rfl, rfl, by decide +kernel, rfl, by decide +kernel, by decide +kernel⟩
theorem ch11 : chIni { M5 with N := N_Machine_init } (defScope (cls 11 0)) "self" "parts" (cp_Machine_init 3 4) ce_Machine_init (defBody (cls 11 0)) = true := by decide +kernel
def m_Machine (K : Env1) (a0 : Addr) : Mir Dr := runI K (Γ5 K a0) N_Machine_init.length (cp_Machine_init 3 4) ce_Machine_init
def M6 : Pm := { M5 with gn := M5.gn ++ ([("Machine", .fn 2)] : List (PySem.Str × Gk)) }
def Γ6 (K : Env1) (a0 : Addr) : Gam Dr := Γ5 K a0 ++ ([("Machine", .mk "Machine" "parts" 2 (m_Machine K a0))] : Gam Dr)
theorem sc12 : FnScope N_check_pair (["one", "other"] : List PySem.Str) (defScope (top 12)) := ⟨rfl, rfl, rfl, by decide +kernel, rfl, by decide +kernel, by decide +kernel⟩
def M7 : Pm := { M6 with gn := M6.gn ++ ([("check_pair", .fn 2)] : List (PySem.Str × Gk)) }
theorem ch12 : chB { M6 with N := N_check_pair } (defScope (top 12)) c_check_pair (defBody (top 12)) = true := by decide +kernel
def m_check_pair (K : Env1) (a0 : Addr) : Mir Dr := runF N_check_pair.length (ex K (Γ6 K a0) c_check_pair)
def Γ7 (K : Env1) (a0 : Addr) : Gam Dr := Γ6 K a0 ++ ([("check_pair", .fn 2 (m_check_pair K a0))] : Gam Dr)
theorem sc14 : FnScope N_is_unlike (["one", "other", "pair"] : List PySem.Str) (defScope (top 14)) := ⟨rfl, rfl, rfl, by decide +kernel, rfl, by decide +kernel, by decide +kernel⟩
def M8 : Pm := { M7 with gn := M7.gn ++ ([("is_unlike", .fn 3)] : List (PySem.Str × Gk)) }
theorem ch14 : chB { M7 with N := N_is_unlike } (defScope (top 14)) c_is_unlike (defBody (top 14)) = true := by decide +kernel
def m_is_unlike (K : Env1) (a0 : Addr) : Mir Dr := runF N_is_unlike.length (ex K (Γ7 K a0) c_is_unlike)
def Γ8 (K : Env1) (a0 : Addr) : Gam Dr := Γ7 K a0 ++ ([("is_unlike", .fn 3 (m_is_unlike K a0))] : Gam Dr)
theorem sc15 : FnScope N_goals_of (["one", "other", "pair"] : List PySem.Str) (defScope (top 15)) := ⟨rfl, rfl, rfl, by decide +kernel, rfl, by decide +kernel, by decide +kernel⟩
def M9 : Pm := { M8 with gn := M8.gn ++ ([("goals_of", .fn 3)] : List (PySem.Str × Gk)) }
theorem ch15 : chB { M8 with N := N_goals_of } (defScope (top 15)) c_goals_of (defBody (top 15)) = true := by decide +kernel
def m_goals_of (K : Env1) (a0 : Addr) : Mir Dr := runF N_goals_of.length (ex K (Γ8 K a0) c_goals_of)
def Γ9 (K : Env1) (a0 : Addr) : Gam Dr := Γ8 K a0 ++ ([("goals_of", .fn 3 (m_goals_of K a0))] : Gam Dr)
theorem sc16 : FnScope N_come_to (["one", "other", "begin"] : List PySem.Str) (defScope (top 16)) := ⟨rfl, rfl, rfl, by decide +kernel, rfl, by decide +kernel, by decide +kernel⟩
def M10 : Pm := { M9 with gn := M9.gn ++ ([("come_to", .fn 3)] : List (PySem.Str × Gk)) }
theorem ch16 : chB { M9 with N := N_come_to } (defScope (top 16)) (c_come_to 8) (defBody (top 16)) = true := by decide +kernel
def m_come_to (K : Env1) (a0 : Addr) : Mir Dr := runF N_come_to.length (ex K (Γ9 K a0) (c_come_to 8))
def Γ10 (K : Env1) (a0 : Addr) : Gam Dr := Γ9 K a0 ++ ([("come_to", .fn 3 (m_come_to K a0))] : Gam Dr)
theorem sc17 : FnScope N_useful (["one", "other", "begin"] : List PySem.Str) (defScope (top 17)) := ⟨rfl, rfl, rfl, by decide +kernel, rfl, by decide +kernel, by decide +kernel⟩
def M11 : Pm := { M10 with gn := M10.gn ++ ([("useful", .fn 3)] : List (PySem.Str × Gk)) }
theorem ch17 : chB { M10 with N := N_useful } (defScope (top 17)) (c_useful 9 7 8) (defBody (top 17)) = true := by decide +kernel
def m_useful (K : Env1) (a0 : Addr) : Mir Dr := runF N_useful.length (ex K (Γ10 K a0) (c_useful 9 7 8))
def Γ11 (K : Env1) (a0 : Addr) : Gam Dr := Γ10 K a0 ++ ([("useful", .fn 3 (m_useful K a0))] : Gam Dr)
theorem sc18 : FnScope N_counted (["one", "other", "begin"] : List PySem.Str) (defScope (top 18)) := ⟨rfl, rfl, rfl, by decide +kernel, rfl, by decide +kernel, by decide +kernel⟩
def M12 : Pm := { M11 with gn := M11.gn ++ ([("counted", .fn 3)] : List (PySem.Str × Gk)) }
theorem ch18 : chB { M11 with N := N_counted } (defScope (top 18)) (c_counted 10 8 7) (defBody (top 18)) = true := by decide +kernel
def m_counted (K : Env1) (a0 : Addr) : Mir Dr := runF N_counted.length (ex K (Γ11 K a0) (c_counted 10 8 7))
def Γ12 (K : Env1) (a0 : Addr) : Gam Dr := Γ11 K a0 ++ ([("counted", .fn 3 (m_counted K a0))] : Gam Dr)
def M13 : Pm := { M12 with gn := M12.gn ++ ([("BEGIN", .cst)] : List (PySem.Str × Gk)) }
def Γ13 (K : Env1) (a0 : Addr) : Gam Dr := Γ12 K a0 ++ ([("BEGIN", .cst (.tup [(.int 0), (.int 0)]))] : Gam Dr)
theorem sc21 : FnScope N_ways_from (["one", "other", "begin"] : List PySem.Str) (defScope (top 21)) := ⟨rfl, rfl, rfl, by decide +kernel, rfl, by decide +kernel, by decide +kernel⟩
def M14 : Pm := { M13 with gn := M13.gn ++ ([("ways_from", .fn 3)] : List (PySem.Str × Gk)) }
theorem ch21 : chB { M13 with N := N_ways_from } (defScope (top 21)) (c_ways_from 8) (defBody (top 21)) = true := by decide +kernel
def m_ways_from (K : Env1) (a0 : Addr) : Mir Dr := runF N_ways_from.length (ex K (Γ13 K a0) (c_ways_from 8))
def Γ14 (K : Env1) (a0 : Addr) : Gam Dr := Γ13 K a0 ++ ([("ways_from", .fn 3 (m_ways_from K a0))] : Gam Dr)
theorem sc22 : FnScope N_ring (["one", "other"] : List PySem.Str) (defScope (top 22)) := ⟨rfl, rfl, rfl, by decide +kernel, rfl, by decide +kernel, by decide +kernel⟩
def M15 : Pm := { M14 with gn := M14.gn ++ ([("ring", .fn 2)] : List (PySem.Str × Gk)) }
theorem ch22 : chB { M14 with N := N_ring } (defScope (top 22)) (c_ring 6 11 12 10 9 13 7) (defBody (top 22)) = true := by decide +kernel
def m_ring (K : Env1) (a0 : Addr) : Mir Dr := runF N_ring.length (ex K (Γ14 K a0) (c_ring 6 11 12 10 9 13 7))
def Γ15 (K : Env1) (a0 : Addr) : Gam Dr := Γ14 K a0 ++ ([("ring", .fn 2 (m_ring K a0))] : Gam Dr)
theorem sc24 : FnScope ["_law_script", "_law_seed", "_law_state", "_law_cell"] ["_law_script", "_law_seed"] (defScope (top 24)) := ⟨rfl, rfl, rfl, by decide +kernel, rfl, by decide +kernel, by decide +kernel⟩
def M16 : Pm := { M15 with gn := M15.gn ++ ([("_law_next", .fn 2)] : List (PySem.Str × Gk)) }
def Γ16 (K : Env1) (a0 : Addr) : Gam Dr := Γ15 K a0 ++ ([("_law_next", .fn 2 (mNext a0))] : Gam Dr)
theorem sc25 : FnScope ["_law_h", "_law_cap", "_law_cell"] ["_law_h", "_law_cap"] (defScope (top 25)) := ⟨rfl, rfl, rfl, by decide +kernel, rfl, by decide +kernel, by decide +kernel⟩
theorem sc26 : FnScope N__law_pick (["_law_h", "_law_things"] : List PySem.Str) (defScope (top 26)) := ⟨rfl, rfl, rfl, by decide +kernel, rfl, by decide +kernel, by decide +kernel⟩
def M17 : Pm := { M16 with gn := M16.gn ++ ([("_law_pick", .fn 2)] : List (PySem.Str × Gk)) }
theorem ch26 : chB { M16 with N := N__law_pick } (defScope (top 26)) (c__law_pick 15) (defBody (top 26)) = true := by decide +kernel
def m__law_pick (K : Env1) (a0 : Addr) : Mir Dr := runF N__law_pick.length (ex K (Γ16 K a0) (c__law_pick 15))
def Γ17 (K : Env1) (a0 : Addr) : Gam Dr := Γ16 K a0 ++ ([("_law_pick", .fn 2 (m__law_pick K a0))] : Gam Dr)
theorem sc27 : FnScope N__law_parts (["_law_h", "_law_letters"] : List PySem.Str) (defScope (top 27)) := ⟨rfl, rfl, rfl, by decide +kernel, rfl, by decide +kernel, by decide +kernel⟩
def M18 : Pm := { M17 with gn := M17.gn ++ ([("_law_parts", .fn 2)] : List (PySem.Str × Gk)) }
theorem ch27 : chB { M17 with N := N__law_parts } (defScope (top 27)) (c__law_parts 15 16) (defBody (top 27)) = true := by decide +kernel
def m__law_parts (K : Env1) (a0 : Addr) : Mir Dr := runF N__law_parts.length (ex K (Γ17 K a0) (c__law_parts 15 16))
def Γ18 (K : Env1) (a0 : Addr) : Gam Dr := Γ17 K a0 ++ ([("_law_parts", .fn 2 (m__law_parts K a0))] : Gam Dr)
theorem sc28 : FnScope N__law_near (["_law_h", "_law_parts_here"] : List PySem.Str) (defScope (top 28)) := ⟨rfl, rfl, rfl, by decide +kernel, rfl, by decide +kernel, by decide +kernel⟩
def M19 : Pm := { M18 with gn := M18.gn ++ ([("_law_near", .fn 2)] : List (PySem.Str × Gk)) }
theorem ch28 : chB { M18 with N := N__law_near } (defScope (top 28)) (c__law_near 16 15) (defBody (top 28)) = true := by decide +kernel
def m__law_near (K : Env1) (a0 : Addr) : Mir Dr := runF N__law_near.length (ex K (Γ18 K a0) (c__law_near 16 15))
def Γ19 (K : Env1) (a0 : Addr) : Gam Dr := Γ18 K a0 ++ ([("_law_near", .fn 2 (m__law_near K a0))] : Gam Dr)
theorem sc29 : FnScope N__law_two (["_law_h"] : List PySem.Str) (defScope (top 29)) := ⟨rfl, rfl, rfl, by decide +kernel, rfl, by decide +kernel, by decide +kernel⟩
def M20 : Pm := { M19 with gn := M19.gn ++ ([("_law_two", .fn 1)] : List (PySem.Str × Gk)) }
theorem ch29 : chB { M19 with N := N__law_two } (defScope (top 29)) (c__law_two 15 17 18) (defBody (top 29)) = true := by decide +kernel
def m__law_two (K : Env1) (a0 : Addr) : Mir Dr := runF N__law_two.length (ex K (Γ19 K a0) (c__law_two 15 17 18))
def Γ20 (K : Env1) (a0 : Addr) : Gam Dr := Γ19 K a0 ++ ([("_law_two", .fn 1 (m__law_two K a0))] : Gam Dr)
theorem sc30 : FnScope N__law_end (["_law_parts_here", "_law_stand", "_law_row"] : List PySem.Str) (defScope (top 30)) := ⟨rfl, rfl, rfl, by decide +kernel, rfl, by decide +kernel, by decide +kernel⟩
def M21 : Pm := { M20 with gn := M20.gn ++ ([("_law_end", .fn 3)] : List (PySem.Str × Gk)) }
theorem ch30 : chB { M20 with N := N__law_end } (defScope (top 30)) c__law_end (defBody (top 30)) = true := by decide +kernel
def m__law_end (K : Env1) (a0 : Addr) : Mir Dr := runF N__law_end.length (ex K (Γ20 K a0) c__law_end)
def Γ21 (K : Env1) (a0 : Addr) : Gam Dr := Γ20 K a0 ++ ([("_law_end", .fn 3 (m__law_end K a0))] : Gam Dr)
theorem sc31 : FnScope N__law_lengths (["_law_one", "_law_other", "_law_begin", "_law_most"] : List PySem.Str) (defScope (top 31)) := ⟨rfl, rfl, rfl, by decide +kernel, rfl, by decide +kernel, by decide +kernel⟩
def M22 : Pm := { M21 with gn := M21.gn ++ ([("_law_lengths", .fn 4)] : List (PySem.Str × Gk)) }
theorem ch31 : chB { M21 with N := N__law_lengths } (defScope (top 31)) c__law_lengths (defBody (top 31)) = true := by decide +kernel
def m__law_lengths (K : Env1) (a0 : Addr) : Mir Dr := runF N__law_lengths.length (ex K (Γ21 K a0) c__law_lengths)
def Γ22 (K : Env1) (a0 : Addr) : Gam Dr := Γ21 K a0 ++ ([("_law_lengths", .fn 4 (m__law_lengths K a0))] : Gam Dr)
theorem sc32 : FnScope N__law_pairs (["_law_one", "_law_other", "_law_begin"] : List PySem.Str) (defScope (top 32)) := ⟨rfl, rfl, rfl, by decide +kernel, rfl, by decide +kernel, by decide +kernel⟩
def M23 : Pm := { M22 with gn := M22.gn ++ ([("_law_pairs", .fn 3)] : List (PySem.Str × Gk)) }
theorem ch32 : chB { M22 with N := N__law_pairs } (defScope (top 32)) c__law_pairs (defBody (top 32)) = true := by decide +kernel
def m__law_pairs (K : Env1) (a0 : Addr) : Mir Dr := runF N__law_pairs.length (ex K (Γ22 K a0) c__law_pairs)
def Γ23 (K : Env1) (a0 : Addr) : Gam Dr := Γ22 K a0 ++ ([("_law_pairs", .fn 3 (m__law_pairs K a0))] : Gam Dr)
theorem sc33 : FnScope N__law_unlike (["_law_one", "_law_other", "_law_begin"] : List PySem.Str) (defScope (top 33)) := ⟨rfl, rfl, rfl, by decide +kernel, rfl, by decide +kernel, by decide +kernel⟩
def M24 : Pm := { M23 with gn := M23.gn ++ ([("_law_unlike", .fn 3)] : List (PySem.Str × Gk)) }
theorem ch33 : chB { M23 with N := N__law_unlike } (defScope (top 33)) (c__law_unlike 22 21) (defBody (top 33)) = true := by decide +kernel
def m__law_unlike (K : Env1) (a0 : Addr) : Mir Dr := runF N__law_unlike.length (ex K (Γ23 K a0) (c__law_unlike 22 21))
def Γ24 (K : Env1) (a0 : Addr) : Gam Dr := Γ23 K a0 ++ ([("_law_unlike", .fn 3 (m__law_unlike K a0))] : Gam Dr)
def N1 : List PySem.Str := (["_law_turn", "_law_mine", "_law_yours", "_law_found", "_law_head", "_law_loop", "_law_tail", "_law_one", "_law_other", "_law_known", "_law_again", "_law_ends"] : List PySem.Str)
def c_law_b1 (u__law_end : Nat) : Cs :=
  (.cons (.app 11 (.tup (.cons (.var 9) (.cons (.var 10) .nil))))
  (.cons (.asg 13 (.lst (.cons (.cmp .isin (.call u__law_end (.cons (.var 3) (.cons (.var 9) (.cons (.var 8) .nil)))) (.ix (.var 3) (.cst (.int 1)))) (.cons (.cmp .isin (.call u__law_end (.cons (.var 4) (.cons (.var 10) (.cons (.var 8) .nil)))) (.ix (.var 4) (.cst (.int 1)))) .nil))))
  (.cons (.ife (.cmp .eq (.ix (.var 13) (.cst (.int 0))) (.ix (.var 13) (.cst (.int 1)))) (.cons (.ret (.cst (.bl false)))
  .nil) .nil)
  (.cons (.par [9, 10] (.cons (.call u__law_end (.cons (.var 3) (.cons (.var 9) (.cons (.var 7) .nil)))) (.cons (.call u__law_end (.cons (.var 4) (.cons (.var 10) (.cons (.var 7) .nil)))) .nil)))
  .nil))))
def c_law_b2 (u__law_two u_ring u_Machine u__law_unlike u__law_end : Nat) : Cs :=
  (.cons (.unp (.tp [3, 4]) (.call u__law_two (.cons (.var 1) .nil)))
  (.cons (.asg 5 (.call u_ring (.cons (.call u_Machine (.cons (.ix (.var 3) (.cst (.int 0))) (.cons (.ix (.var 3) (.cst (.int 1))) .nil))) (.cons (.call u_Machine (.cons (.ix (.var 4) (.cst (.int 0))) (.cons (.ix (.var 4) (.cst (.int 1))) .nil))) .nil))))
  (.cons (.ife (.cmp .ne (.cmp .is (.var 5) (.cst .non)) (.cmp .isn (.call u__law_unlike (.cons (.var 3) (.cons (.var 4) (.cons (.tup (.cons (.cst (.int 0)) (.cons (.cst (.int 0)) .nil))) .nil)))) (.cst .non))) (.cons (.ret (.cst (.bl false)))
  .nil) .nil)
  (.cons (.ife (.cmp .isn (.var 5) (.cst .non)) (.cons (.ife (.bop false (.cons (.not (.isi (.bty "tuple") (.var 5))) (.cons (.cmp .ne (.blt .len (.cons (.var 5) .nil)) (.cst (.int 3))) (.cons (.cmp .eq (.ix (.var 5) (.cst (.int 1))) (.tup .nil)) .nil)))) (.cons (.ret (.cst (.bl false)))
  .nil) .nil)
  (.cons (.unp (.tp [6, 7, 8]) (.var 5))
  (.cons (.par [9, 10, 11] (.cons (.call u__law_end (.cons (.var 3) (.cons (.cst (.int 0)) (.cons (.var 6) .nil)))) (.cons (.call u__law_end (.cons (.var 4) (.cons (.cst (.int 0)) (.cons (.var 6) .nil)))) (.cons (.lst .nil) .nil))))
  (.cons (.for_ (.nm 12) (.rg1 (.cst (.int 70))) (c_law_b1 u__law_end))
  (.cons (.ife (.cmp .nin (.tup (.cons (.var 9) (.cons (.var 10) .nil))) (.var 11)) (.cons (.ret (.cst (.bl false)))
  .nil) .nil)
  .nil))))) .nil)
  .nil))))
def c_law0 (u__law_two u_ring u_Machine u__law_unlike u__law_end : Nat) : Cs :=
  (.cons (.for_ (.nm 2) (.rg1 (.cst (.int 4))) (c_law_b2 u__law_two u_ring u_Machine u__law_unlike u__law_end))
  (.cons (.ret (.cst (.bl true)))
  .nil))
abbrev c_law : Cs := c_law0 19 14 5 23 20
theorem sc34 : FnScope ("_law_script" :: "_law_h" :: N1) ["_law_script"] (defScope (top 34)) := ⟨rfl, rfl, rfl, by decide +kernel, rfl, by decide +kernel, by decide +kernel⟩
theorem ch34 : chB { M24 with N := "_law_script" :: "_law_h" :: N1 } (defScope (top 34)) c_law (defBody (top 34)).tail = true := by decide +kernel
end L05
set_option Elab.async false
set_option linter.all false
set_option maxRecDepth 100000
set_option maxHeartbeats 0
namespace L05
open PySem PySem.Spec PyProof.Rows L2 BF
theorem u3_0 (K : Env1) (a0 : Addr) : (Γ3 K a0)[0]? = some (("MOST_STANDS" : PySem.Str), ((.cst (.int 8)) : Gd Dr)) := by kernel_rfl
theorem u3_1 (K : Env1) (a0 : Addr) : (Γ3 K a0)[1]? = some (("MOST_LETTERS" : PySem.Str), ((.cst (.int 3)) : Gd Dr)) := by kernel_rfl
theorem u3_2 (K : Env1) (a0 : Addr) : (Γ3 K a0)[2]? = some (("is_integer" : PySem.Str), ((.fn 3 (m_is_integer K a0)) : Gd Dr)) := by kernel_rfl
theorem u4_2 (K : Env1) (a0 : Addr) : (Γ4 K a0)[2]? = some (("is_integer" : PySem.Str), ((.fn 3 (m_is_integer K a0)) : Gd Dr)) := by kernel_rfl
theorem u5_3 (K : Env1) (a0 : Addr) : (Γ5 K a0)[3]? = some (("check_steps" : PySem.Str), ((.fn 1 (m_check_steps K a0)) : Gd Dr)) := by kernel_rfl
theorem u5_4 (K : Env1) (a0 : Addr) : (Γ5 K a0)[4]? = some (("check_good" : PySem.Str), ((.fn 2 (m_check_good K a0)) : Gd Dr)) := by kernel_rfl
theorem u9_8 (K : Env1) (a0 : Addr) : (Γ9 K a0)[8]? = some (("goals_of" : PySem.Str), ((.fn 3 (m_goals_of K a0)) : Gd Dr)) := by kernel_rfl
theorem u10_9 (K : Env1) (a0 : Addr) : (Γ10 K a0)[9]? = some (("come_to" : PySem.Str), ((.fn 3 (m_come_to K a0)) : Gd Dr)) := by kernel_rfl
theorem u10_7 (K : Env1) (a0 : Addr) : (Γ10 K a0)[7]? = some (("is_unlike" : PySem.Str), ((.fn 3 (m_is_unlike K a0)) : Gd Dr)) := by kernel_rfl
theorem u10_8 (K : Env1) (a0 : Addr) : (Γ10 K a0)[8]? = some (("goals_of" : PySem.Str), ((.fn 3 (m_goals_of K a0)) : Gd Dr)) := by kernel_rfl
theorem u11_10 (K : Env1) (a0 : Addr) : (Γ11 K a0)[10]? = some (("useful" : PySem.Str), ((.fn 3 (m_useful K a0)) : Gd Dr)) := by kernel_rfl
theorem u11_8 (K : Env1) (a0 : Addr) : (Γ11 K a0)[8]? = some (("goals_of" : PySem.Str), ((.fn 3 (m_goals_of K a0)) : Gd Dr)) := by kernel_rfl
theorem u11_7 (K : Env1) (a0 : Addr) : (Γ11 K a0)[7]? = some (("is_unlike" : PySem.Str), ((.fn 3 (m_is_unlike K a0)) : Gd Dr)) := by kernel_rfl
theorem u13_8 (K : Env1) (a0 : Addr) : (Γ13 K a0)[8]? = some (("goals_of" : PySem.Str), ((.fn 3 (m_goals_of K a0)) : Gd Dr)) := by kernel_rfl
theorem u14_6 (K : Env1) (a0 : Addr) : (Γ14 K a0)[6]? = some (("check_pair" : PySem.Str), ((.fn 2 (m_check_pair K a0)) : Gd Dr)) := by kernel_rfl
theorem u14_11 (K : Env1) (a0 : Addr) : (Γ14 K a0)[11]? = some (("counted" : PySem.Str), ((.fn 3 (m_counted K a0)) : Gd Dr)) := by kernel_rfl
theorem u14_12 (K : Env1) (a0 : Addr) : (Γ14 K a0)[12]? = some (("BEGIN" : PySem.Str), ((.cst (.tup [(.int 0), (.int 0)])) : Gd Dr)) := by kernel_rfl
theorem u14_10 (K : Env1) (a0 : Addr) : (Γ14 K a0)[10]? = some (("useful" : PySem.Str), ((.fn 3 (m_useful K a0)) : Gd Dr)) := by kernel_rfl
theorem u14_9 (K : Env1) (a0 : Addr) : (Γ14 K a0)[9]? = some (("come_to" : PySem.Str), ((.fn 3 (m_come_to K a0)) : Gd Dr)) := by kernel_rfl
theorem u14_13 (K : Env1) (a0 : Addr) : (Γ14 K a0)[13]? = some (("ways_from" : PySem.Str), ((.fn 3 (m_ways_from K a0)) : Gd Dr)) := by kernel_rfl
theorem u14_7 (K : Env1) (a0 : Addr) : (Γ14 K a0)[7]? = some (("is_unlike" : PySem.Str), ((.fn 3 (m_is_unlike K a0)) : Gd Dr)) := by kernel_rfl
theorem u16_15 (K : Env1) (a0 : Addr) : (Γ16 K a0)[15]? = some (("_law_next" : PySem.Str), ((.fn 2 (mNext a0)) : Gd Dr)) := by kernel_rfl
theorem u17_15 (K : Env1) (a0 : Addr) : (Γ17 K a0)[15]? = some (("_law_next" : PySem.Str), ((.fn 2 (mNext a0)) : Gd Dr)) := by kernel_rfl
theorem u17_16 (K : Env1) (a0 : Addr) : (Γ17 K a0)[16]? = some (("_law_pick" : PySem.Str), ((.fn 2 (m__law_pick K a0)) : Gd Dr)) := by kernel_rfl
theorem u18_16 (K : Env1) (a0 : Addr) : (Γ18 K a0)[16]? = some (("_law_pick" : PySem.Str), ((.fn 2 (m__law_pick K a0)) : Gd Dr)) := by kernel_rfl
theorem u18_15 (K : Env1) (a0 : Addr) : (Γ18 K a0)[15]? = some (("_law_next" : PySem.Str), ((.fn 2 (mNext a0)) : Gd Dr)) := by kernel_rfl
theorem u19_15 (K : Env1) (a0 : Addr) : (Γ19 K a0)[15]? = some (("_law_next" : PySem.Str), ((.fn 2 (mNext a0)) : Gd Dr)) := by kernel_rfl
theorem u19_17 (K : Env1) (a0 : Addr) : (Γ19 K a0)[17]? = some (("_law_parts" : PySem.Str), ((.fn 2 (m__law_parts K a0)) : Gd Dr)) := by kernel_rfl
theorem u19_18 (K : Env1) (a0 : Addr) : (Γ19 K a0)[18]? = some (("_law_near" : PySem.Str), ((.fn 2 (m__law_near K a0)) : Gd Dr)) := by kernel_rfl
theorem u23_22 (K : Env1) (a0 : Addr) : (Γ23 K a0)[22]? = some (("_law_pairs" : PySem.Str), ((.fn 3 (m__law_pairs K a0)) : Gd Dr)) := by kernel_rfl
theorem u23_21 (K : Env1) (a0 : Addr) : (Γ23 K a0)[21]? = some (("_law_lengths" : PySem.Str), ((.fn 4 (m__law_lengths K a0)) : Gd Dr)) := by kernel_rfl
theorem u24_19 (K : Env1) (a0 : Addr) : (Γ24 K a0)[19]? = some (("_law_two" : PySem.Str), ((.fn 1 (m__law_two K a0)) : Gd Dr)) := by kernel_rfl
theorem u24_14 (K : Env1) (a0 : Addr) : (Γ24 K a0)[14]? = some (("ring" : PySem.Str), ((.fn 2 (m_ring K a0)) : Gd Dr)) := by kernel_rfl
theorem u24_5 (K : Env1) (a0 : Addr) : (Γ24 K a0)[5]? = some (("Machine" : PySem.Str), ((.mk "Machine" "parts" 2 (m_Machine K a0)) : Gd Dr)) := by kernel_rfl
theorem u24_23 (K : Env1) (a0 : Addr) : (Γ24 K a0)[23]? = some (("_law_unlike" : PySem.Str), ((.fn 3 (m__law_unlike K a0)) : Gd Dr)) := by kernel_rfl
theorem u24_20 (K : Env1) (a0 : Addr) : (Γ24 K a0)[20]? = some (("_law_end" : PySem.Str), ((.fn 3 (m__law_end K a0)) : Gd Dr)) := by kernel_rfl
theorem q_pick (K : Env1) (a0 : Addr) : Pk (m__law_pick K a0) a0 := s_pick (u16_15 K a0) (nx_next a0)
theorem q_parts (K : Env1) (a0 : Addr) {L : Nat} (l1 : 1 ≤ L) (l3 : L ≤ 3) (g : Dr) : ∃ s good g', m__law_parts K a0 [.ref a0, .int L] g = .ok (partsD s good) g' ∧ StOk s L ∧ GdOk s.length good := s_parts (u17_15 K a0) (nx_next a0) (u17_16 K a0) (q_pick K a0) l1 l3 g
theorem q_int (K : Env1) (a0 : Addr) : IsInt (m_is_integer K a0) := s_is_integer
theorem q_machine (K : Env1) (a0 : Addr) {s : List (List Nat)} {L : Nat} {good : List Nat} (S : StOk s L) (hg : GdOk s.length good) (g : Dr) : m_Machine K a0 [stepsD s, rowD good] g = .ok (partsD s good) g :=
  s_Machine (u5_3 K a0) (u5_4 K a0) (s_check_steps (u3_0 K a0) (u3_1 K a0) (u3_2 K a0) (q_int K a0) S g) (s_check_good (u4_2 K a0) (q_int K a0) hg g)
theorem q_counted (K : Env1) (a0 : Addr) {s1 s2 : List (List Nat)} {L : Nat} {g1 g2 : List Nat} (S1 : StOk s1 L) (S2 : StOk s2 L) : SCnt (m_counted K a0) (machD s1 g1) (machD s2 g2) (gl s1 s2) (un g1 g2) (inP s1 s2) := by
  have gp := gp_gl S1 S2
  have hg : SGo (m_goals_of K a0) (machD s1 g1) (machD s2 g2) (gl s1 s2) (inP s1 s2) := s_goals_of S1 S2
  have hu : SUn (m_is_unlike K a0) (machD s1 g1) (machD s2 g2) (un g1 g2) := s_is_unlike
  have hc : SCm (m_come_to K a0) (machD s1 g1) (machD s2 g2) (gl s1 s2) (inP s1 s2) := s_come_to (u9_8 K a0) hg gp
  have hs : SUs (m_useful K a0) (machD s1 g1) (machD s2 g2) (gl s1 s2) (un g1 g2) (inP s1 s2) := s_useful (u10_9 K a0) (u10_7 K a0) (u10_8 K a0) hc hu hg gp
  exact s_counted (u11_10 K a0) (u11_8 K a0) (u11_7 K a0) hs hg hu (un_le g1 g2) gp
theorem q_unlike (K : Env1) (a0 : Addr) {s1 s2 : List (List Nat)} {L : Nat} {g1 g2 : List Nat} (S1 : StOk s1 L) (S2 : StOk s2 L) : SCnt (m__law_unlike K a0) (partsD s1 g1) (partsD s2 g2) (gl s1 s2) (un g1 g2) (inP s1 s2) := by
  have gp := gp_gl S1 S2
  have hp : SLp (m__law_pairs K a0) (partsD s1 g1) (partsD s2 g2) (gl s1 s2) (inP s1 s2) := s_law_pairs (ez_parts S1 S2) gp
  have hl : SLl (m__law_lengths K a0) (partsD s1 g1) (partsD s2 g2) (gl s1 s2) (un g1 g2) (inP s1 s2) := s_law_lengths (ez_parts S1 S2) eu_parts (un_le g1 g2) gp
  exact s_law_unlike (u23_22 K a0) (u23_21 K a0) hp hl eu_parts gp
theorem q_check_pair (K : Env1) (a0 : Addr) {s1 s2 : List (List Nat)} {L : Nat} {g1 g2 : List Nat} (S1 : StOk s1 L) (S2 : StOk s2 L) (g : Dr) : m_check_pair K a0 [machD s1 g1, machD s2 g2] g = .ok .non g := s_check_pair S1 S2 g
theorem q_lengths (K : Env1) (a0 : Addr) {s1 s2 : List (List Nat)} {L : Nat} {g1 g2 : List Nat} (S1 : StOk s1 L) (S2 : StOk s2 L) : SLl (m__law_lengths K a0) (partsD s1 g1) (partsD s2 g2) (gl s1 s2) (un g1 g2) (inP s1 s2) := s_law_lengths (ez_parts S1 S2) eu_parts (un_le g1 g2) (gp_gl S1 S2)
theorem q_near (K : Env1) (a0 : Addr) {s : List (List Nat)} {good : List Nat} {L : Nat} (S : StOk s L) (hg : GdOk s.length good) (g : Dr) : ∃ s' good' g', m__law_near K a0 [.ref a0, partsD s good] g = .ok (partsD s' good') g' ∧ StOk s' L ∧ GdOk s'.length good' := s_near (u18_16 K a0) (q_pick K a0) (u18_15 K a0) (nx_next a0) S hg g
theorem q_two (K : Env1) (a0 : Addr) (g : Dr) : ∃ L s1 good1 s2 good2 g', m__law_two K a0 [.ref a0] g = .ok (.tup [partsD s1 good1, partsD s2 good2]) g' ∧ StOk s1 L ∧ GdOk s1.length good1 ∧ StOk s2 L ∧ GdOk s2.length good2 := s_two (u19_15 K a0) (nx_next a0) (u19_17 K a0) (u19_18 K a0) (fun L g l1 l3 => q_parts K a0 l1 l3 g) (fun s good L g S hg => q_near K a0 S hg g) g
end L05
set_option Elab.async false
set_option linter.all false
set_option maxRecDepth 100000
set_option maxHeartbeats 1000000
namespace L05
open PySem PySem.Spec PyProof.Rows L2 BF
theorem stp_gl {s1 s2 : List (List Nat)} {L : Nat} (S1 : StOk s1 L) (S2 : StOk s2 L) {a b c : Nat} (ha : a < s1.length) (hb : b < s2.length) (hc : c < L) : stp (gl s1 s2) (a, b) c = ((s1.getD a []).getD c 0, (s2.getD b []).getD c 0) := by
  have l1 := (S1.row ha).1
  have l2 := (S2.row hb).1
  unfold stp gl
  show ((s1.getD a []).zip (s2.getD b [])).getD c (a, b) = _
  generalize s1.getD a [] = r1 at l1 ⊢
  generalize s2.getD b [] = r2 at l2 ⊢
  have h1 : c < r1.length := by omega
  have h2 : c < r2.length := by omega
  have h : c < (r1.zip r2).length := by rw [List.length_zip]; omega
  rw [List.getD_eq_getElem?_getD, List.getElem?_eq_getElem h, List.getElem_zip, List.getD_eq_getElem?_getD, List.getElem?_eq_getElem h1, List.getD_eq_getElem?_getD, List.getElem?_eq_getElem h2]
  rfl
theorem eG_run {s1 s2 : List (List Nat)} {L : Nat} (S1 : StOk s1 L) (S2 : StOk s2 L) : ∀ (r : List Nat) (a b : Nat), a < s1.length → b < s2.length → (∀ c ∈ r, c < L) → eG (gl s1 s2) (a, b) r = (runS s1 a r, runS s2 b r)
  | [], a, b, _, _, _ => rfl
  | c :: r, a, b, ha, hb, hc => by
    have c0 := hc c List.mem_cons_self
    have e := stp_gl S1 S2 ha hb c0
    show eG (gl s1 s2) (stp (gl s1 s2) (a, b) c) r = _
    rw [e, eG_run S1 S2 r _ _ (S1.step ha c0).1 (S2.step hb c0).1 fun y hy => hc y (List.mem_cons_of_mem _ hy)]
    rfl
theorem gl_L {s1 s2 : List (List Nat)} {L : Nat} (S1 : StOk s1 L) (S2 : StOk s2 L) : ∀ p, inP s1 s2 p → (gl s1 s2 p).length = L := fun p hp => gl_len S1 S2 hp
theorem q_end (K : Env1) (a0 : Addr) {s : List (List Nat)} {L : Nat} {good row : List Nat} {h0 : Nat} (S : StOk s L) (hh : h0 < s.length) (hr : ∀ c ∈ row, c < L) (g : Dr) : m__law_end K a0 [partsD s good, .int h0, rowD row] g = .ok (nat (runS s h0 row)) g := s_end S hh hr g
theorem q_ring (K : Env1) (a0 : Addr) {s1 s2 : List (List Nat)} {L : Nat} {g1 g2 : List Nat} (S1 : StOk s1 L) (S2 : StOk s2 L) (g : Dr) :
    ∃ r, Gr.Ans (gl s1 s2) (un g1 g2) (0, 0) r ∧ ((r ≠ none ∧ m_ring K a0 [machD s1 g1, machD s2 g2] g = .ok .non g) ∨ (r = none ∧ ∃ h l t, RgOk (gl s1 s2) (un g1 g2) (inP s1 s2) L (0, 0) h l t ∧ m_ring K a0 [machD s1 g1, machD s2 g2] g = .ok (.tup [rowD h, rowD l, rowD t]) g)) := by
  have gp := gp_gl S1 S2
  have hg : SGo (m_goals_of K a0) (machD s1 g1) (machD s2 g2) (gl s1 s2) (inP s1 s2) := s_goals_of S1 S2
  have hu : SUn (m_is_unlike K a0) (machD s1 g1) (machD s2 g2) (un g1 g2) := s_is_unlike
  have hc : SCm (m_come_to K a0) (machD s1 g1) (machD s2 g2) (gl s1 s2) (inP s1 s2) := s_come_to (u9_8 K a0) hg gp
  have hs : SUs (m_useful K a0) (machD s1 g1) (machD s2 g2) (gl s1 s2) (un g1 g2) (inP s1 s2) := s_useful (u10_9 K a0) (u10_7 K a0) (u10_8 K a0) hc hu hg gp
  have hw : SWy (m_ways_from K a0) (machD s1 g1) (machD s2 g2) (gl s1 s2) (inP s1 s2) L := s_ways_from (u13_8 K a0) hg gp (gl_L S1 S2)
  exact s_ring (u14_6 K a0) (u14_11 K a0) (u14_12 K a0) (u14_10 K a0) (u14_9 K a0) (u14_13 K a0) (u14_7 K a0) (q_check_pair K a0 S1 S2 g) (q_counted K a0 S1 S2) hs hc hw hu gp (gl_L S1 S2) ⟨S1.n1, S2.n1⟩
section
variable {K : Env1} {a0 : Addr}
theorem b1 {s1 s2 : List (List Nat)} {L : Nat} {g1 g2 : List Nat} (S1 : StOk s1 L) (S2 : StOk s2 L) {x y : Nat} (hx : x < s1.length) (hy : y < s2.length) {l t : List Nat} (hl : ∀ c ∈ l, c < L) (ht : ∀ c ∈ t, c < L) (e1 : runS s1 x l = x) (e2 : runS s2 y l = y) (hn : decide (runS s1 x t ∈ g1) ≠ decide (runS s2 y t ∈ g2)) {k : Nat} (hk : k ≤ 100) {x0 x1 x2 x5 x6 x12 x13 : Option (Bool × D)} (g : Dr) :
    ∃ y13, ex K (Γ24 K a0) (c_law_b1 20) ⟨[x0, x1, x2, some (false, partsD s1 g1), some (false, partsD s2 g2), x5, x6, some (false, rowD l), some (false, rowD t), some (false, nat x), some (false, nat y), some (true, .lst (List.replicate k (pD (x, y)))), x12, x13], g⟩ = .nx ⟨[x0, x1, x2, some (false, partsD s1 g1), some (false, partsD s2 g2), x5, x6, some (false, rowD l), some (false, rowD t), some (false, nat x), some (false, nat y), some (true, .lst (List.replicate (k + 1) (pD (x, y)))), x12, y13], g⟩ := by
  have h20 := u24_20 K a0
  have k1 := q_end K a0 (good := g1) S1 hx ht g
  have k2 := q_end K a0 (good := g2) S2 hy ht g
  have k3 := q_end K a0 (good := g1) S1 hx hl g
  have k4 := q_end K a0 (good := g2) S2 hy hl g
  rw [e1] at k3
  rw [e2] at k4
  have p1 := plain_nats 59 g1
  have p2 := plain_nats 59 g2
  have n1 := any_nat g1 (runS s1 x t)
  have n2 := any_nat g2 (runS s2 y t)
  have sz : (List.replicate k (pD (x, y))).length < sizeLine := sz64 (by simp; omega)
  have er : List.replicate (k + 1) (pD (x, y)) = List.replicate k (pD (x, y)) ++ [.tup [.int x, .int y]] := List.replicate_succ'
  rw [er]
  generalize List.replicate k (pD (x, y)) = kn at sz ⊢
  generalize decide (runS s1 x t ∈ g1) = bb1 at n1 hn
  generalize decide (runS s2 y t ∈ g2) = bb2 at n2 hn
  generalize runS s1 x t = q1 at k1 n1
  generalize runS s2 y t = q2 at k2 n2
  refine ⟨some (true, .lst [.bl bb1, .bl bb2]), ?_⟩
  generalize rowD l = rl at k3 k4 ⊢
  generalize rowD t = rt at k1 k2 ⊢
  have P1 : partsD s1 g1 = .tup [stepsD s1, .tup (g1.map nat)] := rfl
  have P2 : partsD s2 g2 = .tup [stepsD s2, .tup (g2.map nat)] := rfl
  rw [P1] at k1 k3 ⊢
  rw [P2] at k2 k4 ⊢
  generalize stepsD s1 = d1 at k1 k3 ⊢
  generalize stepsD s2 = d2 at k2 k4 ⊢
  generalize g1.map nat = gn1 at k1 k3 p1 n1 ⊢
  generalize g2.map nat = gn2 at k2 k4 p2 n2 ⊢
  have nb : (bb1 == bb2) = false := by cases bb1 <;> cases bb2 <;> first | rfl | exact (hn rfl).elim
  unfold c_law_b1
  simp only [nat_eq] at k1 k2 k3 k4
  simp [sz, h20, k1, k2, k3, k4, inO2, inO, inB, p1, p2, n1, n2, eqO, eqB, nb]
theorem eq_tnil {l : List Nat} (h : l ≠ []) : eqO (rowD l) (.tup []) = some (.vl (.bl false)) := by
  have p := plain_nats 59 l
  unfold eqO eqB
  cases l with
  | nil => exact (h rfl).elim
  | cons a l =>
    rw [rowD_eq]
    simp only [plain_tup, p, List.all_nil, Bool.and_true, if_true, Option.map_some]
    simp [eqD, toPy, toPys, PyData.eqv, PyData.eqvAll]
theorem nin_rep (p : Pr) : ninO2 (pD p) (.lst (List.replicate 70 (pD p))) = some (.vl (.bl false)) := by
  have pl : (List.replicate 70 (pD p)).all (plain 59) = true := by
    rw [List.all_eq_true]
    intro d hd
    rw [List.eq_of_mem_replicate hd]
    rfl
  have an : ((List.replicate 70 (pD p)).any fun z => eqD z (pD p)) = true := by
    rw [List.any_eq_true]
    refine ⟨pD p, List.mem_replicate.mpr ⟨by omega, rfl⟩, ?_⟩
    simp [pD, eqD, toPy, toPys, PyData.eqv, PyData.eqvAll]
  show ninO (pD p) (.lst (List.replicate 70 (pD p))) = _
  show (if (plain 60 (pD p) && plain 60 (.lst (List.replicate 70 (pD p)))) = true then some ((List.replicate 70 (pD p)).any fun z => eqD z (pD p)) else none).map (fun b => Ov.vl (.bl (!b))) = _
  rw [an]
  have e1 : plain 60 (.lst (List.replicate 70 (pD p))) = true := pl
  have e2 : plain 60 (pD p) = true := rfl
  rw [e1, e2]
  rfl
theorem b2 (a : Addr) (x2 x3 x4 x5 x6 x7 x8 x9 x10 x11 x12 x13 : Option (Bool × D)) (g : Dr) : ∃ y3 y4 y5 y6 y7 y8 y9 y10 y11 y12 y13 g', ex K (Γ24 K a0) (c_law_b2 19 14 5 23 20) ⟨[some (false, .ref a), some (false, .ref a0), x2, x3, x4, x5, x6, x7, x8, x9, x10, x11, x12, x13], g⟩ = .nx ⟨[some (false, .ref a), some (false, .ref a0), x2, y3, y4, y5, y6, y7, y8, y9, y10, y11, y12, y13], g'⟩ := by
  obtain ⟨L, s1, gd1, s2, gd2, g1, k1, S1, hg1, S2, hg2⟩ := q_two K a0 g
  have h19 := u24_19 K a0
  have h14 := u24_14 K a0
  have h5 := u24_5 K a0
  have h23 := u24_23 K a0
  have h20 := u24_20 K a0
  have t1 : ex K (Γ24 K a0) (.unp (.tp [3, 4]) (.call 19 (.cons (.var 1) .nil))) ⟨[some (false, .ref a), some (false, .ref a0), x2, x3, x4, x5, x6, x7, x8, x9, x10, x11, x12, x13], g⟩ = .nx ⟨[some (false, .ref a), some (false, .ref a0), x2, some (false, partsD s1 gd1), some (false, partsD s2 gd2), x5, x6, x7, x8, x9, x10, x11, x12, x13], g1⟩ := by
    generalize partsD s1 gd1 = P1 at k1 ⊢
    generalize partsD s2 gd2 = P2 at k1 ⊢
    simp [h19, k1]
  have k2 := q_machine K a0 S1 hg1 g1
  have k3 := q_machine K a0 S2 hg2 g1
  obtain ⟨r, an, hr⟩ := q_ring K a0 (g1 := gd1) (g2 := gd2) S1 S2 g1
  obtain ⟨r', ku, an'⟩ := q_unlike K a0 (g1 := gd1) (g2 := gd2) S1 S2 (0, 0) g1 ⟨S1.n1, S2.n1⟩
  have er := Gr.Ans.unique _ _ an' an
  subst er
  have ku : m__law_unlike K a0 [partsD s1 gd1, partsD s2 gd2, .tup [.int 0, .int 0]] g1 = .ok (ansD r') g1 := ku
  have t2 : ∀ fd, m_ring K a0 [machD s1 gd1, machD s2 gd2] g1 = .ok fd g1 → ex K (Γ24 K a0) (.asg 5 (.call 14 (.cons (.call 5 (.cons (.ix (.var 3) (.cst (.int 0))) (.cons (.ix (.var 3) (.cst (.int 1))) .nil))) (.cons (.call 5 (.cons (.ix (.var 4) (.cst (.int 0))) (.cons (.ix (.var 4) (.cst (.int 1))) .nil))) .nil)))) ⟨[some (false, .ref a), some (false, .ref a0), x2, some (false, partsD s1 gd1), some (false, partsD s2 gd2), x5, x6, x7, x8, x9, x10, x11, x12, x13], g1⟩ = .nx ⟨[some (false, .ref a), some (false, .ref a0), x2, some (false, partsD s1 gd1), some (false, partsD s2 gd2), some (false, fd), x6, x7, x8, x9, x10, x11, x12, x13], g1⟩ := fun fd kr => by
    simp at k2 k3 kr
    simp [h14, h5, k2, k3, kr]
  rcases hr with ⟨hne, kr⟩ | ⟨rfl, h, l, t, R, kr⟩
  · cases r' with
    | none => exact (hne rfl).elim
    | some c =>
      have t2 := t2 _ kr
      have ku : m__law_unlike K a0 [partsD s1 gd1, partsD s2 gd2, .tup [.int 0, .int 0]] g1 = .ok (.tup [.int c.1, .int c.2]) g1 := ku
      generalize partsD s1 gd1 = P1 at t1 t2 ku
      generalize partsD s2 gd2 = P2 at t1 t2 ku
      have t3 : ex K (Γ24 K a0) (.ife (.cmp .ne (.cmp .is (.var 5) (.cst .non)) (.cmp .isn (.call 23 (.cons (.var 3) (.cons (.var 4) (.cons (.tup (.cons (.cst (.int 0)) (.cons (.cst (.int 0)) .nil))) .nil)))) (.cst .non))) (.cons (.ret (.cst (.bl false))) .nil) .nil) ⟨[some (false, .ref a), some (false, .ref a0), x2, some (false, P1), some (false, P2), some (false, .non), x6, x7, x8, x9, x10, x11, x12, x13], g1⟩ = .nx ⟨[some (false, .ref a), some (false, .ref a0), x2, some (false, P1), some (false, P2), some (false, .non), x6, x7, x8, x9, x10, x11, x12, x13], g1⟩ := by
        simp [h23, ku, neO, eqB]
      have cf : ev K (Γ24 K a0) (.cmp .isn (.var 5) (.cst .non)) ⟨[some (false, .ref a), some (false, .ref a0), x2, some (false, P1), some (false, P2), some (false, .non), x6, x7, x8, x9, x10, x11, x12, x13], g1⟩ = .ok (.vl (.bl false)) ⟨[some (false, .ref a), some (false, .ref a0), x2, some (false, P1), some (false, P2), some (false, .non), x6, x7, x8, x9, x10, x11, x12, x13], g1⟩ := rfl
      unfold c_law_b2
      rw [seq_nx t1, seq_nx t2, seq_nx t3]
      exact ⟨_, _, _, _, _, _, _, _, _, _, _, _, seq_nx ((ife_false cf).trans rfl)⟩
  · have t2 := t2 _ kr
    have ku : m__law_unlike K a0 [partsD s1 gd1, partsD s2 gd2, .tup [.int 0, .int 0]] g1 = .ok .non g1 := ku
    have eh := eG_run S1 S2 h 0 0 S1.n1 S2.n1 R.hh
    have pp := R.pp
    have rd := R.rd
    have un := R.un
    rw [eh] at pp rd un
    have hx : runS s1 0 h < s1.length := pp.1
    have hy : runS s2 0 h < s2.length := pp.2
    rw [eG_run S1 S2 l _ _ hx hy R.hl] at rd
    rw [eG_run S1 S2 t _ _ hx hy R.ht] at un
    have rd1 : runS s1 (runS s1 0 h) l = runS s1 0 h := (Prod.mk.injEq .. ▸ rd).1
    have rd2 : runS s2 (runS s2 0 h) l = runS s2 0 h := (Prod.mk.injEq .. ▸ rd).2
    have hn : decide (runS s1 (runS s1 0 h) t ∈ gd1) ≠ decide (runS s2 (runS s2 0 h) t ∈ gd2) := fun z => by
      unfold BF.un at un
      simp only [z, bne_self_eq_false, Bool.false_eq_true, if_false] at un
      omega
    have ke1 := q_end K a0 (good := gd1) (h0 := 0) S1 S1.n1 R.hh g1
    have ke2 := q_end K a0 (good := gd2) (h0 := 0) S2 S2.n1 R.hh g1
    generalize runS s1 0 h = x at hx rd1 hn ke1
    generalize runS s2 0 h = y at hy rd2 hn ke2
    have en := eq_tnil R.ne
    have nr := nin_rep (x, y)
    obtain ⟨st, e, y12, y13, es⟩ := forR (t := .nm 12) (body := ex K (Γ24 K a0) (c_law_b1 20)) (lo := 0) (n := 70) (fun k st => ∃ y12 y13, st = ⟨[some (false, .ref a), some (false, .ref a0), x2, some (false, partsD s1 gd1), some (false, partsD s2 gd2), some (false, .tup [rowD h, rowD l, rowD t]), some (false, rowD h), some (false, rowD l), some (false, rowD t), some (false, nat x), some (false, nat y), some (true, .lst (List.replicate k (pD (x, y)))), y12, y13], g1⟩) (fun k st _ hk ⟨y12, y13, es⟩ => by
      subst es
      obtain ⟨z13, e⟩ := b1 (K := K) (a0 := a0) (g1 := gd1) (g2 := gd2) S1 S2 hx hy R.hl R.ht rd1 rd2 hn (k := k) (by omega) (x0 := some (false, .ref a)) (x1 := some (false, .ref a0)) (x2 := x2) (x5 := some (false, .tup [rowD h, rowD l, rowD t])) (x6 := some (false, rowD h)) (x12 := some (false, nat k)) (x13 := y13) g1
      exact ⟨_, _, rfl, e, some (false, nat k), z13, rfl⟩) ⟨[some (false, .ref a), some (false, .ref a0), x2, some (false, partsD s1 gd1), some (false, partsD s2 gd2), some (false, .tup [rowD h, rowD l, rowD t]), some (false, rowD h), some (false, rowD l), some (false, rowD t), some (false, nat x), some (false, nat y), some (true, .lst []), x12, x13], g1⟩ ⟨x12, x13, rfl⟩
    subst es
    rw [Nat.zero_add] at e
    have s4 : ex K (Γ24 K a0) (.for_ (.nm 12) (.rg1 (.cst (.int 70))) (c_law_b1 20)) _ = _ := (ex_for (t := .nm 12) (b := c_law_b1 20) (it := .rg1 (.cst (.int 70))) (s := ⟨[some (false, .ref a), some (false, .ref a0), x2, some (false, partsD s1 gd1), some (false, partsD s2 gd2), some (false, .tup [rowD h, rowD l, rowD t]), some (false, rowD h), some (false, rowD l), some (false, rowD t), some (false, nat x), some (false, nat y), some (true, .lst []), x12, x13], g1⟩) rfl).trans e
    generalize List.replicate 70 (pD (x, y)) = kn at nr s4
    have nr : ninO2 (.tup [.int x, .int y]) (.lst kn) = some (.vl (.bl false)) := nr
    generalize partsD s1 gd1 = P1 at t1 t2 ku ke1 s4
    generalize partsD s2 gd2 = P2 at t1 t2 ku ke2 s4
    generalize rowD h = rh at t2 ke1 ke2 s4
    generalize rowD l = rl at t2 en s4
    generalize rowD t = rt at t2 s4
    have ht : isiO K (.bty "tuple") [.tup [rh, rl, rt], .ty "tuple"] = some (.vl (.bl true)) := rfl
    have t3 : ex K (Γ24 K a0) (.ife (.cmp .ne (.cmp .is (.var 5) (.cst .non)) (.cmp .isn (.call 23 (.cons (.var 3) (.cons (.var 4) (.cons (.tup (.cons (.cst (.int 0)) (.cons (.cst (.int 0)) .nil))) .nil)))) (.cst .non))) (.cons (.ret (.cst (.bl false))) .nil) .nil) ⟨[some (false, .ref a), some (false, .ref a0), x2, some (false, P1), some (false, P2), some (false, .tup [rh, rl, rt]), x6, x7, x8, x9, x10, x11, x12, x13], g1⟩ = .nx ⟨[some (false, .ref a), some (false, .ref a0), x2, some (false, P1), some (false, P2), some (false, .tup [rh, rl, rt]), x6, x7, x8, x9, x10, x11, x12, x13], g1⟩ := by
      simp [h23, ku, neO, eqB]
    have ct : ev K (Γ24 K a0) (.cmp .isn (.var 5) (.cst .non)) ⟨[some (false, .ref a), some (false, .ref a0), x2, some (false, P1), some (false, P2), some (false, .tup [rh, rl, rt]), x6, x7, x8, x9, x10, x11, x12, x13], g1⟩ = .ok (.vl (.bl true)) ⟨[some (false, .ref a), some (false, .ref a0), x2, some (false, P1), some (false, P2), some (false, .tup [rh, rl, rt]), x6, x7, x8, x9, x10, x11, x12, x13], g1⟩ := rfl
    have v1 : ex K (Γ24 K a0) (.ife (.bop false (.cons (.not (.isi (.bty "tuple") (.var 5))) (.cons (.cmp .ne (.blt .len (.cons (.var 5) .nil)) (.cst (.int 3))) (.cons (.cmp .eq (.ix (.var 5) (.cst (.int 1))) (.tup .nil)) .nil)))) (.cons (.ret (.cst (.bl false))) .nil) .nil) ⟨[some (false, .ref a), some (false, .ref a0), x2, some (false, P1), some (false, P2), some (false, .tup [rh, rl, rt]), x6, x7, x8, x9, x10, x11, x12, x13], g1⟩ = .nx ⟨[some (false, .ref a), some (false, .ref a0), x2, some (false, P1), some (false, P2), some (false, .tup [rh, rl, rt]), x6, x7, x8, x9, x10, x11, x12, x13], g1⟩ := by
      simp [ht, en, neO, eqB]
    have v2 : ex K (Γ24 K a0) (.unp (.tp [6, 7, 8]) (.var 5)) ⟨[some (false, .ref a), some (false, .ref a0), x2, some (false, P1), some (false, P2), some (false, .tup [rh, rl, rt]), x6, x7, x8, x9, x10, x11, x12, x13], g1⟩ = .nx ⟨[some (false, .ref a), some (false, .ref a0), x2, some (false, P1), some (false, P2), some (false, .tup [rh, rl, rt]), some (false, rh), some (false, rl), some (false, rt), x9, x10, x11, x12, x13], g1⟩ := rfl
    have v3 : ex K (Γ24 K a0) (.par [9, 10, 11] (.cons (.call 20 (.cons (.var 3) (.cons (.cst (.int 0)) (.cons (.var 6) .nil)))) (.cons (.call 20 (.cons (.var 4) (.cons (.cst (.int 0)) (.cons (.var 6) .nil)))) (.cons (.lst .nil) .nil)))) ⟨[some (false, .ref a), some (false, .ref a0), x2, some (false, P1), some (false, P2), some (false, .tup [rh, rl, rt]), some (false, rh), some (false, rl), some (false, rt), x9, x10, x11, x12, x13], g1⟩ = .nx ⟨[some (false, .ref a), some (false, .ref a0), x2, some (false, P1), some (false, P2), some (false, .tup [rh, rl, rt]), some (false, rh), some (false, rl), some (false, rt), some (false, nat x), some (false, nat y), some (true, .lst []), x12, x13], g1⟩ := by
      simp at ke1 ke2
      simp [h20, ke1, ke2]
    have v5 : ex K (Γ24 K a0) (.ife (.cmp .nin (.tup (.cons (.var 9) (.cons (.var 10) .nil))) (.var 11)) (.cons (.ret (.cst (.bl false))) .nil) .nil) ⟨[some (false, .ref a), some (false, .ref a0), x2, some (false, P1), some (false, P2), some (false, .tup [rh, rl, rt]), some (false, rh), some (false, rl), some (false, rt), some (false, nat x), some (false, nat y), some (true, .lst kn), y12, y13], g1⟩ = .nx ⟨[some (false, .ref a), some (false, .ref a0), x2, some (false, P1), some (false, P2), some (false, .tup [rh, rl, rt]), some (false, rh), some (false, rl), some (false, rt), some (false, nat x), some (false, nat y), some (true, .lst kn), y12, y13], g1⟩ := by
      have nr' : ninO (.tup [.int x, .int y]) (.lst kn) = some (.vl (.bl false)) := nr
      simp [nr']
    unfold c_law_b2
    rw [seq_nx t1, seq_nx t2, seq_nx t3]
    refine ⟨some (false, P1), some (false, P2), some (false, .tup [rh, rl, rt]), some (false, rh), some (false, rl), some (false, rt), some (false, nat x), some (false, nat y), some (true, .lst kn), y12, y13, g1, ?_⟩
    refine (seq_nx (st1 := ⟨[some (false, .ref a), some (false, .ref a0), x2, some (false, P1), some (false, P2), some (false, .tup [rh, rl, rt]), some (false, rh), some (false, rl), some (false, rt), some (false, nat x), some (false, nat y), some (true, .lst kn), y12, y13], g1⟩) ((ife_true ct).trans ?_)).trans rfl
    rw [seq_nx v1, seq_nx v2, seq_nx v3, seq_nx s4, seq_nx v5]
    rfl
end
theorem hrun (K : Env1) (a a0 : Addr) (g : Dr) : ∃ g', ex K (Γ24 K a0) c_law ⟨some (false, .ref a) :: some (false, .ref a0) :: List.replicate N1.length none, g⟩ = .rt (.bl true) g' := by
  obtain ⟨s', e, x2, x3, x4, x5, x6, x7, x8, x9, x10, x11, x12, x13, g', es⟩ := forR (t := .nm 2) (body := ex K (Γ24 K a0) (c_law_b2 19 14 5 23 20)) (lo := 0) (n := 4) (fun k st => ∃ x2 x3 x4 x5 x6 x7 x8 x9 x10 x11 x12 x13 g, st = ⟨[some (false, .ref a), some (false, .ref a0), x2, x3, x4, x5, x6, x7, x8, x9, x10, x11, x12, x13], g⟩) (fun k st _ hk ⟨x2, x3, x4, x5, x6, x7, x8, x9, x10, x11, x12, x13, g, es⟩ => by
    subst es
    obtain ⟨y3, y4, y5, y6, y7, y8, y9, y10, y11, y12, y13, g', e⟩ := b2 (K := K) (a0 := a0) a (some (false, nat k)) x3 x4 x5 x6 x7 x8 x9 x10 x11 x12 x13 g
    exact ⟨_, _, rfl, e, _, _, _, _, _, _, _, _, _, _, _, _, _, rfl⟩) ⟨[some (false, .ref a), some (false, .ref a0), none, none, none, none, none, none, none, none, none, none, none, none], g⟩ ⟨_, _, _, _, _, _, _, _, _, _, _, _, _, rfl⟩
  subst es
  refine ⟨g', ?_⟩
  have s1 : ex K (Γ24 K a0) (.for_ (.nm 2) (.rg1 (.cst (.int 4))) (c_law_b2 19 14 5 23 20)) _ = _ := (ex_for (t := .nm 2) (b := c_law_b2 19 14 5 23 20) (it := .rg1 (.cst (.int 4))) (s := ⟨[some (false, .ref a), some (false, .ref a0), none, none, none, none, none, none, none, none, none, none, none, none], g⟩) rfl).trans e
  show ex K (Γ24 K a0) (c_law0 19 14 5 23 20) ⟨[some (false, .ref a), some (false, .ref a0), none, none, none, none, none, none, none, none, none, none, none, none], g⟩ = _
  unfold c_law0
  rw [seq_nx s1]
  exact seq_rt rfl
end L05
set_option Elab.async false
set_option linter.all false
set_option maxRecDepth 100000
set_option maxHeartbeats 0
namespace L05
open PySem PySem.Spec PyProof.Rows L2 BF
def d_is_integer : He.DefD := ⟨("is_integer", none), "is_integer", "is_integer", defArgs (top 8), defBody (top 8), defScope (top 8), [], []⟩
def d_check_steps : He.DefD := ⟨("check_steps", none), "check_steps", "check_steps", defArgs (top 9), defBody (top 9), defScope (top 9), [], []⟩
def d_check_good : He.DefD := ⟨("check_good", none), "check_good", "check_good", defArgs (top 10), defBody (top 10), defScope (top 10), [], []⟩
def d_Machine : He.DefD := ⟨("Machine", some "__init__"), "__init__", "Machine.__init__", defArgs (cls 11 0), defBody (cls 11 0), defScope (cls 11 0), [], []⟩
def d_check_pair : He.DefD := ⟨("check_pair", none), "check_pair", "check_pair", defArgs (top 12), defBody (top 12), defScope (top 12), [], []⟩
def d_is_unlike : He.DefD := ⟨("is_unlike", none), "is_unlike", "is_unlike", defArgs (top 14), defBody (top 14), defScope (top 14), [], []⟩
def d_goals_of : He.DefD := ⟨("goals_of", none), "goals_of", "goals_of", defArgs (top 15), defBody (top 15), defScope (top 15), [], []⟩
def d_come_to : He.DefD := ⟨("come_to", none), "come_to", "come_to", defArgs (top 16), defBody (top 16), defScope (top 16), [], []⟩
def d_useful : He.DefD := ⟨("useful", none), "useful", "useful", defArgs (top 17), defBody (top 17), defScope (top 17), [], []⟩
def d_counted : He.DefD := ⟨("counted", none), "counted", "counted", defArgs (top 18), defBody (top 18), defScope (top 18), [], []⟩
def d_ways_from : He.DefD := ⟨("ways_from", none), "ways_from", "ways_from", defArgs (top 21), defBody (top 21), defScope (top 21), [], []⟩
def d_ring : He.DefD := ⟨("ring", none), "ring", "ring", defArgs (top 22), defBody (top 22), defScope (top 22), [], []⟩
def d__law_mix : He.DefD := ⟨("_law_mix", none), "_law_mix", "_law_mix", defArgs (top 24), defBody (top 24), defScope (top 24), [], []⟩
def d__law_next : He.DefD := ⟨("_law_next", none), "_law_next", "_law_next", defArgs (top 25), defBody (top 25), defScope (top 25), [], []⟩
def d__law_pick : He.DefD := ⟨("_law_pick", none), "_law_pick", "_law_pick", defArgs (top 26), defBody (top 26), defScope (top 26), [], []⟩
def d__law_parts : He.DefD := ⟨("_law_parts", none), "_law_parts", "_law_parts", defArgs (top 27), defBody (top 27), defScope (top 27), [], []⟩
def d__law_near : He.DefD := ⟨("_law_near", none), "_law_near", "_law_near", defArgs (top 28), defBody (top 28), defScope (top 28), [], []⟩
def d__law_two : He.DefD := ⟨("_law_two", none), "_law_two", "_law_two", defArgs (top 29), defBody (top 29), defScope (top 29), [], []⟩
def d__law_end : He.DefD := ⟨("_law_end", none), "_law_end", "_law_end", defArgs (top 30), defBody (top 30), defScope (top 30), [], []⟩
def d__law_lengths : He.DefD := ⟨("_law_lengths", none), "_law_lengths", "_law_lengths", defArgs (top 31), defBody (top 31), defScope (top 31), [], []⟩
def d__law_pairs : He.DefD := ⟨("_law_pairs", none), "_law_pairs", "_law_pairs", defArgs (top 32), defBody (top 32), defScope (top 32), [], []⟩
def d__law_unlike : He.DefD := ⟨("_law_unlike", none), "_law_unlike", "_law_unlike", defArgs (top 33), defBody (top 33), defScope (top 33), [], []⟩
def d_law : He.DefD := ⟨("law", none), "law", "law", defArgs (top 34), defBody (top 34), defScope (top 34), [], []⟩
def fn : List He.DefD := [d_is_integer, d_check_steps, d_check_good, d_Machine, d_check_pair, d_is_unlike, d_goals_of, d_come_to, d_useful, d_counted, d_ways_from, d_ring, d__law_mix, d__law_next, d__law_pick, d__law_parts, d__law_near, d__law_two, d__law_end, d__law_lengths, d__law_pairs, d__law_unlike, d_law]
def fa : List He.Fa := [.int "MOST_STANDS" 8, .int "MOST_LETTERS" 3, .glo "is_integer", .glo "check_steps", .glo "check_good", .glo "Machine", .cls "Machine", .mkr "Machine", .glo "check_pair", .glo "is_unlike", .glo "goals_of", .glo "come_to", .glo "useful", .glo "counted", .glo "BEGIN", .glo "ways_from", .glo "ring", .glo "_law_mix", .glo "_law_next", .glo "_law_pick", .glo "_law_parts", .glo "_law_near", .glo "_law_two", .glo "_law_end", .glo "_law_lengths", .glo "_law_pairs", .glo "_law_unlike", .glo "law", .free "all", .free "any", .free "bool", .free "enumerate", .free "int", .free "isinstance", .free "len", .free "list", .free "max", .free "min", .free "range", .free "sum", .free "tuple", .free "zip", .noat "Machine" "parts"]
def loose : List PySem.Str := (["MachineError", "BadSteps", "BadGood", "NotComparable", "MOST_STANDS", "MOST_LETTERS", "is_integer", "check_steps", "check_good", "Machine", "check_pair", "is_unlike", "goals_of", "come_to", "useful", "counted", "BEGIN", "ways_from", "ring", "_law_mix"] : List PySem.Str) ++ (["_law_next", "_law_pick", "_law_parts", "_law_near", "_law_two", "_law_end", "_law_lengths", "_law_pairs", "_law_unlike"] : List PySem.Str)
abbrev R : PySem.W.OpenRow := PySem.W.OpenLaw.row PySem.Challenge.rw_butfewrows_k05_whole_rings
def exB (K : PySem.W.Frag) : Bool := He.tupB K "BEGIN" [.int 0, .int 0] && (true)
abbrev hk : PySem.W.Hook := hookB 5 fa fn exB
def ob (s : PySem.W.SharedT) : AlB := obsB 5 fa fn exB (HandSHeadRun.getT s)
theorem ob_eq (s : PySem.W.SharedT) : ob s = hk.obs s.abs := obsB_eq (HandSHeadRun.getT_eq s)
theorem run (w : World) : HandSHeadRun.RunEq R (PySem.W.view R.prog [34]) hk ob 4000 loose w := by
  intro os
  kernel_rfl
end L05
set_option Elab.async false
set_option linter.all false
set_option maxRecDepth 100000
set_option maxHeartbeats 0
namespace L05
open PySem PySem.Spec PyProof.Rows L2 BF
theorem facts {P : Program} {w : World} {Kf : PySem.W.Frag} {h : Heap} {mg : PySem.Str → Option Value} {f : Addr} (X : Kf.In h) (G : h.Ns mainGlobals mg) (hfa : mg ("law" : PySem.Str) = some (.ref f)) (c : He.SaysD fa fn Kf) (cx : exB Kf = true) :
    ∃ fd : FuncData, (∀ (s : Shared) (v : Value), BindsTo s fd ⟨[v], []⟩ [("_law_script", v)]) ∧ ∀ base : Heap, Kf.In base → base.Ns mainGlobals mg → FnOk P w Kf mg base (L2.CX P w) 22 f fd ["_law_script"] (spLaw Kf) := by
  obtain ⟨fd_is_integer, F_is_integer⟩ := c.def_ 0 (d := d_is_integer) rfl
  obtain ⟨fd_check_steps, F_check_steps⟩ := c.def_ 1 (d := d_check_steps) rfl
  obtain ⟨fd_check_good, F_check_good⟩ := c.def_ 2 (d := d_check_good) rfl
  obtain ⟨fd_Machine, F_Machine⟩ := c.def_ 3 (d := d_Machine) rfl
  obtain ⟨fd_check_pair, F_check_pair⟩ := c.def_ 4 (d := d_check_pair) rfl
  obtain ⟨fd_is_unlike, F_is_unlike⟩ := c.def_ 5 (d := d_is_unlike) rfl
  obtain ⟨fd_goals_of, F_goals_of⟩ := c.def_ 6 (d := d_goals_of) rfl
  obtain ⟨fd_come_to, F_come_to⟩ := c.def_ 7 (d := d_come_to) rfl
  obtain ⟨fd_useful, F_useful⟩ := c.def_ 8 (d := d_useful) rfl
  obtain ⟨fd_counted, F_counted⟩ := c.def_ 9 (d := d_counted) rfl
  obtain ⟨fd_ways_from, F_ways_from⟩ := c.def_ 10 (d := d_ways_from) rfl
  obtain ⟨fd_ring, F_ring⟩ := c.def_ 11 (d := d_ring) rfl
  obtain ⟨fd__law_mix, F__law_mix⟩ := c.def_ 12 (d := d__law_mix) rfl
  obtain ⟨fd__law_next, F__law_next⟩ := c.def_ 13 (d := d__law_next) rfl
  obtain ⟨fd__law_pick, F__law_pick⟩ := c.def_ 14 (d := d__law_pick) rfl
  obtain ⟨fd__law_parts, F__law_parts⟩ := c.def_ 15 (d := d__law_parts) rfl
  obtain ⟨fd__law_near, F__law_near⟩ := c.def_ 16 (d := d__law_near) rfl
  obtain ⟨fd__law_two, F__law_two⟩ := c.def_ 17 (d := d__law_two) rfl
  obtain ⟨fd__law_end, F__law_end⟩ := c.def_ 18 (d := d__law_end) rfl
  obtain ⟨fd__law_lengths, F__law_lengths⟩ := c.def_ 19 (d := d__law_lengths) rfl
  obtain ⟨fd__law_pairs, F__law_pairs⟩ := c.def_ 20 (d := d__law_pairs) rfl
  obtain ⟨fd__law_unlike, F__law_unlike⟩ := c.def_ 21 (d := d__law_unlike) rfl
  obtain ⟨fd_law, F_law⟩ := c.def_ 22 (d := d_law) rfl
  have e := hfa.symm.trans (He.glo_ok X G (c.fact 27 (f := .glo "law") rfl))
  cases e
  have b := FunD.bindsA (ps := ["_law_script"]) F_law fun _ _ _ _ _ _ us hl => match us, hl with | [_], _ => rfl
  refine ⟨fd_law, fun s v => b s [v] rfl, fun base _ _ => ?_⟩
  let K : Env1 := ⟨Kf, He.ga Kf, ([] : List PySem.Str), w⟩
  have h : ∀ a0 a1 (hne : a0 ≠ a1), G0 P w mg base K (drT a0 a1 hne) 21 M24 (Γ24 K a0) := by
    intro a0 a1 hne
    have g0 : G0 P w mg base K (drT a0 a1 hne) 0 M0 (Γ0 K a0) := G0.nil rfl (List.forall_mem_cons.mpr ⟨(He.free_ok X G (c.fact 28 (f := .free "all") rfl)), (List.forall_mem_cons.mpr ⟨(He.free_ok X G (c.fact 29 (f := .free "any") rfl)), (List.forall_mem_cons.mpr ⟨(He.free_ok X G (c.fact 30 (f := .free "bool") rfl)), (List.forall_mem_cons.mpr ⟨(He.free_ok X G (c.fact 31 (f := .free "enumerate") rfl)), (List.forall_mem_cons.mpr ⟨(He.free_ok X G (c.fact 32 (f := .free "int") rfl)), (List.forall_mem_cons.mpr ⟨(He.free_ok X G (c.fact 33 (f := .free "isinstance") rfl)), (List.forall_mem_cons.mpr ⟨(He.free_ok X G (c.fact 34 (f := .free "len") rfl)), (List.forall_mem_cons.mpr ⟨(He.free_ok X G (c.fact 35 (f := .free "list") rfl)), (List.forall_mem_cons.mpr ⟨(He.free_ok X G (c.fact 36 (f := .free "max") rfl)), (List.forall_mem_cons.mpr ⟨(He.free_ok X G (c.fact 37 (f := .free "min") rfl)), (List.forall_mem_cons.mpr ⟨(He.free_ok X G (c.fact 38 (f := .free "range") rfl)), (List.forall_mem_cons.mpr ⟨(He.free_ok X G (c.fact 39 (f := .free "sum") rfl)), (List.forall_mem_cons.mpr ⟨(He.free_ok X G (c.fact 40 (f := .free "tuple") rfl)), (List.forall_mem_cons.mpr ⟨(He.free_ok X G (c.fact 41 (f := .free "zip") rfl)), (fun _ h => absurd h List.not_mem_nil)⟩)⟩)⟩)⟩)⟩)⟩)⟩)⟩)⟩)⟩)⟩)⟩)⟩)⟩) rfl (fun _ h => absurd h List.not_mem_nil) (fun _ h => absurd h List.not_mem_nil) (List.forall_mem_cons.mpr ⟨⟨He.cls_ok (c.fact 6 (f := .cls "Machine") rfl), He.noat_ok (c.fact 42 (f := .noat "Machine" "parts") rfl)⟩, (fun _ h => absurd h List.not_mem_nil)⟩)
    obtain ⟨t0, e0⟩ := He.int_ok X G (c.fact 0 (f := .int "MOST_STANDS" 8) rfl)
    have g1 : G0 P w mg base K (drT a0 a1 hne) 0 M1 (Γ1 K a0) := g0.snocC e0 (v := .int 8) ⟨_, rfl⟩ (fun _ => .int _)
    obtain ⟨t1, e1⟩ := He.int_ok X G (c.fact 1 (f := .int "MOST_LETTERS" 3) rfl)
    have g2 : G0 P w mg base K (drT a0 a1 hne) 0 M2 (Γ2 K a0) := g1.snocC e1 (v := .int 3) ⟨_, rfl⟩ (fun _ => .int _)
    have b2 : Binds Kf fd_is_integer (["thing", "low", "high"] : List PySem.Str) [] := F_is_integer.bindsN fun _ _ _ _ _ _ us hl => match us, hl with | [_, _, _], _ => rfl
    have g3 : G0 P w mg base K (drT a0 a1 hne) 1 M3 (Γ3 K a0) := g2.snoc (by omega) (by omega) (def_ok g2 F_is_integer sc8 ch8) (He.glo_ok X G (c.fact 2 (f := .glo "is_integer") rfl)) F_is_integer.kp b2
    have b3 : Binds Kf fd_check_steps (["thing"] : List PySem.Str) [] := F_check_steps.bindsN fun _ _ _ _ _ _ us hl => match us, hl with | [_], _ => rfl
    have g4 : G0 P w mg base K (drT a0 a1 hne) 2 M4 (Γ4 K a0) := g3.snoc (by omega) (by omega) (def_ok g3 F_check_steps sc9 ch9) (He.glo_ok X G (c.fact 3 (f := .glo "check_steps") rfl)) F_check_steps.kp b3
    have b4 : Binds Kf fd_check_good (["thing", "stands"] : List PySem.Str) [] := F_check_good.bindsN fun _ _ _ _ _ _ us hl => match us, hl with | [_, _], _ => rfl
    have g5 : G0 P w mg base K (drT a0 a1 hne) 3 M5 (Γ5 K a0) := g4.snoc (by omega) (by omega) (def_ok g4 F_check_good sc10 ch10) (He.glo_ok X G (c.fact 4 (f := .glo "check_good") rfl)) F_check_good.kp b4
    have b5 : Binds Kf fd_Machine (["self", "steps", "good"] : List PySem.Str) [] := F_Machine.bindsN fun _ _ _ _ _ _ us hl => match us, hl with | [_, _, _], _ => rfl
    have g6 : G0 P w mg base K (drT a0 a1 hne) 5 M6 (Γ6 K a0) := g5.snocM (by omega) (kf := 4) (by omega) (by omega) (ini_ok (self := "self") g5 F_Machine sc11 rfl rfl (by decide +kernel) (by decide +kernel) (He.cls_ok (c.fact 6 (f := .cls "Machine") rfl)) (He.noat_ok (c.fact 42 (f := .noat "Machine" "parts") rfl)) ch11) (He.glo_ok X G (c.fact 5 (f := .glo "Machine") rfl)) (He.mkr_ok (c.fact 7 (f := .mkr "Machine") rfl)) b5
    have b6 : Binds Kf fd_check_pair (["one", "other"] : List PySem.Str) [] := F_check_pair.bindsN fun _ _ _ _ _ _ us hl => match us, hl with | [_, _], _ => rfl
    have g7 : G0 P w mg base K (drT a0 a1 hne) 6 M7 (Γ7 K a0) := g6.snoc (by omega) (by omega) (def_ok g6 F_check_pair sc12 ch12) (He.glo_ok X G (c.fact 8 (f := .glo "check_pair") rfl)) F_check_pair.kp b6
    have b7 : Binds Kf fd_is_unlike (["one", "other", "pair"] : List PySem.Str) [] := F_is_unlike.bindsN fun _ _ _ _ _ _ us hl => match us, hl with | [_, _, _], _ => rfl
    have g8 : G0 P w mg base K (drT a0 a1 hne) 7 M8 (Γ8 K a0) := g7.snoc (by omega) (by omega) (def_ok g7 F_is_unlike sc14 ch14) (He.glo_ok X G (c.fact 9 (f := .glo "is_unlike") rfl)) F_is_unlike.kp b7
    have b8 : Binds Kf fd_goals_of (["one", "other", "pair"] : List PySem.Str) [] := F_goals_of.bindsN fun _ _ _ _ _ _ us hl => match us, hl with | [_, _, _], _ => rfl
    have g9 : G0 P w mg base K (drT a0 a1 hne) 8 M9 (Γ9 K a0) := g8.snoc (by omega) (by omega) (def_ok g8 F_goals_of sc15 ch15) (He.glo_ok X G (c.fact 10 (f := .glo "goals_of") rfl)) F_goals_of.kp b8
    have b9 : Binds Kf fd_come_to (["one", "other", "begin"] : List PySem.Str) [] := F_come_to.bindsN fun _ _ _ _ _ _ us hl => match us, hl with | [_, _, _], _ => rfl
    have g10 : G0 P w mg base K (drT a0 a1 hne) 9 M10 (Γ10 K a0) := g9.snoc (by omega) (by omega) (def_ok g9 F_come_to sc16 ch16) (He.glo_ok X G (c.fact 11 (f := .glo "come_to") rfl)) F_come_to.kp b9
    have b10 : Binds Kf fd_useful (["one", "other", "begin"] : List PySem.Str) [] := F_useful.bindsN fun _ _ _ _ _ _ us hl => match us, hl with | [_, _, _], _ => rfl
    have g11 : G0 P w mg base K (drT a0 a1 hne) 10 M11 (Γ11 K a0) := g10.snoc (by omega) (by omega) (def_ok g10 F_useful sc17 ch17) (He.glo_ok X G (c.fact 12 (f := .glo "useful") rfl)) F_useful.kp b10
    have b11 : Binds Kf fd_counted (["one", "other", "begin"] : List PySem.Str) [] := F_counted.bindsN fun _ _ _ _ _ _ us hl => match us, hl with | [_, _, _], _ => rfl
    have g12 : G0 P w mg base K (drT a0 a1 hne) 11 M12 (Γ12 K a0) := g11.snoc (by omega) (by omega) (def_ok g11 F_counted sc18 ch18) (He.glo_ok X G (c.fact 13 (f := .glo "counted") rfl)) F_counted.kp b11
    have g13 : G0 P w mg base K (drT a0 a1 hne) 11 M13 (Γ13 K a0) := g12.snocC (He.glo_ok X G (c.fact 14 (f := .glo "BEGIN") rfl)) (v := .ref _) rfl (tup_fact (K := K) (ba cx).1 fun F => (.cons (.int _) (.cons (.int _) .nil)))
    have b13 : Binds Kf fd_ways_from (["one", "other", "begin"] : List PySem.Str) [] := F_ways_from.bindsN fun _ _ _ _ _ _ us hl => match us, hl with | [_, _, _], _ => rfl
    have g14 : G0 P w mg base K (drT a0 a1 hne) 12 M14 (Γ14 K a0) := g13.snoc (by omega) (by omega) (def_ok g13 F_ways_from sc21 ch21) (He.glo_ok X G (c.fact 15 (f := .glo "ways_from") rfl)) F_ways_from.kp b13
    have b14 : Binds Kf fd_ring (["one", "other"] : List PySem.Str) [] := F_ring.bindsN fun _ _ _ _ _ _ us hl => match us, hl with | [_, _], _ => rfl
    have g15 : G0 P w mg base K (drT a0 a1 hne) 13 M15 (Γ15 K a0) := g14.snoc (by omega) (by omega) (def_ok g14 F_ring sc22 ch22) (He.glo_ok X G (c.fact 16 (f := .glo "ring") rfl)) F_ring.kp b14
    have b15 : Binds Kf fd__law_next ["_law_h", "_law_cap"] [] := F__law_next.bindsN fun _ _ _ _ _ _ us hl => match us, hl with | [_, _], _ => rfl
    have g16 : G0 P w mg base K (drT a0 a1 hne) 13 M16 (Γ16 K a0) := g15.snoc (by omega) (by omega) (ok_next (K := K) F__law_next sc25 (by decide +kernel) (by decide +kernel) (by decide +kernel) (by decide +kernel) (He.free_ok X G (c.fact 32 (f := .free "int") rfl)) (He.free_ok X G (c.fact 36 (f := .free "max") rfl)) (He.free_ok X G (c.fact 34 (f := .free "len") rfl)) rfl) (He.glo_ok X G (c.fact 18 (f := .glo "_law_next") rfl)) F__law_next.kp b15
    have b16 : Binds Kf fd__law_pick (["_law_h", "_law_things"] : List PySem.Str) [] := F__law_pick.bindsN fun _ _ _ _ _ _ us hl => match us, hl with | [_, _], _ => rfl
    have g17 : G0 P w mg base K (drT a0 a1 hne) 14 M17 (Γ17 K a0) := g16.snoc (by omega) (by omega) (def_ok g16 F__law_pick sc26 ch26) (He.glo_ok X G (c.fact 19 (f := .glo "_law_pick") rfl)) F__law_pick.kp b16
    have b17 : Binds Kf fd__law_parts (["_law_h", "_law_letters"] : List PySem.Str) [] := F__law_parts.bindsN fun _ _ _ _ _ _ us hl => match us, hl with | [_, _], _ => rfl
    have g18 : G0 P w mg base K (drT a0 a1 hne) 15 M18 (Γ18 K a0) := g17.snoc (by omega) (by omega) (def_ok g17 F__law_parts sc27 ch27) (He.glo_ok X G (c.fact 20 (f := .glo "_law_parts") rfl)) F__law_parts.kp b17
    have b18 : Binds Kf fd__law_near (["_law_h", "_law_parts_here"] : List PySem.Str) [] := F__law_near.bindsN fun _ _ _ _ _ _ us hl => match us, hl with | [_, _], _ => rfl
    have g19 : G0 P w mg base K (drT a0 a1 hne) 16 M19 (Γ19 K a0) := g18.snoc (by omega) (by omega) (def_ok g18 F__law_near sc28 ch28) (He.glo_ok X G (c.fact 21 (f := .glo "_law_near") rfl)) F__law_near.kp b18
    have b19 : Binds Kf fd__law_two (["_law_h"] : List PySem.Str) [] := F__law_two.bindsN fun _ _ _ _ _ _ us hl => match us, hl with | [_], _ => rfl
    have g20 : G0 P w mg base K (drT a0 a1 hne) 17 M20 (Γ20 K a0) := g19.snoc (by omega) (by omega) (def_ok g19 F__law_two sc29 ch29) (He.glo_ok X G (c.fact 22 (f := .glo "_law_two") rfl)) F__law_two.kp b19
    have b20 : Binds Kf fd__law_end (["_law_parts_here", "_law_stand", "_law_row"] : List PySem.Str) [] := F__law_end.bindsN fun _ _ _ _ _ _ us hl => match us, hl with | [_, _, _], _ => rfl
    have g21 : G0 P w mg base K (drT a0 a1 hne) 18 M21 (Γ21 K a0) := g20.snoc (by omega) (by omega) (def_ok g20 F__law_end sc30 ch30) (He.glo_ok X G (c.fact 23 (f := .glo "_law_end") rfl)) F__law_end.kp b20
    have b21 : Binds Kf fd__law_lengths (["_law_one", "_law_other", "_law_begin", "_law_most"] : List PySem.Str) [] := F__law_lengths.bindsN fun _ _ _ _ _ _ us hl => match us, hl with | [_, _, _, _], _ => rfl
    have g22 : G0 P w mg base K (drT a0 a1 hne) 19 M22 (Γ22 K a0) := g21.snoc (by omega) (by omega) (def_ok g21 F__law_lengths sc31 ch31) (He.glo_ok X G (c.fact 24 (f := .glo "_law_lengths") rfl)) F__law_lengths.kp b21
    have b22 : Binds Kf fd__law_pairs (["_law_one", "_law_other", "_law_begin"] : List PySem.Str) [] := F__law_pairs.bindsN fun _ _ _ _ _ _ us hl => match us, hl with | [_, _, _], _ => rfl
    have g23 : G0 P w mg base K (drT a0 a1 hne) 20 M23 (Γ23 K a0) := g22.snoc (by omega) (by omega) (def_ok g22 F__law_pairs sc32 ch32) (He.glo_ok X G (c.fact 25 (f := .glo "_law_pairs") rfl)) F__law_pairs.kp b22
    have b23 : Binds Kf fd__law_unlike (["_law_one", "_law_other", "_law_begin"] : List PySem.Str) [] := F__law_unlike.bindsN fun _ _ _ _ _ _ us hl => match us, hl with | [_, _, _], _ => rfl
    have g24 : G0 P w mg base K (drT a0 a1 hne) 21 M24 (Γ24 K a0) := g23.snoc (by omega) (by omega) (def_ok g23 F__law_unlike sc33 ch33) (He.glo_ok X G (c.fact 26 (f := .glo "_law_unlike") rfl)) F__law_unlike.kp b23
    exact g24
  have bm : Binds Kf fd__law_mix ["_law_script", "_law_seed"] [] := F__law_mix.bindsN fun _ _ _ _ _ _ us hl => match us, hl with | [_, _], _ => rfl
  exact law_ok (K := K) (rest := (defBody (top 34)).tail) (code := c_law) (seed := 5) rfl h F_law sc34 (by decide +kernel) (by decide +kernel) (ok_mix (K := K) F__law_mix sc24 (by decide +kernel) (by decide +kernel) (by decide +kernel) (by decide +kernel) (He.free_ok X G (c.fact 32 (f := .free "int") rfl)) (He.free_ok X G (c.fact 35 (f := .free "list") rfl)) rfl) (by omega) (He.glo_ok X G (c.fact 17 (f := .glo "_law_mix") rfl)) F__law_mix.kp bm ch34 (hrun K)
end L05
open PySem PySem.W PySem.Calls PyProof.Rows
theorem PySem.Challenge.cw_butfewrows_k05_whole_rings_holds : PySem.Challenge.rw_butfewrows_k05_whole_rings.Holds := by
  w_on; o_law
  refine HandSHeadRun.head_any (r := OpenLaw.row PySem.Challenge.rw_butfewrows_k05_whole_rings) (q := view (OpenLaw.row PySem.Challenge.rw_butfewrows_k05_whole_rings).prog [34]) (H := L05.hk) (ob := L05.ob) (M := 4000) (loose := L05.loose) (d := HandSHeadRun.topDef (OpenLaw.row PySem.Challenge.rw_butfewrows_k05_whole_rings).prog 34) (kwd := []) L05.ob_eq
    (by kernel_rfl) (fun s => by kernel_rfl) L05.run (by kernel_rfl) (by kernel_rfl) (by kernel_rfl) (by rfl) (by first | assumption | decide +kernel) (by decide +kernel) ⟨rfl, rfl, rfl, rfl, rfl, by decide +kernel⟩ ?hw ?hc
  case hw => w_witness2
  case hc =>
    refine L2.walk_ofE (l := PySem.Challenge.rw_butfewrows_k05_whole_rings) (n := 63) (k := 22) (x := "_law_script") (CX := L2.CX0) rfl (by decide) (by kernel_rfl) ⟨rfl, by decide, by decide⟩ ?F (fun _ _ _ _ z => z)
    intro w mg fa h Y G hmg0
    obtain ⟨K, KX, c, cx⟩ := Y
    have hmg : mg ("law" : PySem.Str) = some (.ref fa) := by
      have e : (HandSHeadRun.topDef (OpenLaw.row PySem.Challenge.rw_butfewrows_k05_whole_rings).prog 34).name = ("law" : PySem.Str) := by kernel_rfl
      rw [← e]
      exact hmg0
    obtain ⟨fd, hb, hF⟩ := L05.facts (P := PySem.Challenge.rw_butfewrows_k05_whole_rings.prog) (w := w) KX G hmg c cx
    exact ⟨K, fd, BF.spLaw K, KX, hb, fun H a ns hl _ hS => ⟨a, ns, rfl, hl, hS, fun _ => rfl⟩, fun base h1 h2 => BF.law0 (hF base h1 h2)⟩
