import PyProof.Rows.All
import HandS.ForMost
import HandS.Walk
import KE.KDictKeyed
import KE.KeyNested
import HandS.Defaults
import HandS.Star
import HandS.Property
import HandS.Style
import HandS.TupAny
import HandS.Deep
import HandS.IsInst
import HandS.Conv
import HandS.Zip
import KE.SortData
import KE.DataMinMax
import KE.KIndexOf
import KE.KDictZip
import HandS.DictTup
import HandS.Words
import HandS.OwnEq
import HandS.HeadHook2
import HandS.Dict
import HandS.Head0
import HandS.Head1
import HandS.Head2
import HandS.HeadEnd
import HandS.HeadHook1
import HandS.HeadNt
import HandS.Codes
import Lean
import PySem.Challenge.RW_looksrests_k77_whole_beats_followed_far
section
set_option autoImplicit false
set_option linter.all false
set_option maxRecDepth 100000
namespace PV
open PySem PySem.Spec PyProof.Rows L2

inductive D where
  | non | bl (b : Bool) | int (i : Int) | str (x : Str)
  | tup (xs : List D) | tupW (xs : List D) | lst (xs : List D) | dct (kvs : List (D × D))
  | ins (c : Nat) (fs : List (Str × D)) | tape | scr (n : Nat)
  | obj (x : Addr) (c : Nat) (fs : List (Str × D))

structure TapeI where
  ad : Addr → Prop
  root : Addr
  sa : Addr
  sn : Nat
  ok : Hp → Prop
  st : ∀ H H', (∀ a, ad a → H' a = H a) → ok H → ok H'
  live : ∀ H, ok H → ∀ a, ad a → H a ≠ none

structure Gx where
  w : World
  C : Nat → Addr
  T : TapeI

mutual
def nk : D → Option NestedKey
  | .non => some .none
  | .bl b => some (.num (if b = true then 1 else 0))
  | .int i => some (.num i)
  | .str x => some (.text x)
  | .tup xs => match nks xs with
    | some ks => some (.tup ks)
    | none => none
  | .lst _ => none
  | .dct _ => none
  | .ins _ _ => none
  | .tape => none
  | .scr _ => none
  | .obj _ _ _ => none
  | .tupW _ => none
def nks : List D → Option (List NestedKey)
  | [] => some []
  | x :: xs => match nk x, nks xs with
    | some k, some ks => some (k :: ks)
    | _, _ => none
end

/-- the key that a tuple is -/
def dkey : D → Option NestedKey
  | .tup xs => match nks xs with
    | some ks => if (NestedKey.tup ks).depth ≤ 8 then some (.tup ks) else none
    | none => none
  | _ => none
/-- a tuple without a dict of its own -/
def TupH (H : Hp) (a : Addr) (vs : List V) : Prop := ∃ ob, H a = some (.frz ob (.tup vs)) ∧ ob.dict = none
theorem TupH.sq {K : PySem.W.Frag} {H : Hp} {a : Addr} {vs : List V} (h : TupH H a vs) : SqT K H a vs := by
  obtain ⟨ob, e, _⟩ := h
  exact .inl (.inr ⟨ob, e⟩)
def dictHO (a : Addr) (es : List DictEntry) : HO := .ext fun h => (a == sysModules) = false ∧ ∃ o ep, h.get? a = some o ∧ o.ExactDict ∧ o.data = .dict es.toArray ep

mutual
inductive Rep (G : Gx) (F : Addr → Prop) (H : Hp) : V → D → Prop
  | non : Rep G F H .non .non
  | bl (b : Bool) : Rep G F H (.bl b) (.bl b)
  | int (i : Int) : Rep G F H (.int i) (.int i)
  | str (x : Str) : Rep G F H (.str x) (.str x)
  | tape : Rep G F H (.ref G.T.root) .tape
  | scr : Rep G F H (.ref G.T.sa) (.scr G.T.sn)
  | at {a : Addr} {d : D} : F a → Top G F H a d → Rep G F H (.ref a) d
inductive Top (G : Gx) (F : Addr → Prop) (H : Hp) : Addr → D → Prop
  | tup {a : Addr} {vs : List V} {ds : List D} : TupH H a vs → RepL G F H vs ds → Top G F H a (.tup ds)
  | tupW {a : Addr} {vs : List V} {ds : List D} : H a = some (.tup vs) → RepL G F H vs ds → Top G F H a (.tupW ds)
  | lst {a : Addr} {vs : List V} {ds : List D} : H a = some (.lst vs) → RepL G F H vs ds → Top G F H a (.lst ds)
  | dct {a : Addr} {es : List DictEntry} {kvs : List (D × D)} : Rd H a (dictHO a es) → RepE G F H es kvs → (kvs.map fun p => dkey p.1).Nodup → es.length ≤ sizeLine → Top G F H a (.dct kvs)
  | ins {a dx : Addr} {c : Nat} {fs : List (Str × V)} {ds : List (Str × D)} : H a = some (.ins (G.C c) dx fs) → RepF G F H fs ds → Top G F H a (.ins c ds)
  | obj {a dx : Addr} {c : Nat} {fs : List (Str × V)} {ds : List (Str × D)} : H a = some (.ins (G.C c) dx fs) → RepF G F H fs ds → Top G F H a (.obj a c ds)
inductive RepL (G : Gx) (F : Addr → Prop) (H : Hp) : List V → List D → Prop
  | nil : RepL G F H [] []
  | cons {v : V} {d : D} {vs : List V} {ds : List D} : Rep G F H v d → RepL G F H vs ds → RepL G F H (v :: vs) (d :: ds)
inductive RepE (G : Gx) (F : Addr → Prop) (H : Hp) : List DictEntry → List (D × D) → Prop
  | nil : RepE G F H [] []
  | cons {e : DictEntry} {kv vv : V} {k d : D} {n : NestedKey} {es : List DictEntry} {kvs : List (D × D)} : RelV kv e.key → RelV vv e.val → Rep G F H kv k → Rep G F H vv d → dkey k = some n → e.hash = n.hash G.w → RepE G F H es kvs → RepE G F H (e :: es) ((k, d) :: kvs)
inductive RepF (G : Gx) (F : Addr → Prop) (H : Hp) : List (Str × V) → List (Str × D) → Prop
  | nil : RepF G F H [] []
  | cons {n : Str} {v : V} {d : D} {fs : List (Str × V)} {ds : List (Str × D)} : Rep G F H v d → RepF G F H fs ds → RepF G F H ((n, v) :: fs) ((n, d) :: ds)
end
def isExt : HO → Prop
  | .ext _ => True
  | _ => False
/-- what is read at F stays -/
structure Tr (F : Addr → Prop) (H H' : Hp) : Prop where
  rd : ∀ a u, F a → Rd H a u → Rd H' a u
  eq : ∀ a u, F a → ¬ isExt u → H a = some u → H' a = some u
theorem Tr.rfl' {F : Addr → Prop} {H : Hp} : Tr F H H := ⟨fun _ _ _ h => h, fun _ _ _ _ h => h⟩
theorem Tr.of {F : Addr → Prop} {H H' : Hp} (h : ∀ a, F a → H' a = H a) : Tr F H H' := ⟨fun a u f q => by
  unfold Rd at q ⊢
  rw [h a f]
  exact q, fun a u f _ q => by rw [h a f]; exact q⟩
section
variable {G : Gx} {F F' : Addr → Prop} {H H' : Hp}
mutual
theorem Rep.mono (hF : ∀ a, F a → F' a) (hR : Tr F H H') : ∀ {v : V} {d : D}, Rep G F H v d → Rep G F' H' v d
  | _, _, .non => .non
  | _, _, .bl b => .bl b
  | _, _, .int b => .int b
  | _, _, .str b => .str b
  | _, _, .tape => .tape
  | _, _, .scr => .scr
  | _, _, .at h t => .at (hF _ h) (Top.mono hF hR h t)
theorem Top.mono (hF : ∀ a, F a → F' a) (hR : Tr F H H') : ∀ {a : Addr} {d : D}, F a → Top G F H a d → Top G F' H' a d
  | _, _, h, .tup ⟨ob, r, q⟩ l => .tup ⟨ob, hR.eq _ _ h (fun z => z) r, q⟩ (RepL.mono hF hR l)
  | _, _, h, .tupW r l => .tupW (hR.eq _ _ h (fun z => z) r) (RepL.mono hF hR l)
  | _, _, h, .lst r l => .lst (hR.eq _ _ h (fun z => z) r) (RepL.mono hF hR l)
  | _, _, h, .dct r l n s => .dct (hR.rd _ _ h r) (RepE.mono hF hR l) n s
  | _, _, h, .ins r l => .ins (hR.eq _ _ h (fun z => z) r) (RepF.mono hF hR l)
  | _, _, h, .obj r l => .obj (hR.eq _ _ h (fun z => z) r) (RepF.mono hF hR l)
theorem RepL.mono (hF : ∀ a, F a → F' a) (hR : Tr F H H') : ∀ {vs : List V} {ds : List D}, RepL G F H vs ds → RepL G F' H' vs ds
  | _, _, .nil => .nil
  | _, _, .cons r l => .cons (Rep.mono hF hR r) (RepL.mono hF hR l)
theorem RepE.mono (hF : ∀ a, F a → F' a) (hR : Tr F H H') : ∀ {es : List DictEntry} {ds : List (D × D)}, RepE G F H es ds → RepE G F' H' es ds
  | _, _, .nil => .nil
  | _, _, .cons a b c d e f g => .cons a b (Rep.mono hF hR c) (Rep.mono hF hR d) e f (RepE.mono hF hR g)
theorem RepF.mono (hF : ∀ a, F a → F' a) (hR : Tr F H H') : ∀ {fs : List (Str × V)} {ds : List (Str × D)}, RepF G F H fs ds → RepF G F' H' fs ds
  | _, _, .nil => .nil
  | _, _, .cons r l => .cons (Rep.mono hF hR r) (RepF.mono hF hR l)
end
end
end PV
end
section
set_option autoImplicit false
set_option linter.all false
set_option maxRecDepth 100000
namespace PV
open PySem PySem.Spec PyProof.Rows L2

theorem Top.mono2 {G : Gx} {F F' : Addr → Prop} {H H' : Hp} (hF : ∀ a, F a → F' a) (hR : Tr F H H') {a : Addr} {d : D} (h : Tr (fun b => b = a) H H') : Top G F H a d → Top G F' H' a d
  | .tup ⟨ob, r, q⟩ l => .tup ⟨ob, h.eq _ _ rfl (fun z => z) r, q⟩ (RepL.mono hF hR l)
  | .tupW r l => .tupW (h.eq _ _ rfl (fun z => z) r) (RepL.mono hF hR l)
  | .lst r l => .lst (h.eq _ _ rfl (fun z => z) r) (RepL.mono hF hR l)
  | .dct r l n s => .dct (h.rd _ _ rfl r) (RepE.mono hF hR l) n s
  | .ins r l => .ins (h.eq _ _ rfl (fun z => z) r) (RepF.mono hF hR l)
  | .obj r l => .obj (h.eq _ _ rfl (fun z => z) r) (RepF.mono hF hR l)

inductive Sl where
  | no | sh (d : D) | ow (d : D)
inductive Rv where
  | sh (d : D) | ow (d : D)
def Rv.d : Rv → D
  | .sh d => d
  | .ow d => d
def Rv.sl : Rv → Sl
  | .sh d => .sh d
  | .ow d => .ow d
abbrev Ev := List Sl

structure Bs where
  F0 : Addr → Prop
  H0 : Hp
  O0 : Addr → Prop

def Own (env : Ev) (σ : L2.St) (i : Nat) (a : Addr) : Prop := (∃ d, env[i]? = some (.ow d)) ∧ σ[i]? = some (some (.ref a))

structure Rel (G : Gx) (B : Bs) (F : Addr → Prop) (env : Ev) (σ : L2.St) (H : Hp) : Prop where
  len : env.length = σ.length
  sh : ∀ (i : Nat) (d : D), env[i]? = some (.sh d) → ∃ v, σ[i]? = some (some v) ∧ Rep G F H v d
  ow : ∀ (i : Nat) (d : D), env[i]? = some (.ow d) → ∃ a, σ[i]? = some (some (.ref a)) ∧ ¬ F a ∧ ¬ G.T.ad a ∧ Mut (H a) ∧ Top G F H a d ∧ (B.O0 a ∨ B.H0 a = none)
  inj : ∀ (i j : Nat) (a : Addr), Own env σ i a → Own env σ j a → i = j
  mF : ∀ a, B.F0 a → F a
  nF : ∀ a, F a → B.F0 a ∨ B.H0 a = none ∨ B.O0 a
  kp : ∀ a, ¬ G.T.ad a → ¬ B.O0 a → B.H0 a ≠ none → H a = B.H0 a
  al : ∀ a, B.H0 a ≠ none → H a ≠ none
  lF : ∀ a, F a → H a ≠ none ∧ ¬ G.T.ad a
  tp : G.T.ok H

def Bs.at (F : Addr → Prop) (H : Hp) (env : Ev) (σ : L2.St) : Bs := ⟨F, H, fun a => ∃ i, Own env σ i a⟩

section
variable {G : Gx} {B : Bs} {F F' : Addr → Prop} {env env' : Ev} {σ σ' : L2.St} {H H' : Hp} {v : V} {d : D} {a : Addr} {i : Nat}

theorem mut_some {H : Hp} {a : Addr} (h : Mut (H a)) : H a ≠ none := fun e => by rw [e] at h; exact h
theorem Rel.ownF (R : Rel G B F env σ H) (o : Own env σ i a) : ¬ F a ∧ ¬ G.T.ad a ∧ Mut (H a) ∧ (B.O0 a ∨ B.H0 a = none) := by
  obtain ⟨⟨d, e⟩, s⟩ := o
  obtain ⟨b, s', h1, h2, h3, _, h4⟩ := R.ow i d e
  rw [s] at s'
  cases s'
  exact ⟨h1, h2, h3, h4⟩
/-- the state as a new base -/
theorem Rel.here (R : Rel G B F env σ H) : Rel G (Bs.at F H env σ) F env σ H where
  len := R.len
  sh := R.sh
  ow := fun i d e => by
    obtain ⟨a, s, h1, h2, h3, h4, _⟩ := R.ow i d e
    exact ⟨a, s, h1, h2, h3, h4, .inl ⟨i, ⟨d, e⟩, s⟩⟩
  inj := R.inj
  mF := fun _ h => h
  nF := fun _ h => .inl h
  kp := fun _ _ _ _ => rfl
  al := fun _ h => h
  lF := R.lF
  tp := R.tp
theorem Rel.trans (R : Rel G B F env σ H) (S : Rel G (Bs.at F H env σ) F' env' σ' H') : Rel G B F' env' σ' H' where
  len := S.len
  sh := S.sh
  ow := fun i d e => by
    obtain ⟨a, s, h1, h2, h3, h4, h5⟩ := S.ow i d e
    refine ⟨a, s, h1, h2, h3, h4, ?_⟩
    rcases h5 with ⟨j, o⟩ | h5
    · exact (R.ownF o).2.2.2
    · cases q : B.H0 a with
      | none => exact .inr rfl
      | some u => exact absurd h5 (R.al a (by rw [q]; intro z; cases z))
  inj := S.inj
  mF := fun a h => S.mF a (R.mF a h)
  nF := fun a h => by
    rcases S.nF a h with h1 | h1 | ⟨j, o⟩
    · exact R.nF a h1
    · cases q : B.H0 a with
      | none => exact .inr (.inl rfl)
      | some u => exact absurd h1 (R.al a (by rw [q]; intro z; cases z))
    · rcases (R.ownF o).2.2.2 with z | z
      · exact .inr (.inr z)
      · exact .inr (.inl z)
  kp := fun a h1 h2 h3 => by
    have e1 := R.kp a h1 h2 h3
    have n1 : H a ≠ none := R.al a h3
    rw [← e1]
    refine S.kp a h1 ?_ n1
    rintro ⟨j, o⟩
    rcases (R.ownF o).2.2.2 with z | z
    · exact h2 z
    · exact h3 z
  al := fun a h => S.al a (R.al a h)
  lF := S.lF
  tp := S.tp
theorem Rel.frame (R : Rel G B F env σ H) (S : Rel G (Bs.at F H env σ) F' env' σ' H') {a : Addr} (h : F a) : H' a = H a :=
  S.kp a (R.lF a h).2 (fun ⟨_, o⟩ => (R.ownF o).1 h) (R.lF a h).1
theorem Rel.rep (R : Rel G B F env σ H) (S : Rel G (Bs.at F H env σ) F' env' σ' H') (r : Rep G F H v d) : Rep G F' H' v d :=
  r.mono S.mF (.of fun a h => R.frame S h)
theorem Rel.repL (R : Rel G B F env σ H) (S : Rel G (Bs.at F H env σ) F' env' σ' H') {vs : List V} {ds : List D} (r : RepL G F H vs ds) : RepL G F' H' vs ds :=
  r.mono S.mF (.of fun a h => R.frame S h)

/-! ### results -/
def RR (G : Gx) (B : Bs) (F : Addr → Prop) (env : Ev) (σ : L2.St) (H : Hp) (v : V) : Rv → Prop
  | .sh d => Rep G F H v d
  | .ow d => ∃ a, v = .ref a ∧ ¬ F a ∧ ¬ G.T.ad a ∧ Mut (H a) ∧ Top G F H a d ∧ (B.O0 a ∨ B.H0 a = none) ∧ ∀ i, ¬ Own env σ i a

theorem RR.trans (R : Rel G B F env σ H) (S : Rel G (Bs.at F H env σ) F' env' σ' H') {r : Rv} (q : RR G (Bs.at F H env σ) F' env' σ' H' v r) : RR G B F' env' σ' H' v r := by
  cases r with
  | sh d => exact q
  | ow d =>
    obtain ⟨a, e, h1, h2, h3, h4, h5, h6⟩ := q
    refine ⟨a, e, h1, h2, h3, h4, ?_, h6⟩
    rcases h5 with ⟨j, o⟩ | h5
    · exact (R.ownF o).2.2.2
    · cases q : B.H0 a with
      | none => exact .inr rfl
      | some u => exact absurd h5 (R.al a (by rw [q]; intro z; cases z))

def addF (F : Addr → Prop) (a : Addr) : Addr → Prop := fun b => F b ∨ b = a
theorem Rel.freeze (R : Rel G B F env σ H) {r : Rv} (q : RR G B F env σ H v r) : ∃ F', Rel G B F' env σ H ∧ Rep G F' H v r.d ∧ (∀ a, F a → F' a) := by
  cases r with
  | sh d => exact ⟨F, R, q, fun _ h => h⟩
  | ow d =>
    obtain ⟨a, e, h1, h2, h3, h4, h5, h6⟩ := q
    have sub : ∀ b, F b → addF F a b := fun b h => .inl h
    refine ⟨addF F a, ⟨R.len, fun i d e2 => ?_, fun i d e2 => ?_, R.inj, fun b h => .inl (R.mF b h), fun b h => ?_, R.kp, R.al, fun b h => ?_, R.tp⟩, ?_, sub⟩
    · obtain ⟨v, s, r⟩ := R.sh i d e2
      exact ⟨v, s, r.mono sub .rfl'⟩
    · obtain ⟨b, s, g1, g2, g3, g4, g5⟩ := R.ow i d e2
      refine ⟨b, s, ?_, g2, g3, g4.mono2 sub .rfl' .rfl', g5⟩
      rintro (z | z)
      · exact g1 z
      · subst z
        exact h6 i ⟨⟨d, e2⟩, s⟩
    · rcases h with h | h
      · exact R.nF b h
      · subst h
        rcases h5 with z | z
        · exact .inr (.inr z)
        · exact .inr (.inl z)
    · rcases h with h | h
      · exact R.lF b h
      · subst h
        exact ⟨mut_some h3, h2⟩
    · subst e
      exact .at (.inr rfl) (h4.mono2 sub .rfl' .rfl')

theorem get_set_ne {α : Type} {l : List α} {i j : Nat} {x : α} (h : j ≠ i) : (l.set i x)[j]? = l[j]? := List.getElem?_set_ne (Ne.symm h)
theorem lt_of_get {α : Type} {l : List α} {i : Nat} {x : α} (h : l[i]? = some x) : i < l.length := (List.getElem?_eq_some_iff.mp h).1

/-- the variable i is given out of hand: from now on it is not changed -/
theorem Rel.freezeVar (R : Rel G B F env σ H) (e : env[i]? = some (.ow d)) : ∃ F' v, Rel G B F' (env.set i (.sh d)) σ H ∧ σ[i]? = some (some v) ∧ Rep G F' H v d := by
  obtain ⟨a, s, h1, h2, h3, h4, h5⟩ := R.ow i d e
  have sub : ∀ b, F b → addF F a b := fun b h => .inl h
  have hi := lt_of_get e
  have T : Top G (addF F a) H a d := h4.mono2 sub .rfl' .rfl'
  refine ⟨addF F a, .ref a, ⟨by rw [List.length_set]; exact R.len, fun j d' e' => ?_, fun j d' e' => ?_, ?_, fun b h => .inl (R.mF b h), fun b h => ?_, R.kp, R.al, fun b h => ?_, R.tp⟩, s, .at (.inr rfl) T⟩
  · by_cases hj : j = i
    · subst hj
      rw [List.getElem?_set_self hi] at e'
      cases e'
      exact ⟨.ref a, s, .at (.inr rfl) T⟩
    · rw [get_set_ne hj] at e'
      obtain ⟨v, s, r⟩ := R.sh j d' e'
      exact ⟨v, s, r.mono sub .rfl'⟩
  · by_cases hj : j = i
    · subst hj
      rw [List.getElem?_set_self hi] at e'
      cases e'
    · rw [get_set_ne hj] at e'
      obtain ⟨b, s', g1, g2, g3, g4, g5⟩ := R.ow j d' e'
      refine ⟨b, s', ?_, g2, g3, g4.mono2 sub .rfl' .rfl', g5⟩
      rintro (z | z)
      · exact g1 z
      · subst z
        exact hj (R.inj j i b ⟨⟨d', e'⟩, s'⟩ ⟨⟨d, e⟩, s⟩)
  · rintro j k b ⟨⟨dj, ej⟩, sj⟩ ⟨⟨dk, ek⟩, sk⟩
    by_cases hj : j = i
    · subst hj
      rw [List.getElem?_set_self hi] at ej
      cases ej
    · by_cases hk : k = i
      · subst hk
        rw [List.getElem?_set_self hi] at ek
        cases ek
      · rw [get_set_ne hj] at ej
        rw [get_set_ne hk] at ek
        exact R.inj j k b ⟨⟨dj, ej⟩, sj⟩ ⟨⟨dk, ek⟩, sk⟩
  · rcases h with h | h
    · exact R.nF b h
    · subst h
      rcases h5 with z | z
      · exact .inr (.inr z)
      · exact .inr (.inl z)
  · rcases h with h | h
    · exact R.lF b h
    · subst h
      exact ⟨mut_some h3, h2⟩
/-- the variable i is handed on; it is not read again -/
theorem Rel.moveVar (R : Rel G B F env σ H) (e : env[i]? = some (.ow d)) : ∃ v, Rel G B F (env.set i .no) σ H ∧ σ[i]? = some (some v) ∧ RR G B F (env.set i .no) σ H v (.ow d) := by
  obtain ⟨a, s, h1, h2, h3, h4, h5⟩ := R.ow i d e
  have hi := lt_of_get e
  refine ⟨.ref a, ⟨by rw [List.length_set]; exact R.len, fun j d' e' => ?_, fun j d' e' => ?_, ?_, R.mF, R.nF, R.kp, R.al, R.lF, R.tp⟩, s, a, rfl, h1, h2, h3, h4, h5, ?_⟩
  · by_cases hj : j = i
    · subst hj
      rw [List.getElem?_set_self hi] at e'
      cases e'
    · rw [get_set_ne hj] at e'
      exact R.sh j d' e'
  · by_cases hj : j = i
    · subst hj
      rw [List.getElem?_set_self hi] at e'
      cases e'
    · rw [get_set_ne hj] at e'
      exact R.ow j d' e'
  · rintro j k b ⟨⟨dj, ej⟩, sj⟩ ⟨⟨dk, ek⟩, sk⟩
    by_cases hj : j = i
    · subst hj
      rw [List.getElem?_set_self hi] at ej
      cases ej
    · by_cases hk : k = i
      · subst hk
        rw [List.getElem?_set_self hi] at ek
        cases ek
      · rw [get_set_ne hj] at ej
        rw [get_set_ne hk] at ek
        exact R.inj j k b ⟨⟨dj, ej⟩, sj⟩ ⟨⟨dk, ek⟩, sk⟩
  · rintro j ⟨⟨dj, ej⟩, sj⟩
    by_cases hj : j = i
    · subst hj
      rw [List.getElem?_set_self hi] at ej
      cases ej
    · rw [get_set_ne hj] at ej
      exact hj (R.inj j i a ⟨⟨dj, ej⟩, sj⟩ ⟨⟨d, e⟩, s⟩)
/-- a slot is stored -/
theorem Rel.store (R : Rel G B F env σ H) {r : Rv} (q : RR G B F env σ H v r) : Rel G B F (env.set i r.sl) (σ.set i (some v)) H := by
  by_cases hi : i < env.length
  · have hi' : i < σ.length := by rw [← R.len]; exact hi
    refine ⟨by rw [List.length_set, List.length_set]; exact R.len, fun j d' e' => ?_, fun j d' e' => ?_, ?_, R.mF, R.nF, R.kp, R.al, R.lF, R.tp⟩
    · by_cases hj : j = i
      · subst hj
        rw [List.getElem?_set_self hi] at e'
        rw [List.getElem?_set_self hi']
        cases r with
        | sh d => cases e'; exact ⟨v, rfl, q⟩
        | ow d => cases e'
      · rw [get_set_ne hj] at e'
        rw [get_set_ne hj]
        exact R.sh j d' e'
    · by_cases hj : j = i
      · subst hj
        rw [List.getElem?_set_self hi] at e'
        rw [List.getElem?_set_self hi']
        cases r with
        | sh d => cases e'
        | ow d =>
          cases e'
          obtain ⟨a, e, h1, h2, h3, h4, h5, h6⟩ := q
          exact ⟨a, by rw [e], h1, h2, h3, h4, h5⟩
      · rw [get_set_ne hj] at e'
        rw [get_set_ne hj]
        exact R.ow j d' e'
    · have key : ∀ j b, Own (env.set i r.sl) (σ.set i (some v)) j b → j ≠ i → Own env σ j b := fun j b ⟨⟨dj, ej⟩, sj⟩ hj => by
        rw [get_set_ne hj] at ej sj
        exact ⟨⟨dj, ej⟩, sj⟩
      have key2 : ∀ b, Own (env.set i r.sl) (σ.set i (some v)) i b → ∀ j, ¬ Own env σ j b := fun b ⟨⟨dj, ej⟩, sj⟩ j oj => by
        rw [List.getElem?_set_self hi] at ej
        rw [List.getElem?_set_self hi'] at sj
        cases r with
        | sh d => cases ej
        | ow d =>
          obtain ⟨a, e, h1, h2, h3, h4, h5, h6⟩ := q
          rw [e] at sj
          cases sj
          exact h6 j oj
      intro j k b oj ok
      by_cases hj : j = i
      · by_cases hk : k = i
        · rw [hj, hk]
        · subst hj
          exact absurd (key k b ok hk) (key2 b oj k)
      · by_cases hk : k = i
        · subst hk
          exact absurd (key j b oj hj) (key2 b ok j)
        · exact R.inj j k b (key j b oj hj) (key k b ok hk)
  · have hi' : ¬ i < σ.length := by rw [← R.len]; exact hi
    rw [List.set_eq_of_length_le (by omega), List.set_eq_of_length_le (by omega)]
    exact R

/-! ### what a rule by values gives -/
def Res (G : Gx) (F : Addr → Prop) (H : Hp) (v : V) (H' : Hp) (r : Rv) : Prop :=
  (∀ a, H a ≠ none → H' a = H a) ∧ ∃ F', (∀ a, F a → F' a) ∧ (∀ a, F' a → F a ∨ (H a = none ∧ H' a ≠ none)) ∧
    match r with
    | .sh d => Rep G F' H' v d
    | .ow d => ∃ a, v = .ref a ∧ H a = none ∧ ¬ F' a ∧ Mut (H' a) ∧ Top G F' H' a d

theorem Rel.ext (R : Rel G B F env σ H) (k : ∀ a, H a ≠ none → H' a = H a) (f1 : ∀ a, F a → F' a) (f2 : ∀ a, F' a → F a ∨ (H a = none ∧ H' a ≠ none)) : Rel G B F' env σ H' := by
  have hR : Tr F H H' := .of fun a h => k a (R.lF a h).1
  have nad : ∀ a, H a = none → ¬ G.T.ad a := fun a h z => G.T.live H R.tp a z h
  refine ⟨R.len, fun i d e => ?_, fun i d e => ?_, R.inj, fun a h => f1 a (R.mF a h), fun a h => ?_, fun a h1 h2 h3 => ?_, fun a h => ?_, fun a h => ?_, ?_⟩
  · obtain ⟨v, s, r⟩ := R.sh i d e
    exact ⟨v, s, r.mono f1 hR⟩
  · obtain ⟨a, s, h1, h2, h3, h4, h5⟩ := R.ow i d e
    have ea := k a (mut_some h3)
    refine ⟨a, s, fun z => ?_, h2, by rw [ea]; exact h3, h4.mono2 f1 hR (.of fun b e => by rw [e]; exact ea), h5⟩
    rcases f2 a z with z | ⟨z, _⟩
    · exact h1 z
    · exact mut_some h3 z
  · rcases f2 a h with z | ⟨z, _⟩
    · exact R.nF a z
    · cases q : B.H0 a with
      | none => exact .inr (.inl rfl)
      | some u => exact absurd z (R.al a (by rw [q]; intro y; cases y))
  · rw [k a (R.al a h3)]
    exact R.kp a h1 h2 h3
  · rw [k a (R.al a h)]
    exact R.al a h
  · rcases f2 a h with z | ⟨z, y⟩
    · rw [k a (R.lF a z).1]
      exact R.lF a z
    · exact ⟨y, nad a z⟩
  · exact G.T.st H H' (fun a h => k a (G.T.live H R.tp a h)) R.tp
theorem Rel.res (R : Rel G B F env σ H) {r : Rv} (q : Res G F H v H' r) : ∃ F', Rel G B F' env σ H' ∧ RR G B F' env σ H' v r := by
  obtain ⟨k, F', f1, f2, m⟩ := q
  refine ⟨F', R.ext k f1 f2, ?_⟩
  cases r with
  | sh d => exact m
  | ow d =>
    obtain ⟨a, e, n, h1, h2, h3⟩ := m
    refine ⟨a, e, h1, fun z => G.T.live H R.tp a z n, h2, h3, ?_, fun i o => mut_some (R.ownF o).2.2.1 n⟩
    cases q : B.H0 a with
    | none => exact .inr rfl
    | some u => exact absurd n (R.al a (by rw [q]; intro y; cases y))
/-- the object of the variable i is changed -/
theorem Rel.mut (R : Rel G B F env σ H) {o : HO} {d' : D} (e : env[i]? = some (.ow d)) (s : σ[i]? = some (some (.ref a))) (mu : Mut (some o)) (t : Top G F (upd H a o) a d') : Rel G B F (env.set i (.ow d')) σ (upd H a o) := by
  obtain ⟨b, s', h1, h2, h3, h4, h5⟩ := R.ow i d e
  rw [s] at s'
  cases s'
  have hi := lt_of_get e
  have ne : ∀ b, F b → b ≠ a := fun b h z => h1 (z ▸ h)
  have hR : Tr F H (upd H a o) := .of fun b h => upd_ne (ne b h)
  refine ⟨by rw [List.length_set]; exact R.len, fun j d2 e' => ?_, fun j d2 e' => ?_, ?_, R.mF, R.nF, fun c g1 g2 g3 => ?_, fun c g => ?_, fun c g => ?_, ?_⟩
  · by_cases hj : j = i
    · subst hj
      rw [List.getElem?_set_self hi] at e'
      cases e'
    · rw [get_set_ne hj] at e'
      obtain ⟨v, s2, r⟩ := R.sh j d2 e'
      exact ⟨v, s2, r.mono (fun _ z => z) hR⟩
  · by_cases hj : j = i
    · subst hj
      rw [List.getElem?_set_self hi] at e'
      cases e'
      exact ⟨a, s, h1, h2, by rw [upd_same]; exact mu, t, h5⟩
    · rw [get_set_ne hj] at e'
      obtain ⟨c, s2, g1, g2, g3, g4, g5⟩ := R.ow j d2 e'
      have hc : c ≠ a := fun z => by
        subst z
        exact hj (R.inj j i c ⟨⟨d2, e'⟩, s2⟩ ⟨⟨d, e⟩, s⟩)
      refine ⟨c, s2, g1, g2, by rw [upd_ne hc]; exact g3, g4.mono2 (fun _ z => z) hR (.of fun b e => by rw [e]; exact upd_ne hc), g5⟩
  · have key : ∀ j b, Own (env.set i (.ow d')) σ j b → Own env σ j b := fun j b ⟨⟨dj, ej⟩, sj⟩ => by
      by_cases hj : j = i
      · subst hj
        exact ⟨⟨d, e⟩, sj⟩
      · rw [get_set_ne hj] at ej
        exact ⟨⟨dj, ej⟩, sj⟩
    exact fun j k b oj ok => R.inj j k b (key j b oj) (key k b ok)
  · have hc : c ≠ a := fun z => by
      subst z
      rcases h5 with z | z
      · exact g2 z
      · exact g3 z
    rw [upd_ne hc]
    exact R.kp c g1 g2 g3
  · by_cases hc : c = a
    · subst hc
      rw [upd_same]
      intro z
      cases z
    · rw [upd_ne hc]
      exact R.al c g
  · have hc := ne c g
    rw [upd_ne hc]
    exact R.lF c g
  · refine G.T.st H _ (fun c g => ?_) R.tp
    have hc : c ≠ a := fun z => h2 (z ▸ g)
    rw [upd_ne hc]
end
end PV
end
section
set_option autoImplicit false
set_option linter.all false
set_option maxRecDepth 100000
namespace PV
open PySem PySem.Spec PyProof.Rows L2

theorem _root_.L2.PE.imp {X : Cx} {e : Expr} {t t' : TE} (h : PE X e t) (i : ∀ σ H Q, t' σ H Q → t σ H Q) : PE X e t' := ⟨fun pins s σ H Q I q => h.run pins s σ H Q I (i σ H Q q)⟩
theorem _root_.L2.PT.imp {X : Cx} {e : Expr} {t t' : TT} (h : PT X e t) (i : ∀ σ H Q, t' σ H Q → t σ H Q) : PT X e t' := ⟨fun pins s σ H Q I q => h.run pins s σ H Q I (i σ H Q q)⟩
theorem _root_.L2.PW.imp {X : Cx} {e : Expr} {t t' : TT} (h : PW X e t) (i : ∀ σ H Q, t' σ H Q → t σ H Q) : PW X e t' := ⟨fun wh pins s σ H Q I q => h.run wh pins s σ H Q I (i σ H Q q)⟩
theorem _root_.L2.PA.imp {X : Cx} {e : List Expr} {t t' : TA} (h : PA X e t) (i : ∀ σ H Q, t' σ H Q → t σ H Q) : PA X e t' := ⟨fun pos pins s σ H Q I q => h.run pos pins s σ H Q I (i σ H Q q)⟩
theorem _root_.L2.PS.imp {X : Cx} {e : Stmt} {t t' : TS} (h : PS X e t) (i : ∀ D σ H, t' D σ H → t D σ H) : PS X e t' := ⟨fun pins s σ H D I q => h.run pins s σ H D I (i D σ H q)⟩
theorem _root_.L2.PSs.imp {X : Cx} {e : List Stmt} {t t' : TS} (h : PSs X e t) (i : ∀ D σ H, t' D σ H → t D σ H) : PSs X e t' := ⟨fun pins s σ H D I q => h.run pins s σ H D I (i D σ H q)⟩

abbrev WE := Ev → (Rv → Ev → Prop) → Prop
abbrev WT := Ev → (Bool → Ev → Prop) → Prop
abbrev Rf := Nat ⊕ D
def tE (G : Gx) (w : WE) : TE := fun σ H Q => ∃ B F env K, Rel G B F env σ H ∧ w env K ∧ ∀ v H' r env' F', Rel G B F' env' σ H' → RR G B F' env' σ H' v r → K r env' → Q v H'
def tT (G : Gx) (w : WT) : TT := fun σ H Q => ∃ B F env K, Rel G B F env σ H ∧ w env K ∧ ∀ b H' env' F', Rel G B F' env' σ H' → K b env' → Q b H'
structure EV (X : Cx) (G : Gx) (e : Expr) (w : WE) : Prop where
  run : PE X e (tE G w)
structure TV (X : Cx) (G : Gx) (e : Expr) (w : WT) : Prop where
  run : PT X e (tT G w)
structure TW (X : Cx) (G : Gx) (e : Expr) (w : WT) : Prop where
  run : PW X e (tT G w)

/-! ### operands -/
inductive Opd where
  | v (i : Nat) | e (w : WE)
def getR (env : Ev) : Rf → Option D
  | .inr d => some d
  | .inl i => match env[i]? with
    | some (.sh d) => some d
    | some (.ow d) => some d
    | _ => none
def evO : Opd → Ev → (Rf → Ev → Prop) → Prop
  | .v i, env, K => match getR env (.inl i) with
    | some _ => K (.inl i) env
    | none => False
  | .e w, env, K => w env fun r env' => K (.inr r.d) env'
def evOs : List Opd → Ev → (List Rf → Ev → Prop) → Prop
  | [], env, K => K [] env
  | o :: os, env, K => evO o env fun r e1 => evOs os e1 fun rs e2 => K (r :: rs) e2
def RepR (G : Gx) (F : Addr → Prop) (σ : L2.St) (H : Hp) (v : V) : Rf → Prop
  | .inl i => σ[i]? = some (some v)
  | .inr d => Rep G F H v d
inductive RepRs (G : Gx) (F : Addr → Prop) (σ : L2.St) (H : Hp) : List V → List Rf → Prop
  | nil : RepRs G F σ H [] []
  | cons {v : V} {r : Rf} {vs : List V} {rs : List Rf} : RepR G F σ H v r → RepRs G F σ H vs rs → RepRs G F σ H (v :: vs) (r :: rs)
def FOk (G : Gx) (F : Addr → Prop) (H : Hp) : Prop := ∀ a, F a → H a ≠ none ∧ ¬ G.T.ad a
def RepP (G : Gx) (F : Addr → Prop) (H : Hp) (v : V) (d : D) : Prop := Rep G F H v d ∨ ∃ a, v = .ref a ∧ Mut (H a) ∧ ¬ F a ∧ Top G F H a d
def tO (G : Gx) (o : Opd) : TE := fun σ H Q => ∃ B F env K, Rel G B F env σ H ∧ evO o env K ∧ ∀ v H' r env' F', Rel G B F' env' σ H' → RepR G F' σ H' v r → K r env' → Q v H'
def tA (G : Gx) (os : List Opd) : TA := fun σ H Q => ∃ B F env K, Rel G B F env σ H ∧ evOs os env K ∧ ∀ vs H' rs env' F', Rel G B F' env' σ H' → RepRs G F' σ H' vs rs → K rs env' → Q vs H'
structure OV (X : Cx) (G : Gx) (e : Expr) (o : Opd) : Prop where
  run : PE X e (tO G o)
structure AV (X : Cx) (G : Gx) (es : List Expr) (os : List Opd) : Prop where
  run : PA X es (tA G os)

section
variable {X : Cx} {G : Gx} {B : Bs} {F F' : Addr → Prop} {env env' : Ev} {σ σ' : L2.St} {H H' : Hp} {v : V} {d : D} {a : Addr} {i : Nat} {e : Expr} {es : List Expr} {pos : Pos}

theorem Rel.repR (R : Rel G B F env σ H) (S : Rel G (Bs.at F H env σ) F' env' σ H') {r : Rf} (q : RepR G F σ H v r) : RepR G F' σ H' v r := by
  cases r with
  | inl i => exact q
  | inr d => exact R.rep S q
theorem Rel.getR (R : Rel G B F env σ H) {r : Rf} (q : RepR G F σ H v r) (g : getR env r = some d) : RepP G F H v d := by
  cases r with
  | inr d' => cases g; exact .inl q
  | inl i =>
    have q' : σ[i]? = some (some v) := q
    unfold PV.getR at g
    simp only at g
    split at g
    · rename_i d' e
      cases g
      obtain ⟨v', s, r⟩ := R.sh i d e
      rw [q'] at s
      cases s
      exact .inl r
    · rename_i d' e
      cases g
      obtain ⟨a, s, nf, _, m, t, _⟩ := R.ow i d e
      rw [q'] at s
      cases s
      exact .inr ⟨a, rfl, m, nf, t⟩
    · cases g

/-! ### constants, names -/
def vC (d : D) : WE := fun env K => K (.sh d) env
theorem ev_c {v : V} (h : PE X e (tC v)) (r : ∀ F H, Rep G F H v d) : EV X G e (vC d) :=
  ⟨h.imp fun σ H Q ⟨B, F, env, K, R, w, c⟩ => c _ _ (.sh d) env F R (r F H) w⟩
theorem ev_int {i : Int} {j : Nat} : EV X G (.Constant (.int i) j pos) (vC (.int i)) := ev_c pe_int fun _ _ => .int i
theorem ev_bl {i : Bool} {j : Nat} : EV X G (.Constant (.bool i) j pos) (vC (.bl i)) := ev_c pe_bl fun _ _ => .bl i
theorem ev_non {j : Nat} : EV X G (.Constant .none j pos) (vC .non) := ev_c pe_non fun _ _ => .non
theorem ev_str {x : Str} {j : Nat} : EV X G (.Constant (.str x) j pos) (vC (.str x)) := ev_c pe_str fun _ _ => .str x
/-- a name read for good -/
def vVar (i : Nat) : WE := fun env K => match env[i]? with
  | some (.sh d) => K (.sh d) env
  | some (.ow d) => K (.sh d) (env.set i (.sh d))
  | _ => False
theorem ev_var (h : PE X e (tVar i)) : EV X G e (vVar i) := ⟨h.imp fun σ H Q ⟨B, F, env, K, R, w, c⟩ => by
  unfold vVar at w
  split at w
  · rename_i d e
    obtain ⟨v, s, r⟩ := R.sh i d e
    exact ⟨v, s, c v H (.sh d) env F R r w⟩
  · rename_i d e
    obtain ⟨F', v, R', s, r⟩ := R.freezeVar e
    exact ⟨v, s, c v H (.sh d) _ F' R' r w⟩
  · exact w.elim⟩
/-- a name handed on (return x) -/
def vMove (i : Nat) : WE := fun env K => match env[i]? with
  | some (.sh d) => K (.sh d) env
  | some (.ow d) => K (.ow d) (env.set i .no)
  | _ => False
theorem ev_move (h : PE X e (tVar i)) : EV X G e (vMove i) := ⟨h.imp fun σ H Q ⟨B, F, env, K, R, w, c⟩ => by
  unfold vMove at w
  split at w
  · rename_i d e
    obtain ⟨v, s, r⟩ := R.sh i d e
    exact ⟨v, s, c v H (.sh d) env F R r w⟩
  · rename_i d e
    obtain ⟨v, R', s, r⟩ := R.moveVar e
    exact ⟨v, s, c v H (.ow d) _ F R' r w⟩
  · exact w.elim⟩
theorem ov_v (h : PE X e (tVar i)) : OV X G e (.v i) := ⟨h.imp fun σ H Q ⟨B, F, env, K, R, w, c⟩ => by
  simp only [evO] at w
  split at w
  · rename_i d e
    simp only [PV.getR] at e
    split at e
    · rename_i d' e'
      obtain ⟨v, s, r⟩ := R.sh i d' e'
      exact ⟨v, s, c v H (.inl i) env F R s w⟩
    · rename_i d' e'
      obtain ⟨a, s, _⟩ := R.ow i d' e'
      exact ⟨_, s, c _ H (.inl i) env F R s w⟩
    · cases e
  · exact w.elim⟩
theorem ov_e {w0 : WE} (h : EV X G e w0) : OV X G e (.e w0) := ⟨h.run.imp fun σ H Q ⟨B, F, env, K, R, w, c⟩ => ⟨B, F, env, _, R, w, fun v H' r env' F' R' q k => by
  obtain ⟨F2, R2, rep, _⟩ := R'.freeze q
  exact c v H' (.inr r.d) env' F2 R2 rep k⟩⟩
theorem av_nil : AV X G [] [] := ⟨pa_nil.imp fun σ H Q ⟨B, F, env, K, R, w, c⟩ => c [] H [] env F R .nil w⟩
theorem av_cons {o : Opd} {os : List Opd} (h : OV X G e o) (t : AV X G es os) (hs : starEach (e :: es) X.env = (false, eval e X.env) :: starEach es X.env := by rfl) : AV X G (e :: es) (o :: os) :=
  ⟨(pa_cons h.run t.run hs).imp fun σ H Q ⟨B, F, env, K, R, w, c⟩ => ⟨B, F, env, _, R, w, fun v H1 r env1 F1 R1 rep1 k1 => ⟨Bs.at F1 H1 env1 σ, F1, env1, _, R1.here, k1, fun vs H2 rs env2 F2 R2 reps k2 =>
    c (v :: vs) H2 (r :: rs) env2 F2 (R1.trans R2) (.cons (R1.repR R2 rep1) reps) k2⟩⟩⟩

/-! ### rules by values -/
def rP1 (G : Gx) (f : D → Option Rv) : List V → Hp → VK → Prop := fun vs H Q => ∃ F v d r, FOk G F H ∧ vs = [v] ∧ RepP G F H v d ∧ f d = some r ∧ ∀ v' H', Res G F H v' H' r → Q v' H'
def rP2 (G : Gx) (f : D → D → Option Rv) : R2 := fun x y H Q => ∃ F dx dy r, FOk G F H ∧ RepP G F H x dx ∧ RepP G F H y dy ∧ f dx dy = some r ∧ ∀ v' H', Res G F H v' H' r → Q v' H'
def rU (G : Gx) (f : D → Option Rv) : V → Hp → VK → Prop := fun x H Q => ∃ F dx r, FOk G F H ∧ RepP G F H x dx ∧ f dx = some r ∧ ∀ v' H', Res G F H v' H' r → Q v' H'
def kP (f : Option Rv) (K : Rv → Ev → Prop) (env : Ev) : Prop := match f with
  | some r => K r env
  | none => False
def vP1 (f : D → Option Rv) (a : Opd) : WE := fun env K => evO a env fun ra e1 => match getR e1 ra with
  | some x => kP (f x) K e1
  | none => False
def vP2 (f : D → D → Option Rv) (a b : Opd) : WE := fun env K => evO a env fun ra e1 => evO b e1 fun rb e2 => match getR e2 ra, getR e2 rb with
  | some x, some y => kP (f x y) K e2
  | _, _ => False
def vP3 (f : D → D → D → Option Rv) (a b c : Opd) : WE := fun env K => evO a env fun ra e1 => evO b e1 fun rb e2 => evO c e2 fun rc e3 => match getR e3 ra, getR e3 rb, getR e3 rc with
  | some x, some y, some z => kP (f x y z) K e3
  | _, _, _ => False
theorem kP_some {f : Option Rv} {K : Rv → Ev → Prop} (h : kP f K env) : ∃ r, f = some r ∧ K r env := by
  cases f with
  | none => exact h.elim
  | some r => exact ⟨r, rfl, h⟩
theorem ev_op {op : Operator} {f : D → D → Option Rv} {a b : Expr} {oa ob : Opd} (hr : OpR X (binaryOp op) (rP2 G f)) (ha : OV X G a oa) (hb : OV X G b ob) : EV X G (.BinOp a op b pos) (vP2 f oa ob) :=
  ⟨(pe_op hr ha.run hb.run).imp fun σ H Q ⟨B, F, env, K, R, w, c⟩ => ⟨B, F, env, _, R, w, fun x H1 ra env1 F1 R1 rep1 k1 => ⟨Bs.at F1 H1 env1 σ, F1, env1, _, R1.here, k1, fun y H2 rb env2 F2 R2 rep2 k2 => by
    split at k2
    · rename_i dx dy gx gy
      obtain ⟨r, fr, k⟩ := kP_some k2
      refine ⟨F2, dx, dy, r, R2.lF, R2.getR (R1.repR R2 rep1) gx, R2.getR rep2 gy, fr, fun v' H' q => ?_⟩
      obtain ⟨F3, R3, rr⟩ := (R1.trans R2).res q
      exact c v' H' r env2 F3 R3 rr k
    · exact k2.elim⟩⟩⟩
theorem ev_un {op : UnaryOp} {f : D → Option Rv} {a : Expr} {oa : Opd} (hr : UnR X (unaryOp op) (rU G f)) (ha : OV X G a oa) : EV X G (.UnaryOp op a pos) (vP1 f oa) :=
  ⟨(pe_un hr ha.run).imp fun σ H Q ⟨B, F, env, K, R, w, c⟩ => ⟨B, F, env, _, R, w, fun x H1 ra env1 F1 R1 rep1 k1 => by
    split at k1
    · rename_i dx gx
      obtain ⟨r, fr, k⟩ := kP_some k1
      refine ⟨F1, dx, r, R1.lF, R1.getR rep1 gx, fr, fun v' H' q => ?_⟩
      obtain ⟨F3, R3, rr⟩ := R1.res q
      exact c v' H' r env1 F3 R3 rr k
    · exact k1.elim⟩⟩
theorem ev_cmp {op : CmpOp} {f : D → D → Option Rv} {a b : Expr} {oa ob : Opd} (hr : OpR X (compareOp op) (rP2 G f)) (ha : OV X G a oa) (hb : OV X G b ob) (hm : behindInMarks op b = false := by first | rfl | exact nobehind _ (by decide) (by decide)) : EV X G (.Compare a [op] [b] pos) (vP2 f oa ob) :=
  ⟨(pe_cmpR hr ha.run hb.run hm).imp fun σ H Q ⟨B, F, env, K, R, w, c⟩ => ⟨B, F, env, _, R, w, fun x H1 ra env1 F1 R1 rep1 k1 => ⟨Bs.at F1 H1 env1 σ, F1, env1, _, R1.here, k1, fun y H2 rb env2 F2 R2 rep2 k2 => by
    split at k2
    · rename_i dx dy gx gy
      obtain ⟨r, fr, k⟩ := kP_some k2
      refine ⟨F2, dx, dy, r, R2.lF, R2.getR (R1.repR R2 rep1) gx, R2.getR rep2 gy, fr, fun v' H' q => ?_⟩
      obtain ⟨F3, R3, rr⟩ := (R1.trans R2).res q
      exact c v' H' r env2 F3 R3 rr k
    · exact k2.elim⟩⟩⟩
/-- a op b op' c, b read once -/
def vChain (f f' : D → D → Option Rv) (a b c : Opd) : WE := fun env K => evO a env fun ra e1 => evO b e1 fun rb e2 => match getR e2 ra, getR e2 rb with
  | some x, some y => match f x y with
    | some (.sh (.bl true)) => evO c e2 fun rc e3 => match getR e3 rb, getR e3 rc with
      | some y', some z => kP (f' y' z) K e3
      | _, _ => False
    | some (.sh (.bl false)) => K (.sh (.bl false)) e2
    | _ => False
  | _, _ => False

def args1 (f : D → Option Rv) (K : Rv → Ev → Prop) : List Rf → Ev → Prop
  | [ra], e1 => match getR e1 ra with
    | some x => kP (f x) K e1
    | none => False
  | _, _ => False
def args2 (f : D → D → Option Rv) (K : Rv → Ev → Prop) : List Rf → Ev → Prop
  | [ra, rb], e1 => match getR e1 ra, getR e1 rb with
    | some x, some y => kP (f x y) K e1
    | _, _ => False
  | _, _ => False
theorem Res.flat {F : Addr → Prop} {H : Hp} {v : V} {d : D} (r : Rep G F H v d) : Res G F H v H (.sh d) := ⟨fun _ _ => rfl, F, fun _ h => h, fun _ h => .inl h, r⟩

theorem ev_callB1 {f : D → Option Rv} {a : Expr} {oa : Opd} {x : Str} {id : String} {p : Pos} (hr : CallR X (.builtin id) (rP1 G f)) (hg : Gl X x) (hm : X.mg x = none) (hv : bootBuiltins x = some (.builtin id)) (ha : OV X G a oa) (hn : x ≠ "__name__" := by decide) (hdb : (x == ("__debug__" : Str)) = false := by decide)
    (hs : starEach (a :: []) X.env = (false, eval a X.env) :: starEach [] X.env := by rfl) (hpl : (backTo pos (starEach [] X.env)).any (·.1) = false := by rfl) : EV X G (.Call (.Name x p) [a] [] pos) (vP1 f oa) :=
  ⟨(pe_callB hr hg hm hv (av_cons ha av_nil hs).run hn hdb hs hpl).imp fun σ H Q ⟨B, F, env, K, R, w, c⟩ => ⟨B, F, env, args1 f K, R, w, fun vs H1 rs env1 F1 R1 reps k1 => by
    cases reps with
    | nil => exact k1.elim
    | cons rep t =>
      cases t with
      | cons _ _ => exact k1.elim
      | nil =>
      simp only [args1] at k1
      split at k1
      · rename_i dx gx
        obtain ⟨r, fr, k⟩ := kP_some k1
        refine ⟨F1, _, dx, r, R1.lF, rfl, R1.getR rep gx, fr, fun v' H' q => ?_⟩
        obtain ⟨F3, R3, rr⟩ := R1.res q
        exact c v' H' r env1 F3 R3 rr k
      · exact k1.elim⟩⟩
end
end PV
end
section
set_option autoImplicit false
set_option linter.all false
set_option maxRecDepth 100000
namespace PV
open PySem PySem.Spec PyProof.Rows L2

/-! ### arguments given out of hand -/
def evWs : List WE → Ev → (List D → Ev → Prop) → Prop
  | [], env, K => K [] env
  | w :: ws, env, K => w env fun r e1 => evWs ws e1 fun ds e2 => K (r.d :: ds) e2
def tL (G : Gx) (w : Ev → (List D → Ev → Prop) → Prop) : TA := fun σ H Q => ∃ B F env K, Rel G B F env σ H ∧ w env K ∧ ∀ vs H' ds env' F', Rel G B F' env' σ H' → RepL G F' H' vs ds → K ds env' → Q vs H'
abbrev WL := Ev → (List D → Ev → Prop) → Prop
structure LV (X : Cx) (G : Gx) (es : List Expr) (w : WL) : Prop where
  run : PA X es (tL G w)
def lNil : WL := fun env K => K [] env
def lCons (w : WE) (l : WL) : WL := fun env K => w env fun r e1 => l e1 fun ds e2 => K (r.d :: ds) e2
/-- *e, .. -/
def lStar (w : Opd) (l : WL) : WL := fun env K => evO w env fun ra e1 => match getR e1 ra with
  | some (.tup xs) => l e1 fun ds e2 => K (xs ++ ds) e2
  | some (.lst xs) => l e1 fun ds e2 => K (xs ++ ds) e2
  | _ => False

theorem RepL.len {G : Gx} {F : Addr → Prop} {H : Hp} : ∀ {vs : List V} {ds : List D}, RepL G F H vs ds → vs.length = ds.length
  | _, _, .nil => rfl
  | _, _, .cons _ t => by simp [RepL.len t]
theorem RepL.append {G : Gx} {F : Addr → Prop} {H : Hp} : ∀ {vs : List V} {ds : List D} {us : List V} {es : List D}, RepL G F H vs ds → RepL G F H us es → RepL G F H (vs ++ us) (ds ++ es)
  | _, _, _, _, .nil, t => t
  | _, _, _, _, .cons r t, u => .cons r (RepL.append t u)
theorem RepL.get {G : Gx} {F : Addr → Prop} {H : Hp} : ∀ {vs : List V} {ds : List D} {i : Nat} {d : D}, RepL G F H vs ds → ds[i]? = some d → ∃ v, vs[i]? = some v ∧ Rep G F H v d
  | _, _, _, _, .nil, e => by simp at e
  | _, _, 0, _, .cons r _, e => by simp at e; subst e; exact ⟨_, by simp, r⟩
  | _, _, i + 1, _, .cons _ t, e => by
    obtain ⟨v, h1, h2⟩ := RepL.get (i := i) t (by simpa using e)
    exact ⟨v, by simpa using h1, h2⟩
theorem RepL.getV {G : Gx} {F : Addr → Prop} {H : Hp} : ∀ {vs : List V} {ds : List D} {i : Nat} {v : V}, RepL G F H vs ds → vs[i]? = some v → ∃ d, ds[i]? = some d ∧ Rep G F H v d
  | _, _, _, _, .nil, e => by simp at e
  | _, _, 0, _, .cons r _, e => by simp at e; subst e; exact ⟨_, by simp, r⟩
  | _, _, i + 1, _, .cons _ t, e => by
    obtain ⟨v, h1, h2⟩ := RepL.getV (i := i) t (by simpa using e)
    exact ⟨v, by simpa using h1, h2⟩

theorem RepP.lst {G : Gx} {F : Addr → Prop} {H : Hp} {v : V} {xs : List D} (h : RepP G F H v (.lst xs)) : ∃ a vs, v = .ref a ∧ H a = some (.lst vs) ∧ RepL G F H vs xs := by
  rcases h with h | ⟨a, e, _, _, t⟩
  · cases h with
    | «at» f t =>
      cases t with
      | lst r l => exact ⟨_, _, rfl, r, l⟩
  · cases t with
    | lst r l => exact ⟨_, _, e, r, l⟩
theorem RepP.tup {G : Gx} {F : Addr → Prop} {H : Hp} {v : V} {xs : List D} (h : RepP G F H v (.tup xs)) : ∃ a vs, v = .ref a ∧ TupH H a vs ∧ RepL G F H vs xs ∧ F a := by
  rcases h with h | ⟨a, e, m, _, t⟩
  · cases h with
    | «at» f t =>
      cases t with
      | tup r l => exact ⟨_, _, rfl, r, l, f⟩
  · cases t with
    | tup r l =>
      obtain ⟨ob, r, _⟩ := r
      rw [r] at m
      exact m.elim
theorem RepP.ins {G : Gx} {F : Addr → Prop} {H : Hp} {v : V} {c : Nat} {fs : List (Str × D)} (h : RepP G F H v (.ins c fs)) : ∃ a dx vs, v = .ref a ∧ H a = some (.ins (G.C c) dx vs) ∧ RepF G F H vs fs := by
  rcases h with h | ⟨a, e, _, _, t⟩
  · cases h with
    | «at» f t =>
      cases t with
      | ins r l => exact ⟨_, _, _, rfl, r, l⟩
  · cases t with
    | ins r l => exact ⟨_, _, _, e, r, l⟩
theorem RepP.int {G : Gx} {F : Addr → Prop} {H : Hp} {v : V} {i : Int} (h : RepP G F H v (.int i)) : v = .int i := by
  rcases h with h | ⟨a, e, _, _, t⟩
  · cases h with
    | int i => rfl
    | «at» f t => cases t
  · cases t
theorem RepP.bl {G : Gx} {F : Addr → Prop} {H : Hp} {v : V} {i : Bool} (h : RepP G F H v (.bl i)) : v = .bl i := by
  rcases h with h | ⟨a, e, _, _, t⟩
  · cases h with
    | bl i => rfl
    | «at» f t => cases t
  · cases t
theorem RepP.str {G : Gx} {F : Addr → Prop} {H : Hp} {v : V} {i : Str} (h : RepP G F H v (.str i)) : v = .str i := by
  rcases h with h | ⟨a, e, _, _, t⟩
  · cases h with
    | str i => rfl
    | «at» f t => cases t
  · cases t
theorem RepP.non {G : Gx} {F : Addr → Prop} {H : Hp} {v : V} (h : RepP G F H v .non) : v = .non := by
  rcases h with h | ⟨a, e, _, _, t⟩
  · cases h with
    | non => rfl
    | «at» f t => cases t
  · cases t
theorem RepF.lookup {G : Gx} {F : Addr → Prop} {H : Hp} {f : Str} {d : D} : ∀ {vs : List (Str × V)} {ds : List (Str × D)}, RepF G F H vs ds → ds.lookup f = some d → ∃ v, vs.lookup f = some v ∧ Rep G F H v d
  | _, _, .nil, e => by simp at e
  | _, _, .cons (n := n) r t, e => by
    by_cases h : f = n
    · subst h
      simp only [List.lookup, beq_self_eq_true] at e ⊢
      cases e
      exact ⟨_, rfl, r⟩
    · have hb : (f == n) = false := by simpa using h
      simp only [List.lookup, hb] at e ⊢
      exact RepF.lookup t e

section
variable {X : Cx} {G : Gx} {B : Bs} {F F' : Addr → Prop} {env env' : Ev} {σ σ' : L2.St} {H H' : Hp} {v : V} {d : D} {a : Addr} {i : Nat} {e : Expr} {es : List Expr} {pos : Pos} {w : WE} {l : WL}

theorem lv_nil : LV X G [] lNil := ⟨pa_nil.imp fun σ H Q ⟨B, F, env, K, R, w, c⟩ => c [] H [] env F R .nil w⟩
theorem lv_cons (h : EV X G e w) (t : LV X G es l) (hs : starEach (e :: es) X.env = (false, eval e X.env) :: starEach es X.env := by rfl) : LV X G (e :: es) (lCons w l) :=
  ⟨(pa_cons h.run t.run hs).imp fun σ H Q ⟨B, F, env, K, R, w0, c⟩ => ⟨B, F, env, _, R, w0, fun v H1 r env1 F1 R1 rr1 k1 => by
    obtain ⟨F2, R2, rep, _⟩ := R1.freeze rr1
    exact ⟨Bs.at F2 H1 env1 σ, F2, env1, _, R2.here, k1, fun vs H2 rs env2 F3 R3 reps k2 =>
      c (v :: vs) H2 (r.d :: rs) env2 F3 (R2.trans R3) (.cons (R2.rep R3 rep) reps) k2⟩⟩⟩
theorem lv_star {o : Opd} {p : Pos} (h : OV X G e o) (t : LV X G es l) (hs : starEach (.Starred e p :: es) X.env = (true, eval e X.env) :: starEach es X.env := by rfl) : LV X G (.Starred e p :: es) (lStar o l) :=
  ⟨(StX.pa_star h.run t.run hs).imp fun σ H Q ⟨B, F, env, K, R, w0, c⟩ => ⟨B, F, env, _, R, w0, fun v H1 ra env1 F1 R1 rr1 k1 => by
    split at k1
    · rename_i xs gx
      obtain ⟨a, us, e, rd, rl, _⟩ := (R1.getR rr1 gx).tup
      exact ⟨a, us, e, .inl rd.sq, Bs.at F1 H1 env1 σ, F1, env1, _, R1.here, k1, fun vs H2 rs env2 F3 R3 reps k2 =>
        c (us ++ vs) H2 (xs ++ rs) env2 F3 (R1.trans R3) ((R1.repL R3 rl).append reps) k2⟩
    · rename_i xs gx
      obtain ⟨a, us, e, rd, rl⟩ := (R1.getR rr1 gx).lst
      exact ⟨a, us, e, .inr (.inl (.inl rd)), Bs.at F1 H1 env1 σ, F1, env1, _, R1.here, k1, fun vs H2 rs env2 F3 R3 reps k2 =>
        c (us ++ vs) H2 (xs ++ rs) env2 F3 (R1.trans R3) ((R1.repL R3 rl).append reps) k2⟩
    · exact k1.elim⟩⟩

theorem Rel.new (R : Rel G B F env σ H) {p : Addr} (hp : H p = none) (o : HO) : Rel G B F env σ (upd H p o) :=
  R.ext (fun a h => upd_ne fun e => by rw [e] at h; exact h hp) (fun _ h => h) (fun _ h => .inl h)
theorem Rel.newF (R : Rel G B F env σ H) {p : Addr} (hp : H p = none) (o : HO) : Rel G B (addF F p) env σ (upd H p o) :=
  R.ext (fun a h => upd_ne fun e => by rw [e] at h; exact h hp) (fun _ h => .inl h) (fun b h => h.elim .inl fun e => .inr (by subst e; rw [upd_same]; exact ⟨hp, fun z => by cases z⟩))
theorem Rel.trNew (R : Rel G B F env σ H) {p : Addr} (hp : H p = none) (o : HO) : Tr F H (upd H p o) :=
  .of fun a f => upd_ne fun e => by rw [e] at f; exact (R.lF _ f).1 hp
theorem Rel.notF (R : Rel G B F env σ H) {p : Addr} (hp : H p = none) : ¬ F p := fun f => (R.lF p f).1 hp
theorem Rel.freshRR (R : Rel G B F env σ H) {p : Addr} (hp : H p = none) {o : HO} (mu : Mut (some o)) (t : Top G F (upd H p o) p d) : RR G B F env σ (upd H p o) (.ref p) (.ow d) :=
  ⟨p, rfl, R.notF hp, fun z => G.T.live H R.tp p z hp, by rw [upd_same]; exact mu, t, (by
    cases q : B.H0 p with
    | none => exact .inr rfl
    | some u => exact absurd hp (R.al p (by rw [q]; intro z; cases z))), fun i o => mut_some (R.ownF o).2.2.1 hp⟩

def vTup (l : WL) : WE := fun env K => l env fun ds e => ds.length ≤ 16777216 ∧ K (.sh (.tup ds)) e
def vLst (l : WL) : WE := fun env K => l env fun ds e => ds.length ≤ 16777216 ∧ K (.ow (.lst ds)) e
theorem sizeLine_is : sizeLine = 16777216 := sizeLine_eq
def tTupS (t : TA) : TE := fun σ H Q => t σ H fun xs H1 => xs.length ≤ sizeLine ∧ ∀ p ob, H1 p = none → ob.dict = none → Q (.ref p) (upd H1 p (.frz ob (.tup xs)))
theorem pe_tupS {t : TA} {x1 : _} (h : PA X es t) : PE X (.Tuple es x1 pos) (tTupS t) := by
  refine ⟨fun pins s σ H Q I hq => ?_⟩
  refine wpAny_Tuple_spliced (thn (h.run pos pins s σ H _ I hq) fun us s1 ⟨xs, H1, I1, r, z, q⟩ => ⟨by rw [← r.length]; exact z, ?_⟩)
  have hf : H1 s1.heap.objs.size = none := I1.hok.fresh (Nat.le_refl _)
  refine ⟨.ref s1.heap.objs.size, upd H1 s1.heap.objs.size (.frz _ (.tup xs)), I1.laid (t' := s1.toks) (fun b u e => Heap.get?_push_of_some _ e) (Nat.le_refl _) ⟨Heap.get?_push_size _ rfl, ?_⟩, rfl, q _ _ hf rfl⟩
  exact ⟨z, us, r, ⟨_, Heap.get?_push_size _ rfl, rfl, _, rfl⟩⟩
theorem ev_tup {x1 : _} (h : LV X G es l) : EV X G (.Tuple es x1 pos) (vTup l) :=
  ⟨(pe_tupS h.run).imp fun σ H Q ⟨B, F, env, K, R, w0, c⟩ => ⟨B, F, env, _, R, w0, fun vs H1 ds env1 F1 R1 reps k1 => by
    refine ⟨by rw [reps.len, sizeLine_is]; exact k1.1, fun p ob hp hob => ?_⟩
    exact c _ _ (.sh (.tup ds)) env1 (addF F1 p) (R1.newF hp _) (.at (.inr rfl) (.tup ⟨ob, upd_same, hob⟩ (reps.mono (fun _ h => .inl h) (R1.trNew hp _)))) k1.2⟩⟩
theorem ev_lst (h : LV X G es l) : EV X G (.List es pos) (vLst l) :=
  ⟨(pe_lst h.run).imp fun σ H Q ⟨B, F, env, K, R, w0, c⟩ => ⟨B, F, env, _, R, w0, fun vs H1 ds env1 F1 R1 reps k1 => by
    refine ⟨by rw [reps.len, sizeLine_is]; exact k1.1, fun p hp => ?_⟩
    exact c _ _ (.ow (.lst ds)) env1 F1 (R1.new hp _) (R1.freshRR hp trivial (.lst upd_same (reps.mono (fun _ h => h) (R1.trNew hp _)))) k1.2⟩⟩

/-! ### a def's promise, a call -/
abbrev Fn := List D → (Rv → Prop) → Prop
def Post (G : Gx) (F : Addr → Prop) (H : Hp) (v : V) (H' : Hp) (r : Rv) : Prop :=
  (∀ a, H a ≠ none → ¬ G.T.ad a → H' a = H a) ∧ (∀ a, H a ≠ none → H' a ≠ none) ∧ G.T.ok H' ∧ ∃ F', (∀ a, F a → F' a) ∧ (∀ a, F' a → F a ∨ H a = none) ∧ (∀ a, F' a → H' a ≠ none ∧ ¬ G.T.ad a) ∧
    match r with
    | .sh d => Rep G F' H' v d
    | .ow d => ∃ a, v = .ref a ∧ H a = none ∧ ¬ F' a ∧ ¬ G.T.ad a ∧ Mut (H' a) ∧ Top G F' H' a d
def spV (G : Gx) (n : Nat) (wf : Fn) : Sp := fun vs H Q _ => vs.length = n ∧ ∃ F ds K, FOk G F H ∧ G.T.ok H ∧ RepL G F H vs ds ∧ wf ds K ∧ ∀ v H' r, Post G F H v H' r → K r → Q v H'
theorem Rel.fok (R : Rel G B F env σ H) : FOk G F H := fun a h => R.lF a h
theorem Rel.post (R : Rel G B F env σ H) {r : Rv} (q : Post G F H v H' r) : ∃ F', Rel G B F' env σ H' ∧ RR G B F' env σ H' v r := by
  obtain ⟨k, al, tp, F', f1, f2, f3, m⟩ := q
  have hR : Tr F H H' := .of fun a h => k a (R.lF a h).1 (R.lF a h).2
  have R' : Rel G B F' env σ H' := by
    refine ⟨R.len, fun i d e => ?_, fun i d e => ?_, R.inj, fun a h => f1 a (R.mF a h), fun a h => ?_, fun a h1 h2 h3 => ?_, fun a h => al a (R.al a h), f3, tp⟩
    · obtain ⟨v, s, r⟩ := R.sh i d e
      exact ⟨v, s, r.mono f1 hR⟩
    · obtain ⟨a, s, h1, h2, h3, h4, h5⟩ := R.ow i d e
      have ea := k a (mut_some h3) h2
      refine ⟨a, s, fun z => ?_, h2, by rw [ea]; exact h3, h4.mono2 f1 hR (.of fun b e => by rw [e]; exact ea), h5⟩
      rcases f2 a z with z | z
      · exact h1 z
      · exact mut_some h3 z
    · rcases f2 a h with z | z
      · exact R.nF a z
      · cases q : B.H0 a with
        | none => exact .inr (.inl rfl)
        | some u => exact absurd z (R.al a (by rw [q]; intro y; cases y))
    · rw [k a (R.al a h3) h1]
      exact R.kp a h1 h2 h3
  refine ⟨F', R', ?_⟩
  cases r with
  | sh d => exact m
  | ow d =>
    obtain ⟨a, e, n, h1, h4, h2, h3⟩ := m
    refine ⟨a, e, h1, h4, h2, h3, ?_, fun i o => mut_some (R.ownF o).2.2.1 n⟩
    cases q : B.H0 a with
    | none => exact .inr rfl
    | some u => exact absurd n (R.al a (by rw [q]; intro y; cases y))
def vCall (n : Nat) (wf : Fn) (l : WL) : WE := fun env K => l env fun ds e => ds.length = n ∧ wf ds fun r => K r e
theorem ev_call {k n : Nat} {f : Addr} {fd : FuncData} {ps : List Str} {wf : Fn} {x : Str} {p : Pos} (Fn : FnOk X.prog X.w X.K X.mg X.base CX0 k f fd ps (spV G n wf)) (hr : Room k X.A) (hg : Gl X x) (hm : X.mg x = some (.ref f)) (hk : PySem.W.keepIn X.K (.ref f) = true) (hb : Binds X.K fd ps [])
    (ha : LV X G (e :: es) l) (hdb : (x == ("__debug__" : Str)) = false := by decide) (he : starEach (e :: es) X.env = (false, eval e X.env) :: starEach es X.env := by rfl) (hpl : (backTo pos (starEach es X.env)).any (·.1) = false := by rfl) :
    EV X G (.Call (.Name x p) (e :: es) [] pos) (vCall n wf l) :=
  ⟨(pe_call Fn hr hg hm hk hb .nil pass0 ha.run hdb he hpl).imp fun σ H Q ⟨B, F, env, K, R, w0, c⟩ => ⟨B, F, env, _, R, w0, fun vs H1 ds env1 F1 R1 reps k1 => by
    show spV G n wf (vs ++ []) H1 Q E0
    rw [List.append_nil]
    refine ⟨by rw [reps.len]; exact k1.1, F1, ds, _, R1.fok, R1.tp, reps, k1.2, fun v H' r po kr => ?_⟩
    obtain ⟨F2, R2, rr⟩ := R1.post po
    exact c v H' r env1 F2 R2 rr kr⟩⟩
/-- with defaults: the last ones are given by the def -/
def vCallD (n : Nat) (wf : Fn) (dd : List D) (l : WL) : WE := fun env K => l env fun ds e => (ds ++ dd).length = n ∧ wf (ds ++ dd) fun r => K r e
theorem ev_callD {k n : Nat} {f : Addr} {fd : FuncData} {ps : List Str} {wf : Fn} {x : Str} {p : Pos} {dv : List V} {dd : List D} {dsv : List Value} (Fn : FnOk X.prog X.w X.K X.mg X.base CX0 k f fd ps (spV G n wf)) (hr : Room k X.A) (hg : Gl X x) (hm : X.mg x = some (.ref f)) (hk : PySem.W.keepIn X.K (.ref f) = true) (hb : Binds X.K fd ps dsv) (hv : Vals dv dsv) (hdd : ∀ F H, RepL G F H dv dd)
    (ha : LV X G (e :: es) l) (hdb : (x == ("__debug__" : Str)) = false := by decide) (he : starEach (e :: es) X.env = (false, eval e X.env) :: starEach es X.env := by rfl) (hpl : (backTo pos (starEach es X.env)).any (·.1) = false := by rfl) :
    EV X G (.Call (.Name x p) (e :: es) [] pos) (vCallD n wf dd l) :=
  ⟨(pe_call Fn hr hg hm hk hb hv pass0 ha.run hdb he hpl).imp fun σ H Q ⟨B, F, env, K, R, w0, c⟩ => ⟨B, F, env, _, R, w0, fun vs H1 ds env1 F1 R1 reps k1 => by
    have reps2 := reps.append (hdd F1 H1)
    refine ⟨by rw [reps2.len]; exact k1.1, F1, ds ++ dd, _, R1.fok, R1.tp, reps2, k1.2, fun v H' r po kr => ?_⟩
    obtain ⟨F2, R2, rr⟩ := R1.post po
    exact c v H' r env1 F2 R2 rr kr⟩⟩

/-! ### attributes, properties -/
def vFld (c : Nat) (f : Str) (o : Opd) : WE := fun env K => evO o env fun ra e1 => match getR e1 ra with
  | some (.ins c' fs) => c' = c ∧ match fs.lookup f with
    | some d => K (.sh d) e1
    | none => False
  | _ => False
theorem ev_fld {c : Nat} {f : Str} {o : Opd} (ha : OV X G e o) (hc : Cls X.K (G.C c)) (hn : NoAttr X.K (G.C c) f) (hb : attributeBase e f X.env (eval e X.env) = eval e X.env := by rfl) : EV X G (.Attribute e f pos) (vFld c f o) :=
  ⟨(pe_fld ha.run hb).imp fun σ H Q ⟨B, F, env, K, R, w0, k⟩ => ⟨B, F, env, _, R, w0, fun x H1 ra env1 F1 R1 rep k1 => by
    split at k1
    · rename_i c' fs gx
      obtain ⟨rfl, k2⟩ := k1
      split at k2
      · rename_i d lk
        obtain ⟨a, dx, vs, ea, eh, rf⟩ := (R1.getR rep gx).ins
        obtain ⟨v, lv, rv⟩ := rf.lookup lk
        exact ⟨a, G.C c', dx, vs, v, ea, eh, hc, hn, lv, k v H1 (.sh d) env1 F1 R1 rv k2⟩
      · exact k2.elim
    · exact k1.elim⟩⟩
def vProp (c : Nat) (wf : Fn) (o : WE) : WE := fun env K => o env fun r e1 => match r.d with
  | .ins c' fs => c' = c ∧ wf [.ins c' fs] fun r => K r e1
  | _ => False
theorem ev_prop {c k : Nat} {f : Str} {p g : Addr} {fd : FuncData} {ps : List Str} {wf : Fn} (ha : EV X G e w) (hc : Cls X.K (G.C c)) (hp : PropOf X.K (G.C c) f p g) (Fn : FnOk X.prog X.w X.K X.mg X.base CX0 k g fd ps (spV G 1 wf)) (hr : Room (k + 1) X.A) (hb : Binds X.K fd ps [])
    (hab : attributeBase e f X.env (eval e X.env) = eval e X.env := by rfl) : EV X G (.Attribute e f pos) (vProp c wf w) :=
  ⟨(pe_prop (CX := CX0) (E := E0) ha.run hc hp Fn hr hb .nil pass0 hab).imp fun σ H Q ⟨B, F, env, K, R, w0, k⟩ => ⟨B, F, env, _, R, w0, fun x H1 r env1 F1 R1 rr k1 => by
    obtain ⟨F2, R2, rep, _⟩ := R1.freeze rr
    split at k1
    · rename_i c' fs gx
      obtain ⟨rfl, k2⟩ := k1
      rw [gx] at rep
      obtain ⟨a, dx, vs, ea, eh, rf⟩ := RepP.ins (.inl rep)
      refine ⟨a, dx, vs, ea, eh, ?_⟩
      refine ⟨rfl, F2, [.ins c' fs], _, R2.fok, R2.tp, .cons (ea ▸ rep) .nil, k2, fun v H' r po kr => ?_⟩
      obtain ⟨F3, R3, rr⟩ := R2.post po
      exact k v H' r env1 F3 R3 rr kr
    · exact k1.elim⟩⟩

/-! ### tests -/
def kB (r : Rv) (K : Bool → Ev → Prop) (env : Ev) : Prop := match r with
  | .sh (.bl b) => K b env
  | _ => False
def tvV (w : WE) : WT := fun env K => w env fun r e1 => kB r K e1
theorem kB_some {r : Rv} {K : Bool → Ev → Prop} (h : kB r K env) : ∃ b, r = .sh (.bl b) ∧ K b env := by
  unfold kB at h
  split at h
  · exact ⟨_, rfl, h⟩
  · exact h.elim
theorem rep_bl {b : Bool} (h : Rep G F H v (.bl b)) : v = .bl b := RepP.bl (.inl h)
theorem tv_val (h : EV X G e w) (he : ∀ whole, isTrue e X.env whole = (do let v ← whole; standAt e.pos; holding [v] (truthy v)) := by intro _; rfl) : TV X G e (tvV w) :=
  ⟨(pt_val h.run he).imp fun σ H Q ⟨B, F, env, K, R, w0, k⟩ => ⟨B, F, env, _, R, w0, fun x H1 r env1 F1 R1 rr k1 => by
    obtain ⟨b, rfl, k2⟩ := kB_some k1
    exact ⟨b, rep_bl rr, k b H1 env1 F1 R1 k2⟩⟩⟩
theorem tw_pt {t : WT} (h : TW X G e t) : TV X G e t := ⟨h.run.pt⟩
def tvNot (t : WT) : WT := fun env K => t env fun b e1 => K (!b) e1
def tvAnd (t u : WT) : WT := fun env K => t env fun b e1 => match b with
  | true => u e1 K
  | false => K false e1
def tvOr (t u : WT) : WT := fun env K => t env fun b e1 => match b with
  | true => K true e1
  | false => u e1 K
theorem tv_not {t : WT} (h : TV X G e t) : TV X G (.UnaryOp .Not e pos) (tvNot t) := ⟨(pt_not h.run).imp fun σ H Q ⟨B, F, env, K, R, w0, k⟩ => ⟨B, F, env, _, R, w0, fun b H1 env1 F1 R1 k1 => k (!b) H1 env1 F1 R1 k1⟩⟩
theorem tw_and1 {t : WT} (h : TV X G e t) : TW X G (.BoolOp .And [e] pos) t := ⟨pw_and1 h.run⟩
theorem tw_or1 {t : WT} (h : TV X G e t) : TW X G (.BoolOp .Or [e] pos) t := ⟨pw_or1 h.run⟩
theorem tw_and {t u : WT} {b : Expr} {rest : List Expr} (h : TV X G e t) (g : TW X G (.BoolOp .And (b :: rest) pos) u) : TW X G (.BoolOp .And (e :: b :: rest) pos) (tvAnd t u) :=
  ⟨(pw_and h.run g.run).imp fun σ H Q ⟨B, F, env, K, R, w0, k⟩ => ⟨B, F, env, _, R, w0, fun b H1 env1 F1 R1 k1 => by
    cases b with
    | true => exact iteT ⟨Bs.at F1 H1 env1 σ, F1, env1, K, R1.here, k1, fun b2 H2 env2 F2 R2 k2 => k b2 H2 env2 F2 (R1.trans R2) k2⟩
    | false => exact iteF (k false H1 env1 F1 R1 k1)⟩⟩
theorem tw_or {t u : WT} {b : Expr} {rest : List Expr} (h : TV X G e t) (g : TW X G (.BoolOp .Or (b :: rest) pos) u) : TW X G (.BoolOp .Or (e :: b :: rest) pos) (tvOr t u) :=
  ⟨(pw_or h.run g.run).imp fun σ H Q ⟨B, F, env, K, R, w0, k⟩ => ⟨B, F, env, _, R, w0, fun b H1 env1 F1 R1 k1 => by
    cases b with
    | false => exact iteF ⟨Bs.at F1 H1 env1 σ, F1, env1, K, R1.here, k1, fun b2 H2 env2 F2 R2 k2 => k b2 H2 env2 F2 (R1.trans R2) k2⟩
    | true => exact iteT (k true H1 env1 F1 R1 k1)⟩⟩
/-- .. as values -/
def vNot (w : WE) : WE := fun env K => w env fun r e1 => match r with
  | .sh (.bl b) => K (.sh (.bl (!b))) e1
  | _ => False
def vAnd (w u : WE) : WE := fun env K => w env fun r e1 => match r with
  | .sh (.bl true) => u e1 K
  | .sh (.bl false) => K (.sh (.bl false)) e1
  | _ => False
def vOr (w u : WE) : WE := fun env K => w env fun r e1 => match r with
  | .sh (.bl true) => K (.sh (.bl true)) e1
  | .sh (.bl false) => u e1 K
  | _ => False
theorem ev_not (h : EV X G e w) : EV X G (.UnaryOp .Not e pos) (vNot w) := ⟨(pe_not h.run).imp fun σ H Q ⟨B, F, env, K, R, w0, k⟩ => ⟨B, F, env, _, R, w0, fun x H1 r env1 F1 R1 rr k1 => by
  split at k1
  · rename_i b
    exact ⟨b, rep_bl rr, k _ H1 (.sh (.bl !b)) env1 F1 R1 (.bl _) k1⟩
  · exact k1.elim⟩⟩
theorem ev_one {op : _} (h : EV X G e w) : EV X G (.BoolOp op [e] pos) w := ⟨pe_one h.run⟩
theorem ev_and {u : WE} {b : Expr} {rest : List Expr} (h : EV X G e w) (g : EV X G (.BoolOp .And (b :: rest) pos) u) : EV X G (.BoolOp .And (e :: b :: rest) pos) (vAnd w u) :=
  ⟨(pe_and h.run g.run).imp fun σ H Q ⟨B, F, env, K, R, w0, k⟩ => ⟨B, F, env, _, R, w0, fun x H1 r env1 F1 R1 rr k1 => by
    split at k1
    · exact ⟨true, rep_bl rr, iteT ⟨Bs.at F1 H1 env1 σ, F1, env1, K, R1.here, k1, fun b2 H2 r2 env2 F2 R2 rr2 k2 => k b2 H2 r2 env2 F2 (R1.trans R2) (rr2.trans R1 R2) k2⟩⟩
    · exact ⟨false, rep_bl rr, iteF (k _ H1 (.sh (.bl false)) env1 F1 R1 (.bl _) k1)⟩
    · exact k1.elim⟩⟩
theorem ev_or {u : WE} {b : Expr} {rest : List Expr} (h : EV X G e w) (g : EV X G (.BoolOp .Or (b :: rest) pos) u) : EV X G (.BoolOp .Or (e :: b :: rest) pos) (vOr w u) :=
  ⟨(pe_or h.run g.run).imp fun σ H Q ⟨B, F, env, K, R, w0, k⟩ => ⟨B, F, env, _, R, w0, fun x H1 r env1 F1 R1 rr k1 => by
    split at k1
    · exact ⟨true, rep_bl rr, iteT (k _ H1 (.sh (.bl true)) env1 F1 R1 (.bl _) k1)⟩
    · exact ⟨false, rep_bl rr, iteF ⟨Bs.at F1 H1 env1 σ, F1, env1, K, R1.here, k1, fun b2 H2 r2 env2 F2 R2 rr2 k2 => k b2 H2 r2 env2 F2 (R1.trans R2) (rr2.trans R1 R2) k2⟩⟩
    · exact k1.elim⟩⟩
def vIf (t : WT) (w u : WE) : WE := fun env K => t env fun b e1 => match b with
  | true => w e1 K
  | false => u e1 K
theorem ev_if {t : WT} {u : WE} {c b : Expr} (hc : TV X G c t) (h : EV X G e w) (g : EV X G b u) : EV X G (.IfExp c e b pos) (vIf t w u) :=
  ⟨(pe_ifExp hc.run h.run g.run).imp fun σ H Q ⟨B, F, env, K, R, w0, k⟩ => ⟨B, F, env, _, R, w0, fun b H1 env1 F1 R1 k1 => by
    cases b with
    | true => exact iteT ⟨Bs.at F1 H1 env1 σ, F1, env1, K, R1.here, k1, fun b2 H2 r2 env2 F2 R2 rr2 k2 => k b2 H2 r2 env2 F2 (R1.trans R2) (rr2.trans R1 R2) k2⟩
    | false => exact iteF ⟨Bs.at F1 H1 env1 σ, F1, env1, K, R1.here, k1, fun b2 H2 r2 env2 F2 R2 rr2 k2 => k b2 H2 r2 env2 F2 (R1.trans R2) (rr2.trans R1 R2) k2⟩⟩⟩
end
end PV
end
section
set_option autoImplicit false
set_option linter.all false
set_option maxRecDepth 100000
namespace PV
open PySem PySem.Spec PyProof.Rows L2

structure K4 where
  nx : Ev → Prop
  rt : Rv → Prop
  bk : Ev → Prop := fun _ => False
  ct : Ev → Prop := fun _ => False
abbrev WS := K4 → Ev → Prop
structure EndsOk (G : Gx) (B : Bs) (k : K4) (D : Ends) : Prop where
  nx : ∀ σ H env F, Rel G B F env σ H → k.nx env → D.nx σ H
  rt : ∀ v σ H r env F, Rel G B F env σ H → RR G B F env σ H v r → k.rt r → D.rt v H
  bk : ∀ σ H env F, Rel G B F env σ H → k.bk env → D.bk σ H
  ct : ∀ σ H env F, Rel G B F env σ H → k.ct env → D.ct σ H
def tS (G : Gx) (w : WS) : TS := fun D σ H => ∃ B F env k, Rel G B F env σ H ∧ w k env ∧ EndsOk G B k D
structure SV (X : Cx) (G : Gx) (st : Stmt) (w : WS) : Prop where
  run : PS X st (tS G w)
structure SSV (X : Cx) (G : Gx) (sts : List Stmt) (w : WS) : Prop where
  run : PSs X sts (tS G w)
/-- targets -/
abbrev WG := D → Ev → (Ev → Prop) → Prop
def Only (is : List Nat) (σ σ' : L2.St) : Prop := σ'.length = σ.length ∧ ∀ (j : Nat), j ∉ is → σ'[j]? = σ[j]?
def tG (G : Gx) (g : WG) (is : List Nat) : TG := fun v σ H Q => ∃ B F env d K, Rel G B F env σ H ∧ Rep G F H v d ∧ g d env K ∧ ∀ σ' H' env' F', Rel G B F' env' σ' H' → Only is σ σ' → K env' → Q σ' H'
structure GV (X : Cx) (G : Gx) (tg : Expr) (g : WG) (is : List Nat) : Prop where
  run : PG X tg (tG G g is)
theorem _root_.L2.PG.imp {X : Cx} {e : Expr} {t t' : TG} (h : PG X e t) (i : ∀ v σ H Q, t' v σ H Q → t v σ H Q) : PG X e t' := ⟨fun pins s σ H v u Q I r q => h.run pins s σ H v u Q I r (i v σ H Q q)⟩

section
variable {X : Cx} {G : Gx} {B : Bs} {F F' : Addr → Prop} {env env' : Ev} {σ σ' : L2.St} {H H' : Hp} {v : V} {d : D} {a : Addr} {i : Nat} {e : Expr} {es : List Expr} {pos : Pos} {w : WE} {l : WL} {st : Stmt} {rest : List Stmt}

theorem EndsOk.sub {k : K4} {D : Ends} (E : EndsOk G B k D) (R : Rel G B F env σ H) : EndsOk G (Bs.at F H env σ) k D :=
  ⟨fun _ _ _ _ S h => E.nx _ _ _ _ (R.trans S) h, fun _ _ _ _ _ _ S r h => E.rt _ _ _ _ _ _ (R.trans S) (r.trans R S) h, fun _ _ _ _ S h => E.bk _ _ _ _ (R.trans S) h, fun _ _ _ _ S h => E.ct _ _ _ _ (R.trans S) h⟩

def sNil : WS := fun k env => k.nx env
def sSeq (w u : WS) : WS := fun k env => w { k with nx := u k } env
theorem ssv_nil : SSV X G [] sNil := ⟨pss_nil.imp fun D σ H ⟨B, F, env, k, R, w, E⟩ => E.nx _ _ _ _ R w⟩
theorem ssv_cons {w u : WS} (h : SV X G st w) (t : SSV X G rest u) : SSV X G (st :: rest) (sSeq w u) :=
  ⟨(pss_cons h.run t.run).imp fun D σ H ⟨B, F, env, k, R, w0, E⟩ => ⟨B, F, env, _, R, w0, ⟨fun σ' H' env' F' R' h => ⟨B, F', env', k, R', h, E⟩, E.rt, E.bk, E.ct⟩⟩⟩
theorem ssv_one {w : WS} (h : SV X G st w) : SSV X G [st] w := ⟨pss_one h.run⟩
theorem sv_pass : SV X G (.Pass pos) sNil := ⟨ps_pass.imp fun D σ H ⟨B, F, env, k, R, w, E⟩ => E.nx _ _ _ _ R w⟩
def sBreak : WS := fun k env => k.bk env
def sCont : WS := fun k env => k.ct env
theorem sv_break : SV X G (.Break pos) sBreak := ⟨ps_break.imp fun D σ H ⟨B, F, env, k, R, w, E⟩ => E.bk _ _ _ _ R w⟩
theorem sv_continue : SV X G (.Continue pos) sCont := ⟨ps_continue.imp fun D σ H ⟨B, F, env, k, R, w, E⟩ => E.ct _ _ _ _ R w⟩
def sNever : WS := fun _ _ => False
theorem sv_never : SV X G st sNever := ⟨ps_never.imp fun D σ H ⟨B, F, env, k, R, w, E⟩ => w⟩
def sExpr (w : WE) : WS := fun k env => w env fun _ e => k.nx e
theorem sv_expr (h : EV X G e w) (hs : swapsWith e none pos.line X.env = pure false := by rfl) : SV X G (.Expr e pos) (sExpr w) :=
  ⟨(ps_expr h.run hs).imp fun D σ H ⟨B, F, env, k, R, w0, E⟩ => ⟨B, F, env, _, R, w0, fun v H' r env' F' R' _ q => E.nx _ _ _ _ R' q⟩⟩
def sRet (w : WE) : WS := fun k env => w env fun r _ => k.rt r
theorem sv_ret (h : EV X G e w) : SV X G (.Return (some e) pos) (sRet w) :=
  ⟨(ps_ret h.run).imp fun D σ H ⟨B, F, env, k, R, w0, E⟩ => ⟨B, F, env, _, R, w0, fun v H' r env' F' R' rr q => E.rt _ _ _ _ _ _ R' rr q⟩⟩
def sRetN : WS := fun k _ => k.rt (.sh .non)
theorem sv_retN : SV X G (.Return none pos) sRetN := ⟨ps_retN.imp fun D σ H ⟨B, F, env, k, R, w0, E⟩ => E.rt _ _ _ (.sh .non) _ _ R .non w0⟩
def sIf (t : WT) (w u : WS) : WS := fun k env => t env fun b e => match b with
  | true => w k e
  | false => u k e
theorem sv_if {t : WT} {c : Expr} {a b : List Stmt} {w u : WS} (hc : TV X G c t) (ha : SSV X G a w) (hb : SSV X G b u) : SV X G (.If c a b pos) (sIf t w u) :=
  ⟨(ps_if hc.run ha.run hb.run).imp fun D σ H ⟨B, F, env, k, R, w0, E⟩ => ⟨B, F, env, _, R, w0, fun b H' env' F' R' q => by
    cases b with
    | true => exact iteT ⟨B, F', env', k, R', q, E⟩
    | false => exact iteF ⟨B, F', env', k, R', q, E⟩⟩⟩

/-! ### targets -/
def gN (i : Nat) : WG := fun d env K => K (env.set i (.sh d))
theorem gv_name {x : Str} (hN : X.N.Nodup) (hi : X.N[i]? = some x) (hx : Loc X.env.scope x) (hf : X.fn x = true ∨ X.env.scope.names.lookup x = some .local := by first | exact .inl rfl | exact .inr rfl | assumption) : GV X G (.Name x pos) (gN i) [i] :=
  ⟨(pg_name hN hi hx hf).imp fun v σ H Q ⟨B, F, env, d, K, R, r, w0, c⟩ => c _ _ _ F (R.store (i := i) (r := .sh d) r) ⟨List.length_set .., fun j hj => get_set_ne (fun e => hj (by simp [e]))⟩ w0⟩
/-- the names of a tuple's target, from the left -/
def setAll : Ev → List Nat → List D → Ev
  | env, i :: is, d :: ds => setAll (env.set i (.sh d)) is ds
  | env, _, _ => env
def tGs (G : Gx) (is : List Nat) : TGs := fun vs σ H Q => ∃ (B : Bs) (F : Addr → Prop) (env : Ev) (ds : List D) (K : Ev → Prop), Rel G B F env σ H ∧ RepL G F H vs ds ∧ ds.length = is.length ∧ K (setAll env is ds) ∧ ∀ σ' H' env' F', Rel G B F' env' σ' H' → Only is σ σ' → K env' → Q σ' H'
structure GsV (X : Cx) (G : Gx) (tgs : List Expr) (is : List Nat) : Prop where
  run : PGs X tgs (tGs G is)
theorem _root_.L2.PGs.imp {X : Cx} {e : List Expr} {t t' : TGs} (h : PGs X e t) (i : ∀ v σ H Q, t' v σ H Q → t v σ H Q) : PGs X e t' := ⟨fun pins s σ H v u Q I r q => h.run pins s σ H v u Q I r (i v σ H Q q)⟩
theorem gsv_nil : GsV X G [] [] := ⟨pgs_nil.imp fun vs σ H Q ⟨B, F, env, ds, K, R, r, l, k, c⟩ => by
  cases r with
  | nil => exact ⟨rfl, c _ _ _ _ R ⟨rfl, fun _ _ => rfl⟩ k⟩
  | cons _ _ => cases l⟩
theorem gsv_cons {x : Str} {is : List Nat} {tgs : List Expr} (hN : X.N.Nodup) (hi : X.N[i]? = some x) (hx : Loc X.env.scope x) (t : GsV X G tgs is) (hf : X.fn x = true ∨ X.env.scope.names.lookup x = some .local := by first | exact .inl rfl | exact .inr rfl | assumption)
    (hs : (assignEach (.Name x pos :: tgs) X.env).map (·.2) = assign (.Name x pos) X.env :: (assignEach tgs X.env).map (·.2) := by rfl) : GsV X G (.Name x pos :: tgs) (i :: is) :=
  ⟨(pgs_cons (pg_name hN hi hx hf) t.run hs).imp fun vs σ H Q ⟨B, F, env, ds, K, R, r, l, k, c⟩ => by
    cases r with
    | nil => cases l
    | cons r t => exact ⟨_, _, rfl, B, F, _, _, K, R.store (i := i) (r := .sh _) r, t, by simpa using l, k, fun σ' H' env' F' R' o k' => c σ' H' env' F' R' ⟨by rw [o.1, List.length_set], fun j hj => by rw [o.2 j fun z => hj (List.mem_cons_of_mem _ z)]; exact get_set_ne fun e => hj (by simp [e])⟩ k'⟩⟩
def gT (is : List Nat) : WG := fun d env K => match d with
  | .tup ds => ds.length = is.length ∧ K (setAll env is ds)
  | .tupW ds => ds.length = is.length ∧ K (setAll env is ds)
  | _ => False
theorem Rep.tupW {xs : List D} (h : Rep G F H v (.tupW xs)) : ∃ a vs, v = .ref a ∧ H a = some (.tup vs) ∧ RepL G F H vs xs := by
  cases h with
  | «at» f t =>
    cases t with
    | tupW r l => exact ⟨_, _, rfl, r, l⟩
theorem gv_tup {is : List Nat} {k : Nat} {n : Nat} (hc : X.calm = true) (h : GsV X G es is) (hl : is.length = n := by rfl)
    (hn : (assignEach es X.env).length = n := by rfl) (hst : (assignEach es X.env).findIdx? (·.1) = none := by rfl) : GV X G (.Tuple es k pos) (gT is) is :=
  ⟨(pg_tup hc h.run hn hst).imp fun v σ H Q ⟨B, F, env, d, K, R, r, w0, c⟩ => by
    unfold gT at w0
    split at w0
    · rename_i ds
      obtain ⟨a, vs, ea, rd, rl, _⟩ := RepP.tup (.inl r)
      exact ⟨a, vs, ea, rd.sq, by rw [rl.len, w0.1, hl], B, F, env, ds, K, R, rl, w0.1, w0.2, c⟩
    · rename_i ds
      obtain ⟨a, vs, ea, rd, rl⟩ := Rep.tupW r
      exact ⟨a, vs, ea, .inl (.inl rd), by rw [rl.len, w0.1, hl], B, F, env, ds, K, R, rl, w0.1, w0.2, c⟩
    · exact w0.elim⟩

/-! ### assignments -/
def sSet (i : Nat) (w : WE) : WS := fun k env => w env fun r e => k.nx (e.set i r.sl)
theorem sv_set {x : Str} {pos' : Pos} (hN : X.N.Nodup) (hi : X.N[i]? = some x) (hx : Loc X.env.scope x) (h : EV X G e w) (hs : swapsWith e (some (.Name x pos')) pos.line X.env = pure false := by rfl) (hf : X.fn x = true ∨ X.env.scope.names.lookup x = some .local := by first | exact .inl rfl | exact .inr rfl | assumption) :
    SV X G (.Assign [.Name x pos'] e pos) (sSet i w) :=
  ⟨(ps_set hN hi hx h.run hs hf).imp fun D σ H ⟨B, F, env, k, R, w0, E⟩ => ⟨B, F, env, _, R, w0, fun v H' r env' F' R' rr q => E.nx _ _ _ _ (R'.store rr) q⟩⟩
/-- target = value, the value out of hand -/
def sAsg (g : WG) (w : WE) : WS := fun k env => w env fun r e => g r.d e k.nx
theorem sv_asg {g : WG} {is : List Nat} {tg : Expr} (h : EV X G e w) (hg : GV X G tg g is) (hs : swapsWithSole [tg] e pos.line X.env = pure false := by rfl) (hw : swappedStores [tg] e X.env = pure none := by rfl)
    (h1 : (assignEach [tg] X.env).map (·.2) = [assign tg X.env] := by rfl) : SV X G (.Assign [tg] e pos) (sAsg g w) :=
  ⟨(ps_asg h.run hg.run hs hw h1).imp fun D σ H ⟨B, F, env, k, R, w0, E⟩ => ⟨B, F, env, _, R, w0, fun v H' r env' F' R' rr q => by
    obtain ⟨F2, R2, rep, _⟩ := R'.freeze rr
    exact ⟨B, F2, env', r.d, k.nx, R2, rep, q, fun σ' H' env' F' R' _ h => E.nx _ _ _ _ R' h⟩⟩⟩

/-! ### several values in hand at once -/
inductive RRs (G : Gx) (B : Bs) (F : Addr → Prop) (env : Ev) (σ : L2.St) (H : Hp) : List V → List Rv → Prop
  | nil : RRs G B F env σ H [] []
  | cons {v : V} {r : Rv} {vs : List V} {rs : List Rv} : RR G B F env σ H v r → (∀ (d : D) (a : Addr), r = .ow d → v = .ref a → ∀ (i : Nat) (d' : D), rs[i]? = some (.ow d') → vs[i]? ≠ some (.ref a)) → RRs G B F env σ H vs rs → RRs G B F env σ H (v :: vs) (r :: rs)
theorem RR.keep (R : Rel G B F env σ H) (S : Rel G (Bs.at F H env σ) F' env' σ' H') {r : Rv} (q : RR G B F env σ H v r) : RR G B F' env' σ' H' v r := by
  cases r with
  | sh d => exact R.rep S q
  | ow d =>
    obtain ⟨a, e, h1, h2, h3, h4, h5, h6⟩ := q
    have no : ¬ (Bs.at F H env σ).O0 a := fun ⟨j, o⟩ => h6 j o
    have ea : H' a = H a := S.kp a h2 no (mut_some h3)
    refine ⟨a, e, fun z => ?_, h2, by rw [ea]; exact h3, h4.mono2 S.mF (.of fun b h => R.frame S h) (.of fun b e => by rw [e]; exact ea), h5, fun i o => ?_⟩
    · rcases S.nF a z with z | z | z
      · exact h1 z
      · exact mut_some h3 z
      · exact no z
    · rcases (S.ownF o).2.2.2 with z | z
      · exact no z
      · exact mut_some h3 z
abbrev WM := Ev → (List Rv → Ev → Prop) → Prop
def tM (G : Gx) (w : WM) : TA := fun σ H Q => ∃ B F env K, Rel G B F env σ H ∧ w env K ∧ ∀ vs H' rs env' F', Rel G B F' env' σ H' → RRs G B F' env' σ H' vs rs → K rs env' → Q vs H'
structure MV (X : Cx) (G : Gx) (es : List Expr) (w : WM) : Prop where
  run : PA X es (tM G w)
def mNil : WM := fun env K => K [] env
def mCons (w : WE) (l : WM) : WM := fun env K => w env fun r e1 => l e1 fun rs e2 => K (r :: rs) e2
theorem mv_nil : MV X G [] mNil := ⟨pa_nil.imp fun σ H Q ⟨B, F, env, K, R, w, c⟩ => c [] H [] env F R .nil w⟩
theorem RRs.trans (R : Rel G B F env σ H) (S : Rel G (Bs.at F H env σ) F' env' σ H') : ∀ {vs : List V} {rs : List Rv}, RRs G (Bs.at F H env σ) F' env' σ H' vs rs → RRs G B F' env' σ H' vs rs
  | _, _, .nil => .nil
  | _, _, .cons r a t => .cons (r.trans R S) a (RRs.trans R S t)
theorem RRs.apart (no : ¬ (Bs.at F H env σ).O0 a) (ha : H a ≠ none) : ∀ {vs : List V} {rs : List Rv}, RRs G (Bs.at F H env σ) F' env' σ H' vs rs → ∀ (i : Nat) (d' : D), rs[i]? = some (.ow d') → vs[i]? ≠ some (.ref a)
  | _, _, .nil, i, d', e => by simp at e
  | _, _, .cons r _ t, 0, d', e => by
    simp at e
    subst e
    obtain ⟨b, eb, _, _, _, _, h5, _⟩ := r
    intro z
    simp at z
    rw [eb] at z
    cases z
    rcases h5 with h5 | h5
    · exact no h5
    · exact ha h5
  | _, _, .cons _ _ t, i + 1, d', e => by
    have := RRs.apart no ha t i d' (by simpa using e)
    simpa using this
theorem mv_cons {m : WM} (h : EV X G e w) (t : MV X G es m) (hs : starEach (e :: es) X.env = (false, eval e X.env) :: starEach es X.env := by rfl) : MV X G (e :: es) (mCons w m) :=
  ⟨(pa_cons h.run t.run hs).imp fun σ H Q ⟨B, F, env, K, R, w0, c⟩ => ⟨B, F, env, _, R, w0, fun v H1 r env1 F1 R1 rr1 k1 =>
    ⟨Bs.at F1 H1 env1 σ, F1, env1, _, R1.here, k1, fun vs H2 rs env2 F3 R3 reps k2 =>
      c (v :: vs) H2 (r :: rs) env2 F3 (R1.trans R3) (.cons (RR.keep R1 R3 rr1) (fun d a er ev i d' e => by
        subst er
        subst ev
        obtain ⟨b, eb, _, h2, h3, _, _, h6⟩ := rr1
        cases eb
        exact RRs.apart (fun ⟨j, o⟩ => h6 j o) (mut_some h3) reps i d' e) (RRs.trans R1 R3 reps)) k2⟩⟩⟩
/-- storing one leaves the others in hand -/
theorem RR.store {r : Rv} {u : V} {q : Rv} (hr : RR G B F env σ H v r) (hd : ∀ d a, q = .ow d → u = .ref a → ∀ d', r = .ow d' → v ≠ .ref a) : RR G B F (env.set i q.sl) (σ.set i (some u)) H v r := by
  cases r with
  | sh d => exact hr
  | ow d =>
    obtain ⟨a, e, h1, h2, h3, h4, h5, h6⟩ := hr
    refine ⟨a, e, h1, h2, h3, h4, h5, ?_⟩
    rintro j ⟨⟨dj, ej⟩, sj⟩
    by_cases hj : j = i
    · subst hj
      have hi : j < (env.set j q.sl).length := lt_of_get ej
      rw [List.length_set] at hi
      have hi2 : j < (σ.set j (some u)).length := lt_of_get sj
      rw [List.length_set] at hi2
      rw [List.getElem?_set_self hi] at ej
      rw [List.getElem?_set_self hi2] at sj
      cases q with
      | sh _ => cases ej
      | ow dq =>
        have eu : u = .ref a := by simpa using sj
        exact hd dq a rfl eu d rfl e
    · rw [get_set_ne hj] at ej sj
      exact h6 j ⟨⟨dj, ej⟩, sj⟩
def sPar2 (i j : Nat) (m : WM) : WS := fun k env => m env fun rs e => match rs with
  | [r, q] => k.nx ((e.set i r.sl).set j q.sl)
  | _ => False
theorem sv_par2 {j : Nat} {x y : Str} {a b : Expr} {m : WM} {px py pt : Pos} {kt k2 pt2} (hc : X.calm = true) (hN : X.N.Nodup) (hi : X.N[i]? = some x) (hj : X.N[j]? = some y) (hij : i ≠ j)
    (hx : X.env.scope.names.lookup x = some .local) (hy : X.env.scope.names.lookup y = some .local) (ha : MV X G [a, b] m)
    (hw : swappedStores [.Tuple [.Name x px, .Name y py] kt pt] (.Tuple [a, b] k2 pt2) X.env = pure (some [x, y]) := by rfl)
    (hs : swapsWithSole [.Tuple [.Name x px, .Name y py] kt pt] (.Tuple [a, b] k2 pt2) pos.line X.env = pure false := by rfl) :
    SV X G (.Assign [.Tuple [.Name x px, .Name y py] kt pt] (.Tuple [a, b] k2 pt2) pos) (sPar2 i j m) :=
  ⟨(ps_par hc hN hi hj hij hx hy ha.run hw hs).imp fun D σ H ⟨B, F, env, k, R, w0, E⟩ => ⟨B, F, env, _, R, w0, fun vs H' rs env' F' R' rrs q => by
    split at q
    · rename_i r1 r2
      cases rrs with
      | cons h1 a1 t =>
        cases t with
        | cons h2 a2 t =>
          cases t
          refine ⟨_, _, rfl, E.nx _ _ _ _ ((R'.store h1).store (h2.store fun d a e1 e2 d' e3 e4 => ?_)) q⟩
          subst e1 e3
          exact a1 d a rfl e2 0 d' rfl (by simp [e4])
    · exact q.elim⟩⟩
def sPar3 (i j l : Nat) (m : WM) : WS := fun k env => m env fun rs e => match rs with
  | [r, q, p] => k.nx (((e.set i r.sl).set j q.sl).set l p.sl)
  | _ => False
theorem sv_par3 {j l : Nat} {x y z : Str} {a b c : Expr} {m : WM} {px py pz pt : Pos} {kt k2 pt2} (hc : X.calm = true) (hN : X.N.Nodup) (hi : X.N[i]? = some x) (hj : X.N[j]? = some y) (hl : X.N[l]? = some z) (hij : i ≠ j) (hil : i ≠ l) (hjl : j ≠ l)
    (hx : X.env.scope.names.lookup x = some .local) (hy : X.env.scope.names.lookup y = some .local) (hz : X.env.scope.names.lookup z = some .local) (ha : MV X G [a, b, c] m)
    (hw : swappedStores [.Tuple [.Name x px, .Name y py, .Name z pz] kt pt] (.Tuple [a, b, c] k2 pt2) X.env = pure (some [x, y, z]) := by rfl)
    (hs : swapsWithSole [.Tuple [.Name x px, .Name y py, .Name z pz] kt pt] (.Tuple [a, b, c] k2 pt2) pos.line X.env = pure false := by rfl) :
    SV X G (.Assign [.Tuple [.Name x px, .Name y py, .Name z pz] kt pt] (.Tuple [a, b, c] k2 pt2) pos) (sPar3 i j l m) :=
  ⟨(ps_par3 hc hN hi hj hl hij hil hjl hx hy hz ha.run hw hs).imp fun D σ H ⟨B, F, env, k, R, w0, E⟩ => ⟨B, F, env, _, R, w0, fun vs H' rs env' F' R' rrs q => by
    split at q
    · rename_i r1 r2 r3
      cases rrs with
      | cons h1 a1 t =>
        cases t with
        | cons h2 a2 t =>
          cases t with
          | cons h3 a3 t =>
            cases t
            refine ⟨_, _, _, rfl, E.nx _ _ _ _ (((R'.store h1).store (h2.store fun d a e1 e2 d' e3 e4 => ?_)).store ((h3.store fun d a e1 e2 d' e3 e4 => ?_).store fun d a e1 e2 d' e3 e4 => ?_)) q⟩
            · subst e1 e3
              exact a1 d a rfl e2 0 d' rfl (by simp [e4])
            · subst e1 e3
              exact a1 d a rfl e2 1 d' rfl (by simp [e4])
            · subst e1 e3
              exact a2 d a rfl e2 0 d' rfl (by simp [e4])
    · exact q.elim⟩⟩

/-! ### a def -/
def env0 (n : Nat) (ds : List D) : Ev := ds.map .sh ++ List.replicate (n - ds.length) .no
/-- what a def computes: N slots, the body -/
def fnV (N : Nat) (w : WS) : Fn := fun ds K => w { nx := fun _ => K (.sh .non), rt := K } (env0 N ds)
theorem rel0 {N : List Str} {vs : List V} {ds : List D} (f : FOk G F H) (tp : G.T.ok H) (r : RepL G F H vs ds) : Rel G ⟨F, H, fun _ => False⟩ F (env0 N.length ds) (L2.start N vs) H := by
  have hno : ∀ (i : Nat) (d : D), (env0 N.length ds)[i]? ≠ some (.ow d) := fun i d e => by
    unfold env0 at e
    by_cases hi : i < (ds.map Sl.sh).length
    · rw [List.getElem?_append_left hi, List.getElem?_map] at e
      cases q : ds[i]? with
      | none => rw [q] at e; cases e
      | some x => rw [q] at e; cases e
    · rw [List.getElem?_append_right (by omega), List.getElem?_replicate] at e
      split at e <;> cases e
  refine ⟨by unfold env0 L2.start; simp [r.len], fun i d e => ?_, fun i d e => absurd e (hno i d), fun i j a ⟨⟨d, e⟩, _⟩ => absurd e (hno i d), fun _ h => h, fun _ h => .inl h, fun _ _ _ _ => rfl, fun _ h => h, f, tp⟩
  unfold env0 at e
  by_cases hi : i < (ds.map Sl.sh).length
  · rw [List.getElem?_append_left hi, List.getElem?_map] at e
    cases q : ds[i]? with
    | none => rw [q] at e; cases e
    | some x =>
      rw [q] at e
      have e' : x = d := by simpa using e
      subst e'
      obtain ⟨v, h1, h2⟩ := r.get q
      refine ⟨v, ?_, h2⟩
      unfold L2.start
      have hv : i < (vs.map some).length := by
        rw [List.length_map, r.len]
        rw [List.length_map] at hi
        exact hi
      rw [List.getElem?_append_left hv, List.getElem?_map, h1]
      rfl
  · rw [List.getElem?_append_right (by omega), List.getElem?_replicate] at e
    split at e <;> cases e
theorem fn_ok {P : Program} {w : World} {K : PySem.W.Frag} {mg : Str → Option Value} {base : Heap} {x qual : Str} {st : Stmt} {f : Addr} {fd : FuncData} {N ps : List Str} {k n : Nat} {ws : WS} (Fu : Fun K x qual st f fd) (S : FnScope N ps (defScope st)) (hn : ps.length = n)
    (hbody : ∀ (cdv : Value) (A : Around) (outer : List Env) (s : Shared) (H : Hp) (E : XK), Room k (A.deeper (envOfC qual (defScope st) s.heap.objs.size f cdv)) →
      SSV (cxOf CX0 P w K mg base N qual (defScope st) f cdv A outer s H E).nox G (defBody st) ws) : FnOk P w K mg base CX0 (k + 1) f fd ps (spV G n (fnV N.length ws)) := by
  refine Fu.ok S (fun vs H Q E h => by rw [h.1, hn]) fun cdv A outer s H vs Q E hr h => ?_
  obtain ⟨hl, F, ds, K', fok, tp, reps, hw, c⟩ := h
  refine ⟨_, (hbody cdv A outer s H E hr).run, ⟨F, H, fun _ => False⟩, F, _, _, rel0 fok tp reps, hw, ⟨fun σ' H' env' F' R h => ?_, fun v σ' H' r env' F' R rr h => ?_, fun _ _ _ _ _ h => h, fun _ _ _ _ _ h => h⟩⟩
  · refine c _ _ (.sh .non) ⟨fun a ha hn => R.kp a hn (fun z => z) ha, fun a ha => R.al a ha, R.tp, F', R.mF, fun a ha => (R.nF a ha).elim .inl fun z => z.elim .inr fun z => z.elim, R.lF, .non⟩ h
  · refine c _ _ r ⟨fun a ha hn => R.kp a hn (fun z => z) ha, fun a ha => R.al a ha, R.tp, F', R.mF, fun a ha => (R.nF a ha).elim .inl fun z => z.elim .inr fun z => z.elim, R.lF, ?_⟩ h
    cases r with
    | sh d => exact rr
    | ow d =>
      obtain ⟨a, e, h1, h2, h3, h4, h5, _⟩ := rr
      exact ⟨a, e, h5.elim (fun z => z.elim) id, h1, h2, h3, h4⟩
end
end PV
end
section
set_option autoImplicit false
set_option linter.all false
set_option maxRecDepth 100000
namespace PV
open PySem PySem.Spec PyProof.Rows L2

/-! ### what is walked -/
def ItOk (G : Gx) (F0 : Addr → Prop) (H0 : Hp) (J : It) (items : List D) : Prop :=
  ∀ F H, (∀ a, F0 a → F a) → Tr F0 H0 H → FOk G F H → G.T.ok H → J.stop items.length H ∧ ∀ (i : Nat), i < items.length → J.go i H ∧ ∀ x H', J.yld i H x H' → ∃ d, items[i]? = some d ∧ Res G F H x H' (.sh d)
abbrev WI := Ev → (List D → Ev → Prop) → Prop
def tI (G : Gx) (w : WI) : TI := fun σ H R => ∃ B F env K, Rel G B F env σ H ∧ w env K ∧ ∀ J H' items env' F', Rel G B F' env' σ H' → ItOk G F' H' J items → K items env' → R J H'
structure IV (X : Cx) (G : Gx) (tg iter : Expr) (w : WI) : Prop where
  run : PI X tg iter (tI G w)
theorem _root_.L2.PI.imp {X : Cx} {tg e : Expr} {t t' : TI} (h : PI X tg e t) (i : ∀ σ H Q, t' σ H Q → t σ H Q) : PI X tg e t' := ⟨fun pins s σ H Q I q => h.run pins s σ H Q I (i σ H Q q)⟩

def forL (g : WG) (body : WS) : List D → K4 → Ev → Prop
  | [], k, env => k.nx env
  | x :: xs, k, env => g x env fun e1 => body { nx := forL g body xs k, ct := forL g body xs k, bk := k.nx, rt := k.rt } e1
def sFor (wi : WI) (g : WG) (body : WS) : WS := fun k env => wi env fun items e1 => forL g body items k e1
def whileN (t : WT) (body : WS) : Nat → K4 → Ev → Prop
  | 0, _, _ => False
  | n + 1, k, env => t env fun b e1 => match b with
    | true => body { nx := whileN t body n k, ct := whileN t body n k, bk := k.nx, rt := k.rt } e1
    | false => k.nx e1
def sWhile (t : WT) (body : WS) : WS := fun k env => ∃ n, whileN t body n k env

section
variable {X : Cx} {G : Gx} {B : Bs} {F F' : Addr → Prop} {env env' : Ev} {σ σ' : L2.St} {H H' : Hp} {v : V} {d : D} {a : Addr} {i : Nat} {e : Expr} {es : List Expr} {pos : Pos} {w : WE} {l : WL} {st : Stmt} {rest : List Stmt}

theorem Rel.tr (R : Rel G B F env σ H) (S : Rel G (Bs.at F H env σ) F' env' σ' H') : Tr F H H' := .of fun a h => R.frame S h
theorem sv_for {iter tg : Expr} {body : List Stmt} {wi : WI} {g : WG} {is : List Nat} {wb : WS} (hp : PassesOwn (model X.prog X.w) X.A X.env X.xe) (hc : X.calm = true) (hi : IV X G tg iter wi) (hg : GV X G tg g is) (hb : SSV X G body wb)
    (hs : ∀ x, foldedSetIterable iter X.env x = pure x := by intro _; rfl) : SV X G (.For tg iter body [] pos) (sFor wi g wb) :=
  ⟨(ps_for hp hc hi.run hg.run hb.run hs).imp fun D σ H ⟨B, F, env, k, R, w0, E⟩ => ⟨B, F, env, _, R, w0, fun J H1 items env1 F1 R1 ok k1 => by
    refine ⟨fun i m σ' H' => ∃ F' env', Rel G (Bs.at F1 H1 env1 σ) F' env' σ' H' ∧ m = items.length - i ∧ i ≤ items.length ∧ forL g wb (items.drop i) k env', ⟨_, F1, env1, R1.here, rfl, Nat.zero_le _, k1⟩, ?_⟩
    rintro i m σ2 H2 ⟨F2, env2, R2, rfl, hi, k2⟩
    obtain ⟨stop, go⟩ := ok F2 H2 R2.mF (R1.tr R2) R2.fok R2.tp
    by_cases hlt : i < items.length
    · refine .inr ⟨(go i hlt).1, fun σ' H' => ∃ F' env', Rel G (Bs.at F1 H1 env1 σ) F' env' σ' H' ∧ forL g wb (items.drop (i + 1)) k env', fun σ' H' ⟨F', env', R', q⟩ => ⟨_, ?_, F', env', R', rfl, hlt, q⟩, fun x H' y => ?_⟩
      · omega
      · obtain ⟨d, hd, re⟩ := (go i hlt).2 x H' y
        obtain ⟨F3, R3, rr⟩ := R2.res re
        have ed : items.drop i = d :: items.drop (i + 1) := by
          rw [List.drop_eq_getElem_cons hlt]
          rw [List.getElem?_eq_getElem hlt] at hd
          rw [Option.some.inj hd]
        rw [ed] at k2
        refine ⟨_, F3, env2, d, _, R3, rr, k2, fun σ' H' env' F' R' _ q => ⟨_, F', env', _, R', q, ?_⟩⟩
        have E1 := E.sub R1
        exact ⟨fun _ _ env _ S h => ⟨_, env, S, h⟩, E1.rt, E1.nx, fun _ _ env _ S h => ⟨_, env, S, h⟩⟩
    · have e : i = items.length := by omega
      subst e
      rw [List.drop_length] at k2
      exact .inl ⟨stop, E.nx _ _ _ _ (R1.trans R2) k2⟩⟩⟩
theorem sv_while {c : Expr} {body : List Stmt} {t : WT} {wb : WS} (hp : PassesOwn (model X.prog X.w) X.A X.env X.xe) (hc : TV X G c t) (hb : SSV X G body wb) : SV X G (.While c body [] pos) (sWhile t wb) :=
  ⟨(ps_while hp hc.run hb.run).imp fun D σ H ⟨B, F, env, k, R, ⟨n, w0⟩, E⟩ => by
    refine ⟨fun m σ' H' => ∃ F' env', Rel G B F' env' σ' H' ∧ whileN t wb m k env', ⟨n, F, env, R, w0⟩, ?_⟩
    rintro m σ2 H2 ⟨F2, env2, R2, k2⟩
    cases m with
    | zero => exact k2.elim
    | succ m =>
      refine ⟨B, F2, env2, _, R2, k2, fun b H3 env3 F3 R3 k3 => ?_⟩
      cases b with
      | true =>
        refine iteT ⟨fun σ' H' => ∃ F' env', Rel G B F' env' σ' H' ∧ whileN t wb m k env', fun σ' H' h => ⟨m, Nat.lt_succ_self m, h⟩, B, F3, env3, _, R3, k3, ?_⟩
        exact ⟨fun _ _ env _ S h => ⟨_, env, S, h⟩, E.rt, E.nx, fun _ _ env _ S h => ⟨_, env, S, h⟩⟩
      | false => exact iteF (E.nx _ _ _ _ R3 k3)⟩

/-! ### lists, tuples, ranges -/
/-- the items of a list or a tuple -/
def iSeq (o : WE) : WI := fun env K => o env fun r e1 => match r.d with
  | .lst xs => K xs e1
  | _ => False
def iTp (o : WE) : WI := fun env K => o env fun r e1 => match r.d with
  | .tup xs => K xs e1
  | _ => False
theorem itok_list {K : PySem.W.Frag} {vs : List V} {xs : List D} (f : F a) (r : H a = some (.lst vs)) (rl : RepL G F H vs xs) : ItOk G F H (Itl K a) xs := by
  intro F' H' hF hT hok _
  have r' := hT.eq _ (.lst vs) f (fun z => z) r
  have l := rl.len
  refine ⟨⟨vs, .inl (.inl r'), by rw [l]; exact Nat.le_refl _⟩, fun i hi => ?_⟩
  obtain ⟨v, e1, e2⟩ := rl.get (List.getElem?_eq_getElem hi)
  refine ⟨⟨vs, v, .inl (.inl r'), e1⟩, fun x H2 ⟨e, y⟩ => ⟨xs[i], List.getElem?_eq_getElem hi, ?_⟩⟩
  have q := y vs (.inl (.inl r'))
  rw [e1] at q
  cases q
  subst e
  exact Res.flat (e2.mono hF hT)
theorem itok_tup {K : PySem.W.Frag} {vs : List V} {xs : List D} (f : F a) (r : TupH H a vs) (rl : RepL G F H vs xs) : ItOk G F H (Itt K a) xs := by
  intro F' H' hF hT hok _
  have r' : TupH H' a vs := by
    obtain ⟨ob, r, q⟩ := r
    exact ⟨ob, hT.eq _ _ f (fun z => z) r, q⟩
  have l := rl.len
  refine ⟨⟨vs, r'.sq, by rw [l]; exact Nat.le_refl _⟩, fun i hi => ?_⟩
  obtain ⟨v, e1, e2⟩ := rl.get (List.getElem?_eq_getElem hi)
  refine ⟨⟨vs, v, r'.sq, e1⟩, fun x H2 ⟨e, y⟩ => ⟨xs[i], List.getElem?_eq_getElem hi, ?_⟩⟩
  have q := y vs (r'.sq)
  rw [e1] at q
  cases q
  subst e
  exact Res.flat (e2.mono hF hT)
theorem iv_list {tg : Expr} (h : EV X G e w) : IV X G tg e (iSeq w) :=
  ⟨(pi_list h.run).imp fun σ H Q ⟨B, F, env, K, R, w0, c⟩ => ⟨B, F, env, _, R, w0, fun v H1 r env1 F1 R1 rr k1 => by
    obtain ⟨F2, R2, rep, _⟩ := R1.freeze rr
    split at k1
    · rename_i xs er
      rw [er] at rep
      cases rep with
      | «at» f t =>
        cases t with
        | lst rd rl => exact ⟨_, rfl, ⟨_, .inl (.inl rd)⟩, c _ H1 xs env1 F2 R2 (itok_list f rd rl) k1⟩
    · exact k1.elim⟩⟩
theorem iv_tup {tg : Expr} (h : EV X G e w) : IV X G tg e (iTp w) :=
  ⟨(pi_tup h.run).imp fun σ H Q ⟨B, F, env, K, R, w0, c⟩ => ⟨B, F, env, _, R, w0, fun v H1 r env1 F1 R1 rr k1 => by
    obtain ⟨F2, R2, rep, _⟩ := R1.freeze rr
    split at k1
    · rename_i xs er
      rw [er] at rep
      cases rep with
      | «at» f t =>
        cases t with
        | tup rd rl => exact ⟨_, rfl, ⟨_, rd.sq⟩, c _ H1 xs env1 F2 R2 (itok_tup f rd rl) k1⟩
    · exact k1.elim⟩⟩
def rangeD (lo c : Int) (n : Nat) : List D := (List.range n).map fun (i : Nat) => D.int (lo + (i : Int) * c)
theorem rangeD_get {lo c : Int} {n i : Nat} (h : i < n) : (rangeD lo c n)[i]? = some (.int (lo + (i : Int) * c)) := by
  unfold rangeD
  rw [List.getElem?_map, List.getElem?_range h]
  rfl
theorem rangeD_len {lo c : Int} {n : Nat} : (rangeD lo c n).length = n := by simp [rangeD]
theorem itok_range {lo : Int} {n : Nat} : ItOk G F H (Itr lo n) (rangeD lo 1 n) := by
  intro F' H' hF hT hok _
  refine ⟨by rw [rangeD_len]; exact Nat.le_refl _, fun i hi => ?_⟩
  rw [rangeD_len] at hi
  refine ⟨hi, fun x H2 ⟨e, y⟩ => ⟨_, rangeD_get hi, ?_⟩⟩
  subst e y
  rw [Int.mul_one]
  exact Res.flat (.int _)
theorem itok_rangeC {lo c : Int} {n : Nat} : ItOk G F H (Itc lo c n) (rangeD lo c n) := by
  intro F' H' hF hT hok _
  refine ⟨by rw [rangeD_len]; exact Nat.le_refl _, fun i hi => ?_⟩
  rw [rangeD_len] at hi
  refine ⟨hi, fun x H2 ⟨e, y⟩ => ⟨_, rangeD_get hi, ?_⟩⟩
  subst e y
  exact Res.flat (.int _)
def iRange1 (l : WL) : WI := fun env K => l env fun ds e1 => match ds with
  | [.int j] => (-(2 ^ 62) ≤ j ∧ j < 2 ^ 62) ∧ K (rangeD 0 1 j.toNat) e1
  | _ => False
def iRange2 (l : WL) : WI := fun env K => l env fun ds e1 => match ds with
  | [.int i, .int j] => (-(2 ^ 62) ≤ i ∧ i < 2 ^ 62 ∧ -(2 ^ 62) ≤ j ∧ j < 2 ^ 62) ∧ K (rangeD i 1 (j - i).toNat) e1
  | _ => False
def iRange3 (l : WL) : WI := fun env K => l env fun ds e1 => match ds with
  | [.int i, .int j, .int c] => ∃ n, RgC i j c n ∧ K (rangeD i c n) e1
  | _ => False
theorem rep_int {i : Int} (h : Rep G F H v (.int i)) : v = .int i := RepP.int (.inl h)
theorem iv_range1 {tg a : Expr} {p : Pos} (hg : Gl X "range") (hm : X.mg "range" = none) (h : LV X G [a] l) (hs : starEach [a] X.env = [(false, eval a X.env)] := by rfl) : IV X G tg (.Call (.Name "range" p) [a] [] pos) (iRange1 l) :=
  ⟨(pi_range1 hg hm h.run hs).imp fun σ H Q ⟨B, F, env, K, R, w0, c⟩ => ⟨B, F, env, _, R, w0, fun vs H1 ds env1 F1 R1 reps k1 => by
    split at k1
    · rename_i j
      cases reps with
      | cons r t =>
        cases t
        rw [rep_int r]
        exact ⟨j, rfl, k1.1.1, k1.1.2, c _ H1 _ env1 F1 R1 itok_range k1.2⟩
    · exact k1.elim⟩⟩
theorem iv_range2 {tg a b : Expr} {p : Pos} (hg : Gl X "range") (hm : X.mg "range" = none) (h : LV X G [a, b] l) (hs : starEach [a, b] X.env = [(false, eval a X.env), (false, eval b X.env)] := by rfl) (hs2 : starEach [b] X.env = [(false, eval b X.env)] := by rfl) : IV X G tg (.Call (.Name "range" p) [a, b] [] pos) (iRange2 l) :=
  ⟨(pi_range2 hg hm h.run hs hs2).imp fun σ H Q ⟨B, F, env, K, R, w0, c⟩ => ⟨B, F, env, _, R, w0, fun vs H1 ds env1 F1 R1 reps k1 => by
    split at k1
    · rename_i i j
      cases reps with
      | cons r t =>
        cases t with
        | cons r2 t =>
          cases t
          rw [rep_int r, rep_int r2]
          exact ⟨i, j, rfl, k1.1, c _ H1 _ env1 F1 R1 itok_range k1.2⟩
    · exact k1.elim⟩⟩
theorem iv_range3 {tg a b c : Expr} {p : Pos} (hg : Gl X "range") (hm : X.mg "range" = none) (h : LV X G [a, b, c] l)
    (hs : starEach [a, b, c] X.env = (false, eval a X.env) :: starEach [b, c] X.env := by rfl) (hpl : (backTo pos (starEach [b, c] X.env)).any (·.1) = false := by rfl) : IV X G tg (.Call (.Name "range" p) [a, b, c] [] pos) (iRange3 l) :=
  ⟨(pi_range3 hg hm h.run hs hpl).imp fun σ H Q ⟨B, F, env, K, R, w0, k⟩ => ⟨B, F, env, _, R, w0, fun vs H1 ds env1 F1 R1 reps k1 => by
    split at k1
    · rename_i i j c
      obtain ⟨n, rg, k2⟩ := k1
      cases reps with
      | cons r t =>
        cases t with
        | cons r2 t =>
          cases t with
          | cons r3 t =>
            cases t
            rw [rep_int r, rep_int r2, rep_int r3]
            exact ⟨i, j, c, n, rfl, rg, k _ H1 _ env1 F1 R1 itok_rangeC k2⟩
    · exact k1.elim⟩⟩
def enumD (i : Nat) : List D → List D
  | [] => []
  | x :: xs => .tupW [.int (i : Int), x] :: enumD (i + 1) xs
theorem enumD_get : ∀ {xs : List D} {i j : Nat} {d : D}, xs[i]? = some d → (enumD j xs)[i]? = some (.tupW [.int ((j + i : Nat) : Int), d])
  | [], _, _, _, e => by simp at e
  | x :: xs, 0, j, d, e => by simp at e; subst e; rfl
  | x :: xs, i + 1, j, d, e => by
    have := enumD_get (xs := xs) (i := i) (j := j + 1) (d := d) (by simpa using e)
    show (enumD (j + 1) xs)[i]? = _
    rw [this, show j + 1 + i = j + (i + 1) by omega]
theorem enumD_len : ∀ {xs : List D} {j : Nat}, (enumD j xs).length = xs.length
  | [], _ => rfl
  | x :: xs, j => by simp [enumD, enumD_len]
/-- a new tuple -/
theorem Res.newTupW {vs : List V} {ds : List D} {p : Addr} (hok : FOk G F H) (hp : H p = none) (r : RepL G F H vs ds) : Res G F H (.ref p) (upd H p (.tup vs)) (.sh (.tupW ds)) := by
  refine ⟨fun a h => upd_ne fun e => by rw [e] at h; exact h hp, addF F p, fun _ h => .inl h, fun b h => h.elim .inl fun e => .inr (by subst e; rw [upd_same]; exact ⟨hp, fun z => by cases z⟩), ?_⟩
  exact .at (.inr rfl) (.tupW upd_same (r.mono (fun _ h => .inl h) (.of fun a f => upd_ne fun e => by rw [e] at f; exact (hok _ f).1 hp)))
theorem Res.newTup {vs : List V} {ds : List D} {p : Addr} {ob : Obj} (hok : FOk G F H) (hp : H p = none) (hob : ob.dict = none) (r : RepL G F H vs ds) : Res G F H (.ref p) (upd H p (.frz ob (.tup vs))) (.sh (.tup ds)) := by
  refine ⟨fun a h => upd_ne fun e => by rw [e] at h; exact h hp, addF F p, fun _ h => .inl h, fun b h => h.elim .inl fun e => .inr (by subst e; rw [upd_same]; exact ⟨hp, fun z => by cases z⟩), ?_⟩
  exact .at (.inr rfl) (.tup ⟨ob, upd_same, hob⟩ (r.mono (fun _ h => .inl h) (.of fun a f => upd_ne fun e => by rw [e] at f; exact (hok _ f).1 hp)))
theorem Res.newLst {vs : List V} {ds : List D} {p : Addr} (hok : FOk G F H) (hp : H p = none) (r : RepL G F H vs ds) : Res G F H (.ref p) (upd H p (.lst vs)) (.ow (.lst ds)) :=
  ⟨fun a h => upd_ne fun e => by rw [e] at h; exact h hp, F, fun _ h => h, fun b h => .inl h, p, rfl, hp, fun f => (hok p f).1 hp, by rw [upd_same]; trivial,
    .lst upd_same (r.mono (fun _ h => h) (.of fun a f => upd_ne fun e => by rw [e] at f; exact (hok _ f).1 hp))⟩
theorem itok_enum {K : PySem.W.Frag} {vs : List V} {xs : List D} (f : F a) (r : H a = some (.lst vs)) (rl : RepL G F H vs xs) : ItOk G F H (Ite K a) (enumD 0 xs) := by
  intro F' H' hF hT hok _
  have r' := hT.eq _ (.lst vs) f (fun z => z) r
  have l := rl.len
  refine ⟨⟨vs, .inl (.inl r'), by rw [l, enumD_len]; exact Nat.le_refl _⟩, fun i hi => ?_⟩
  rw [enumD_len] at hi
  obtain ⟨v, e1, e2⟩ := rl.get (List.getElem?_eq_getElem hi)
  refine ⟨⟨vs, v, .inl (.inl r'), e1⟩, fun x H2 ⟨T, x0, ex, hT0, eH, y⟩ => ⟨_, enumD_get (List.getElem?_eq_getElem hi), ?_⟩⟩
  have q := y vs (.inl (.inl r'))
  rw [e1] at q
  cases q
  subst ex eH
  rw [Nat.zero_add]
  exact Res.newTupW hok hT0 (.cons (.int _) (.cons (e2.mono hF hT) .nil))
def iEnumL (l : WL) : WI := fun env K => l env fun ds e1 => match ds with
  | [.lst xs] => K (enumD 0 xs) e1
  | _ => False
theorem iv_enumL {elts : List Expr} {kk : Nat} {tpos p : Pos} (hg : Gl X "enumerate") (hm : X.mg "enumerate" = none) (h : LV X G [e] l) (hs : starEach [e] X.env = [(false, eval e X.env)] := by rfl) : IV X G (.Tuple elts kk tpos) (.Call (.Name "enumerate" p) [e] [] pos) (iEnumL l) :=
  ⟨(pi_enum hg hm h.run hs).imp fun σ H Q ⟨B, F, env, K, R, w0, c⟩ => ⟨B, F, env, _, R, w0, fun vs H1 ds env1 F1 R1 reps k1 => by
    split at k1
    · rename_i xs
      cases reps with
      | cons r t =>
        cases t
        cases r with
        | «at» f t =>
          cases t with
          | lst rd rl => exact ⟨_, _, rfl, .inl (.inl rd), c _ H1 _ env1 F1 R1 (itok_enum f rd rl) k1⟩
    · exact k1.elim⟩⟩

/-! ### list comprehensions -/
def wipeE : Ev → List Nat → Ev
  | env, [] => env
  | env, v :: vs => (wipeE env vs).set v .no
def restE (env : Ev) : List Nat → Ev → Ev
  | [], env' => env'
  | v :: vs, env' => (restE env vs env').set v (env.getD v .no)
theorem Rel.drop1 (R : Rel G B F env σ H) (i : Nat) : Rel G B F (env.set i .no) (σ.set i none) H := by
  refine ⟨by rw [List.length_set, List.length_set]; exact R.len, fun j d e => ?_, fun j d e => ?_, ?_, R.mF, R.nF, R.kp, R.al, R.lF, R.tp⟩
  · by_cases hj : j = i
    · subst hj
      have hi := lt_of_get e
      rw [List.length_set] at hi
      rw [List.getElem?_set_self hi] at e
      cases e
    · rw [get_set_ne hj] at e ⊢
      exact R.sh j d e
  · by_cases hj : j = i
    · subst hj
      have hi := lt_of_get e
      rw [List.length_set] at hi
      rw [List.getElem?_set_self hi] at e
      cases e
    · rw [get_set_ne hj] at e ⊢
      exact R.ow j d e
  · have key : ∀ j b, Own (env.set i .no) (σ.set i none) j b → Own env σ j b := fun j b ⟨⟨dj, ej⟩, sj⟩ => by
      by_cases hj : j = i
      · subst hj
        have hi := lt_of_get ej
        rw [List.length_set] at hi
        rw [List.getElem?_set_self hi] at ej
        cases ej
      · rw [get_set_ne hj] at ej sj
        exact ⟨⟨dj, ej⟩, sj⟩
    exact fun j k b oj ok => R.inj j k b (key j b oj) (key k b ok)
theorem Rel.wiped (R : Rel G B F env σ H) : ∀ vs : List Nat, Rel G B F (wipeE env vs) (wipe σ vs) H
  | [] => R
  | v :: vs => (Rel.wiped R vs).drop1 v
theorem wipeE_length (env : Ev) : ∀ vs : List Nat, (wipeE env vs).length = env.length
  | [] => rfl
  | v :: vs => by unfold wipeE; rw [List.length_set, wipeE_length env vs]
theorem wipeE_out {i : Nat} : ∀ {vs : List Nat}, i ∉ vs → (wipeE env vs)[i]? = env[i]?
  | [], _ => rfl
  | v :: vs, h => by
    unfold wipeE
    rw [get_set_ne (fun e => h (by simp [e])), wipeE_out fun z => h (List.mem_cons_of_mem _ z)]
theorem wipeE_in {i : Nat} : ∀ {vs : List Nat}, i ∈ vs → i < env.length → (wipeE env vs)[i]? = some .no
  | v :: vs, h, hi => by
    unfold wipeE
    by_cases hv : i = v
    · subst hv
      rw [List.getElem?_set_self (by rw [wipeE_length]; exact hi)]
    · rw [get_set_ne hv]
      exact wipeE_in ((List.mem_cons.mp h).resolve_left hv) hi
theorem restE_length (env env' : Ev) : ∀ vs : List Nat, (restE env vs env').length = env'.length
  | [] => rfl
  | v :: vs => by unfold restE; rw [List.length_set, restE_length env env' vs]
theorem restE_out {i : Nat} : ∀ {vs : List Nat}, i ∉ vs → (restE env vs env')[i]? = env'[i]?
  | [], _ => rfl
  | v :: vs, h => by
    unfold restE
    rw [get_set_ne (fun e => h (by simp [e])), restE_out fun z => h (List.mem_cons_of_mem _ z)]
theorem restE_in {i : Nat} (hl : env.length = env'.length) : ∀ {vs : List Nat}, i ∈ vs → i < env.length → (restE env vs env')[i]? = env[i]?
  | v :: vs, h, hi => by
    unfold restE
    by_cases hv : i = v
    · subst hv
      rw [List.getElem?_set_self (by rw [restE_length, ← hl]; exact hi), List.getD_eq_getElem?_getD, List.getElem?_eq_getElem hi]
      rfl
    · rw [get_set_ne hv]
      exact restE_in hl ((List.mem_cons.mp h).resolve_left hv) hi
theorem wipeS_out {σ : L2.St} {i : Nat} : ∀ {vs : List Nat}, i ∉ vs → (wipe σ vs)[i]? = σ[i]?
  | [], _ => rfl
  | v :: vs, h => by
    unfold wipe
    rw [get_set_ne (fun e => h (by simp [e])), wipeS_out fun z => h (List.mem_cons_of_mem _ z)]
/-- behind a comprehension: the slots of its own names are as they were -/
theorem Rel.unwipe {vs : List Nat} (R : Rel G B F env σ H) (S : Rel G (Bs.at F H (wipeE env vs) (wipe σ vs)) F' env' (wipe σ vs) H') : Rel G B F' (restE env vs env') σ H' := by
  have R0 := R.wiped vs
  have S' := R0.trans S
  have hl : env.length = env'.length := by rw [← wipeE_length env vs, R0.len, S.len]
  have out0 : ∀ i a, i ∈ vs → Own env σ i a → ¬ (Bs.at F H (wipeE env vs) (wipe σ vs)).O0 a := fun i a hi o ⟨j, ⟨⟨dj, ej⟩, sj⟩⟩ => by
    by_cases hj : j ∈ vs
    · have hjl : j < env.length := by
        have := lt_of_get ej
        rw [wipeE_length] at this
        exact this
      rw [wipeE_in hj hjl] at ej
      cases ej
    · rw [wipeE_out hj] at ej
      rw [wipeS_out hj] at sj
      have : i = j := R.inj i j a o ⟨⟨dj, ej⟩, sj⟩
      exact hj (this ▸ hi)
  have kpO : ∀ i a, i ∈ vs → Own env σ i a → H' a = H a ∧ ¬ F' a ∧ ∀ j, ¬ Own env' (wipe σ vs) j a := fun i a hi o => by
    have hr := R.ownF o
    refine ⟨S.kp a hr.2.1 (out0 i a hi o) (mut_some hr.2.2.1), fun z => ?_, fun j oj => ?_⟩
    · rcases S.nF a z with z | z | z
      · exact hr.1 z
      · exact mut_some hr.2.2.1 z
      · exact out0 i a hi o z
    · rcases (S.ownF oj).2.2.2 with z | z
      · exact out0 i a hi o z
      · exact mut_some hr.2.2.1 z
  refine ⟨by rw [restE_length, S.len]; exact wipe_length σ vs, fun i d e => ?_, fun i d e => ?_, ?_, S'.mF, S'.nF, S'.kp, S'.al, S'.lF, S'.tp⟩
  · by_cases hi : i ∈ vs
    · have hil : i < env.length := by
        have := lt_of_get e
        rw [restE_length, ← hl] at this
        exact this
      rw [restE_in hl hi hil] at e
      obtain ⟨v, s, r⟩ := R.sh i d e
      exact ⟨v, s, R0.rep S r⟩
    · rw [restE_out hi] at e
      obtain ⟨v, s, r⟩ := S'.sh i d e
      rw [wipeS_out hi] at s
      exact ⟨v, s, r⟩
  · by_cases hi : i ∈ vs
    · have hil : i < env.length := by
        have := lt_of_get e
        rw [restE_length, ← hl] at this
        exact this
      rw [restE_in hl hi hil] at e
      obtain ⟨a, s, h1, h2, h3, h4, h5⟩ := R.ow i d e
      obtain ⟨g1, g2, g3⟩ := kpO i a hi ⟨⟨d, e⟩, s⟩
      exact ⟨a, s, g2, h2, by rw [g1]; exact h3, h4.mono2 S.mF (.of fun b h => R0.frame S h) (.of fun b e => by rw [e]; exact g1), h5⟩
    · rw [restE_out hi] at e
      obtain ⟨a, s, h⟩ := S'.ow i d e
      rw [wipeS_out hi] at s
      exact ⟨a, s, h⟩
  · have key : ∀ j b, Own (restE env vs env') σ j b → (j ∈ vs ∧ Own env σ j b) ∨ (j ∉ vs ∧ Own env' (wipe σ vs) j b) := fun j b ⟨⟨dj, ej⟩, sj⟩ => by
      by_cases hj : j ∈ vs
      · have hil : j < env.length := by
          have := lt_of_get ej
          rw [restE_length, ← hl] at this
          exact this
        rw [restE_in hl hj hil] at ej
        exact .inl ⟨hj, ⟨dj, ej⟩, sj⟩
      · rw [restE_out hj] at ej
        exact .inr ⟨hj, ⟨dj, ej⟩, by rw [wipeS_out hj]; exact sj⟩
    intro j k b oj ok
    rcases key j b oj with ⟨hj, oj⟩ | ⟨hj, oj⟩
    · rcases key k b ok with ⟨hk, ok⟩ | ⟨hk, ok⟩
      · exact R.inj j k b oj ok
      · exact absurd ok ((kpO j b hj oj).2.2 k)
    · rcases key k b ok with ⟨hk, ok⟩ | ⟨hk, ok⟩
      · exact absurd oj ((kpO k b hk ok).2.2 j)
      · exact S.inj j k b oj ok
theorem wipe_get_none {σ : L2.St} {i : Nat} : ∀ {vs : List Nat}, i ∈ vs → ∀ v, (wipe σ vs)[i]? ≠ some (some v) := fun h v e => (wipe_some e).2 h
theorem wipe_eq {σ σ' : L2.St} {vs : List Nat} (hl : σ'.length = σ.length) (h : ∀ (j : Nat), j ∉ vs → σ'[j]? = σ[j]?) : wipe σ' vs = wipe σ vs := by
  apply List.ext_getElem?
  intro j
  by_cases hj : j ∈ vs
  · by_cases hlt : j < σ.length
    · have a : j < (wipe σ' vs).length := by rw [wipe_length, hl]; exact hlt
      have b : j < (wipe σ vs).length := by rw [wipe_length]; exact hlt
      have na : (wipe σ' vs)[j]? = some none := by
        rw [List.getElem?_eq_getElem a]
        cases q : (wipe σ' vs)[j] with
        | none => rfl
        | some v => exact absurd (by rw [List.getElem?_eq_getElem a, q]) (wipe_get_none hj v)
      have nb : (wipe σ vs)[j]? = some none := by
        rw [List.getElem?_eq_getElem b]
        cases q : (wipe σ vs)[j] with
        | none => rfl
        | some v => exact absurd (by rw [List.getElem?_eq_getElem b, q]) (wipe_get_none hj v)
      rw [na, nb]
    · rw [List.getElem?_eq_none (by rw [wipe_length, hl]; omega), List.getElem?_eq_none (by rw [wipe_length]; omega)]
  · rw [wipeS_out hj, wipeS_out hj, h j hj]
theorem wipe_wipe {σ : L2.St} {vs : List Nat} : wipe (wipe σ vs) vs = wipe σ vs := wipe_eq (wipe_length σ vs) fun j hj => wipeS_out hj
def tTs (G : Gx) (t : WT) : TT := tT G t
structure TsV (X : Cx) (G : Gx) (ifs : List Expr) (t : WT) : Prop where
  run : PTs X ifs (tT G t)
theorem _root_.L2.PTs.imp {X : Cx} {e : List Expr} {t t' : TT} (h : PTs X e t) (i : ∀ σ H Q, t' σ H Q → t σ H Q) : PTs X e t' := ⟨fun pins s σ H Q I q => h.run pins s σ H Q I (i σ H Q q)⟩
def tvYes : WT := fun env K => K true env
theorem tsv_nil : TsV X G [] tvYes := ⟨pts_nil.imp fun σ H Q ⟨B, F, env, K, R, w0, k⟩ => k true H env F R w0⟩
theorem tsv_one {t : WT} (h : TV X G e t) : TsV X G [e] t := ⟨pts_one h.run⟩
def lcL (g : WG) (t : WT) (w : WE) (vs : List Nat) : List D → List D → Ev → (List D → Ev → Prop) → Prop
  | [], acc, env, K => K acc env
  | x :: xs, acc, env, K => g x env fun e1 => t e1 fun b e2 => match b with
    | true => w e2 fun r e3 => lcL g t w vs xs (acc ++ [r.d]) (wipeE e3 vs) K
    | false => lcL g t w vs xs acc (wipeE e2 vs) K
def vLc (wi : WI) (g : WG) (t : WT) (w : WE) (vs : List Nat) : WE := fun env K => wi env fun items e1 => items.length ≤ 16777216 ∧ lcL g t w vs items [] (wipeE e1 vs) fun acc e2 => K (.ow (.lst acc)) (restE e1 vs e2)
theorem RR.lst {xs : List D} (h : RR G B F env σ H (.ref a) (.ow (.lst xs))) : ∃ vs, H a = some (.lst vs) ∧ RepL G F H vs xs := by
  obtain ⟨b, e, _, _, mu, t, _, _⟩ := h
  cases e
  cases t with
  | lst rd rl =>
    exact ⟨_, rd, rl⟩
theorem RR.notF {xs : D} (h : RR G B F env σ H (.ref a) (.ow xs)) : ¬ F a ∧ ¬ G.T.ad a ∧ (B.O0 a ∨ B.H0 a = none) ∧ ∀ i, ¬ Own env σ i a := by
  obtain ⟨b, e, h1, h2, _, _, h5, h6⟩ := h
  cases e
  exact ⟨h1, h2, h5, h6⟩
/-- an object in hand is changed -/
theorem Rel.pend {o : HO} (R : Rel G B F env σ H) (h1 : ¬ F a) (h2 : ¬ G.T.ad a) (h3 : B.O0 a ∨ B.H0 a = none) (h4 : ∀ i, ¬ Own env σ i a) : Rel G B F env σ (upd H a o) := by
  have ne : ∀ b, F b → b ≠ a := fun b h z => h1 (z ▸ h)
  have hR : Tr F H (upd H a o) := .of fun b h => upd_ne (ne b h)
  refine ⟨R.len, fun j d2 e' => ?_, fun j d2 e' => ?_, R.inj, R.mF, R.nF, fun c g1 g2 g3 => ?_, fun c g => ?_, fun c g => ?_, ?_⟩
  · obtain ⟨v, s2, r⟩ := R.sh j d2 e'
    exact ⟨v, s2, r.mono (fun _ z => z) hR⟩
  · obtain ⟨c, s2, g1, g2, g3, g4, g5⟩ := R.ow j d2 e'
    have hc : c ≠ a := fun z => by
      subst z
      exact h4 j ⟨⟨d2, e'⟩, s2⟩
    exact ⟨c, s2, g1, g2, by rw [upd_ne hc]; exact g3, g4.mono2 (fun _ z => z) hR (.of fun b e => by rw [e]; exact upd_ne hc), g5⟩
  · have hc : c ≠ a := fun z => by
      subst z
      rcases h3 with z | z
      · exact g2 z
      · exact g3 z
    rw [upd_ne hc]
    exact R.kp c g1 g2 g3
  · by_cases hc : c = a
    · subst hc
      rw [upd_same]
      intro z
      cases z
    · rw [upd_ne hc]
      exact R.al c g
  · rw [upd_ne (ne c g)]
    exact R.lF c g
  · refine G.T.st H _ (fun c g => ?_) R.tp
    have hc : c ≠ a := fun z => h2 (z ▸ g)
    rw [upd_ne hc]
theorem own_wipe {vs : List Nat} (h : Own (wipeE env vs) (wipe σ vs) i a) : Own env σ i a := by
  obtain ⟨⟨d, e⟩, s⟩ := h
  by_cases hi : i ∈ vs
  · exact absurd s (wipe_get_none hi _)
  · rw [wipeE_out hi] at e
    rw [wipeS_out hi] at s
    exact ⟨⟨d, e⟩, s⟩
theorem own_rest {vs : List Nat} (hl : env.length = env'.length) (h : Own (restE env vs env') σ i a) : Own env σ i a ∨ Own env' (wipe σ vs) i a := by
  obtain ⟨⟨d, e⟩, s⟩ := h
  by_cases hi : i ∈ vs
  · have hil : i < env.length := by
      have := lt_of_get e
      rw [restE_length, ← hl] at this
      exact this
    rw [restE_in hl hi hil] at e
    exact .inl ⟨⟨d, e⟩, s⟩
  · rw [restE_out hi] at e
    exact .inr ⟨⟨d, e⟩, by rw [wipeS_out hi]; exact s⟩
theorem RR.wiped {vs : List Nat} {d : D} (h : RR G B F env σ H v (.ow d)) : RR G B F (wipeE env vs) (wipe σ vs) H v (.ow d) := by
  obtain ⟨b, e, h1, h2, h3, h4, h5, h6⟩ := h
  exact ⟨b, e, h1, h2, h3, h4, h5, fun i o => h6 i (own_wipe o)⟩
theorem ev_lc {elt tg iter : Expr} {ifs : List Expr} {scope : Scope} {own : List (Str × Nat)} {wi : WI} {g : WG} {is : List Nat} {t : WT} {wt : WE} (hc : X.calm = true) (hN : X.N.Nodup) (hi : IV X G tg iter wi) (ok : BlkOk X.N X.env.scope scope own) (hsub : ∀ i ∈ is, i ∈ own.map (·.2))
    (hg : ∀ (s : Shared) (H : Hp) (C : Addr) (cl : List (Str × Addr)) (fp : List Addr), GV (X.blk s H scope (compEnvC scope cl C X.env) fp) G tg g is) (ht : ∀ (s : Shared) (H : Hp) (C : Addr) (cl : List (Str × Addr)) (fp : List Addr), TsV (X.blk s H scope (compEnvC scope cl C X.env) fp) G ifs t)
    (he : ∀ (s : Shared) (H : Hp) (C : Addr) (cl : List (Str × Addr)) (fp : List Addr), EV (X.blk s H scope (compEnvC scope cl C X.env) fp) G elt wt) (hs : ∀ x, foldedSetIterable iter X.env x = pure x := by intro _; rfl) :
    EV X G (.ListComp elt [⟨tg, iter, ifs, 0⟩] scope pos) (vLc wi g t wt (own.map (·.2))) :=
  ⟨(pe_lc hc hN hi.run ok (fun s H C cl fp => (hg s H C cl fp).run) (fun s H C cl fp => (ht s H C cl fp).run) (fun s H C cl fp => (he s H C cl fp).run) hs).imp fun σ H Q ⟨B, F, env, K, R, w0, c⟩ => ⟨B, F, env, _, R, w0, fun J H1 items env1 F1 R1 ok k1 => by
    obtain ⟨hz, k1⟩ := k1
    intro D hD
    generalize hvs : own.map (·.2) = vs at *
    have R1w := R1.wiped vs
    let B1 := Bs.at F1 H1 (wipeE env1 vs) (wipe σ vs)
    have hDn : RR G B1 F1 (wipeE env1 vs) (wipe σ vs) (upd H1 D (.lst [])) (.ref D) (.ow (.lst [])) := R1w.here.freshRR hD trivial (.lst upd_same .nil)
    refine ⟨fun i m H' => ∃ F' env' acc, Rel G B1 F' env' (wipe σ vs) H' ∧ RR G B1 F' env' (wipe σ vs) H' (.ref D) (.ow (.lst acc)) ∧ acc.length ≤ i ∧ m = items.length - i ∧ i ≤ items.length ∧ lcL g t wt vs (items.drop i) acc env' (fun acc e2 => K (.ow (.lst acc)) (restE env1 vs e2)),
      ⟨_, F1, _, [], R1w.here.new hD _, hDn, Nat.le_refl _, rfl, Nat.zero_le _, k1⟩, ?_⟩
    rintro i m H2 ⟨F2, env2, acc, R2, D2, hacc, rfl, hi, k2⟩
    obtain ⟨stop, go⟩ := ok F2 H2 R2.mF (R1w.tr R2) R2.fok R2.tp
    by_cases hlt : i < items.length
    · refine .inr ⟨(go i hlt).1, fun H' => ∃ F' env' acc, Rel G B1 F' env' (wipe σ vs) H' ∧ RR G B1 F' env' (wipe σ vs) H' (.ref D) (.ow (.lst acc)) ∧ acc.length ≤ i + 1 ∧ lcL g t wt vs (items.drop (i + 1)) acc env' (fun acc e2 => K (.ow (.lst acc)) (restE env1 vs e2)),
        fun H' ⟨F', env', acc', R', D', h1, q⟩ => ⟨_, ?_, F', env', acc', R', D', h1, rfl, hlt, q⟩, fun x H' y => ?_⟩
      · omega
      obtain ⟨d, hd, re⟩ := (go i hlt).2 x H' y
      obtain ⟨F3, R3, rr⟩ := R2.here.res re
      have D3 := D2.keep R2 R3
      have R3 := R2.trans R3
      have ed : items.drop i = d :: items.drop (i + 1) := by
        rw [List.drop_eq_getElem_cons hlt]
        rw [List.getElem?_eq_getElem hlt] at hd
        rw [Option.some.inj hd]
      rw [ed] at k2
      refine ⟨_, F3, env2, d, _, R3.here, rr, k2, fun σ4 H4 env4 F4 R4 only k4 => ?_⟩
      have eσ : wipe σ4 vs = wipe σ vs := (wipe_eq only.1 fun j hj => only.2 j fun z => hj (hsub j z)).trans wipe_wipe
      have D4 := D3.keep R3 R4
      have R4 := R3.trans R4
      refine ⟨eσ, _, F4, env4, _, R4.here, k4, fun b H5 env5 F5 R5 k5 => ?_⟩
      have D5 := D4.keep R4 R5
      have R5 := R4.trans R5
      cases b with
      | false =>
        refine iteF ⟨F5, wipeE env5 vs, acc, ?_, ?_, Nat.le_succ_of_le hacc, k5⟩
        · rw [← eσ]
          exact R5.wiped vs
        · rw [← eσ]
          exact D5.wiped
      | true =>
        refine iteT ⟨_, F5, env5, _, R5.here, k5, fun y6 H6 r6 env6 F6 R6 rr6 k6 => ?_⟩
        have D6 := D5.keep R5 R6
        obtain ⟨F7, R7, rep7, sub7⟩ := R6.freeze rr6
        have D7 := D5.keep R5 R7
        have R7 := R5.trans R7
        obtain ⟨us, hD7, rl⟩ := D7.lst
        obtain ⟨n1, n2, n3, n4⟩ := D7.notF
        refine ⟨us, hD7, ?_, F7, wipeE env6 vs, acc ++ [r6.d], ?_, ?_, ?_, k6⟩
        · rw [rl.len, sizeLine_is]
          omega
        · rw [← eσ]
          exact (R7.pend n1 n2 n3 n4).wiped vs
        · rw [← eσ]
          refine RR.wiped ⟨D, rfl, n1, n2, by rw [upd_same]; trivial, .lst upd_same ?_, n3, n4⟩
          have tr : Tr F7 H6 (upd H6 D (.lst (us ++ [y6]))) := .of fun b h => upd_ne fun z => n1 (z ▸ h)
          exact (rl.mono (fun _ z => z) tr).append (.cons (rep7.mono (fun _ z => z) tr) .nil)
        · simp
          omega
    · have e : i = items.length := by omega
      subst e
      rw [List.drop_length] at k2
      refine .inl ⟨stop, c (.ref D) H2 (.ow (.lst acc)) (restE env1 vs env2) F2 (R1.trans (Rel.unwipe R1.here ?_)) ?_ k2⟩
      · exact R2
      · obtain ⟨b, eb, h1, h2, h3, h4, h5, h6⟩ := D2
        cases eb
        refine ⟨D, rfl, h1, h2, h3, h4, ?_, fun j o => ?_⟩
        · cases q : B.H0 D with
          | none => exact .inr rfl
          | some u => exact absurd hD (R1.al D (by rw [q]; intro y; cases y))
        · rcases own_rest (by rw [← wipeE_length env1 vs, R1w.len, R2.len]) o with o | o
          · exact mut_some (R1.ownF o).2.2.1 hD
          · exact h6 j o⟩⟩
end
end PV
end
section
set_option autoImplicit false
set_option linter.all false
set_option maxRecDepth 100000
namespace PV
open PySem PySem.Spec PyProof.Rows L2

/-! ### plain data: equality as Python's -/
mutual
def eqb : D → D → Bool
  | .non, .non => true
  | .bl a, .bl b => a == b
  | .bl a, .int j => (if a = true then 1 else 0) == j
  | .int i, .bl b => i == (if b = true then 1 else 0)
  | .int i, .int j => i == j
  | .str x, .str y => x == y
  | .lst xs, .lst ys => eqbs xs ys
  | .tup xs, .tup ys => eqbs xs ys
  | .non, _ => false
  | .bl _, _ => false
  | .int _, _ => false
  | .str _, _ => false
  | .lst _, _ => false
  | .tup _, _ => false
  | .tupW _, _ => false
  | .dct _, _ => false
  | .ins _ _, _ => false
  | .tape, _ => false
  | .scr _, _ => false
  | .obj _ _ _, _ => false
def eqbs : List D → List D → Bool
  | [], [] => true
  | x :: xs, y :: ys => eqb x y && eqbs xs ys
  | [], _ :: _ => false
  | _ :: _, [] => false
end
mutual
/-- None, bools, ints, texts, tuples and lists of such -/
def pln : Nat → D → Bool
  | _, .non => true
  | _, .bl _ => true
  | _, .int _ => true
  | _, .str x => PyData.strOk x
  | n + 1, .tup xs => plns n xs
  | n + 1, .lst xs => plns n xs
  | _, _ => false
def plns : Nat → List D → Bool
  | _, [] => true
  | n, x :: xs => pln n x && plns n xs
end
mutual
def py : D → PyData
  | .non => .none
  | .bl b => .bool b
  | .int i => .int i
  | .str x => .str x
  | .tup xs => .tuple (pys xs)
  | .lst xs => .list (pys xs)
  | .dct _ => .none
  | .ins _ _ => .none
  | .tape => .none
  | .tupW _ => .none
  | .scr _ => .none
  | .obj _ _ _ => .none
def pys : List D → List PyData
  | [] => []
  | x :: xs => py x :: pys xs
end
mutual
theorem py_lay : ∀ (n : Nat) (d : D), pln n d = true → (py d).canLay0 = true ∧ (py d).depth ≤ n
  | _, .non, _ => by simp [py, PyData.canLay0, PyData.depth]
  | _, .bl _, _ => by simp [py, PyData.canLay0, PyData.depth]
  | _, .int _, _ => by simp [py, PyData.canLay0, PyData.depth]
  | _, .str x, h => by
    have h : PyData.strOk x = true := by simpa [pln] using h
    simp [py, PyData.canLay0, PyData.depth, h]
  | 0, .tup _, h => by simp [pln] at h
  | n + 1, .tup xs, h => by
    have := pys_lay n xs (by simpa [pln] using h)
    simp [py, PyData.canLay0, PyData.depth, this]
  | 0, .lst _, h => by simp [pln] at h
  | n + 1, .lst xs, h => by
    have := pys_lay n xs (by simpa [pln] using h)
    simp [py, PyData.canLay0, PyData.depth, this]
  | 0, .dct _, h => by simp [pln] at h
  | n + 1, .dct _, h => by simp [pln] at h
  | 0, .ins _ _, h => by simp [pln] at h
  | n + 1, .ins _ _, h => by simp [pln] at h
  | 0, .tape, h => by simp [pln] at h
  | 0, .tupW _, h => by simp [pln] at h
  | n + 1, .tape, h => by simp [pln] at h
  | n + 1, .tupW _, h => by simp [pln] at h
  | 0, .scr _, h => by simp [pln] at h
  | n + 1, .scr _, h => by simp [pln] at h
  | 0, .obj _ _ _, h => by simp [pln] at h
  | n + 1, .obj _ _ _, h => by simp [pln] at h
theorem pys_lay : ∀ (n : Nat) (ds : List D), plns n ds = true → PyData.canLayAll0 (pys ds) = true ∧ PyData.depthAll (pys ds) ≤ n
  | _, [], _ => by simp [pys, PyData.canLayAll0, PyData.depthAll]
  | n, d :: ds, h => by
    have h : pln n d = true ∧ plns n ds = true := by simpa [plns] using h
    have h1 := py_lay n d h.1
    have h2 := pys_lay n ds h.2
    simp only [pys, PyData.canLayAll0, PyData.depthAll, h1.1, h2.1, Bool.and_self, true_and]
    omega
end
mutual
theorem py_eqv : ∀ (n m : Nat) (x y : D), pln n x = true → pln m y = true → PyData.eqv (py x) (py y) = eqb x y
  | n, m, .non, y, _, h2 => by cases y <;> cases m <;> simp_all [py, PyData.eqv, eqb, pln]
  | n, m, .bl _, y, _, h2 => by cases y <;> cases m <;> simp_all [py, PyData.eqv, eqb, pln]
  | n, m, .int _, y, _, h2 => by cases y <;> cases m <;> simp_all [py, PyData.eqv, eqb, pln]
  | n, m, .str _, y, _, h2 => by cases y <;> cases m <;> simp_all [py, PyData.eqv, eqb, pln]
  | 0, m, .tup xs, y, h, _ => by simp [pln] at h
  | n + 1, m, .tup xs, y, h, h2 => by
    cases y with
    | tup ys =>
      cases m with
      | zero => simp [pln] at h2
      | succ m =>
        have := pys_eqv n m xs ys (by simpa [pln] using h) (by simpa [pln] using h2)
        simp [py, PyData.eqv, eqb, this]
    | _ => cases m <;> simp_all [py, PyData.eqv, eqb, pln]
  | 0, m, .lst xs, y, h, _ => by simp [pln] at h
  | n + 1, m, .lst xs, y, h, h2 => by
    cases y with
    | lst ys =>
      cases m with
      | zero => simp [pln] at h2
      | succ m =>
        have := pys_eqv n m xs ys (by simpa [pln] using h) (by simpa [pln] using h2)
        simp [py, PyData.eqv, eqb, this]
    | _ => cases m <;> simp_all [py, PyData.eqv, eqb, pln]
  | n, m, .dct _, y, h, _ => by cases n <;> simp [pln] at h
  | n, m, .ins _ _, y, h, _ => by cases n <;> simp [pln] at h
  | n, m, .tape, y, h, _ => by cases n <;> simp [pln] at h
  | n, m, .tupW _, y, h, _ => by cases n <;> simp [pln] at h
  | n, m, .scr _, y, h, _ => by cases n <;> simp [pln] at h
  | n, m, .obj _ _ _, y, h, _ => by cases n <;> simp [pln] at h
theorem pys_eqv : ∀ (n m : Nat) (xs ys : List D), plns n xs = true → plns m ys = true → PyData.eqvAll (pys xs) (pys ys) = eqbs xs ys
  | _, _, [], [], _, _ => by simp [pys, PyData.eqvAll, eqbs]
  | _, _, [], _ :: _, _, _ => by simp [pys, PyData.eqvAll, eqbs]
  | _, _, _ :: _, [], _, _ => by simp [pys, PyData.eqvAll, eqbs]
  | n, m, x :: xs, y :: ys, h1, h2 => by
    have h1 : pln n x = true ∧ plns n xs = true := by simpa [plns] using h1
    have h2 : pln m y = true ∧ plns m ys = true := by simpa [plns] using h2
    simp [pys, PyData.eqvAll, eqbs, py_eqv n m x y h1.1 h2.1, pys_eqv n m xs ys h1.2 h2.2]
end
mutual
theorem Rep.dp {G : Gx} {F : Addr → Prop} {H : Hp} {K : PySem.W.Frag} : ∀ (n : Nat) {v : V} {d : D}, Rep G F H v d → pln n d = true → Dp K H v (py d)
  | _, _, _, .non, _ => .non
  | _, _, _, .bl b, _ => .bl b
  | _, _, _, .int i, _ => .int i
  | _, _, _, .str x, _ => .str x
  | 0, _, _, .tape, h => by simp [pln] at h
  | n + 1, _, _, .tape, h => by simp [pln] at h
  | 0, _, _, .scr, h => by simp [pln] at h
  | n + 1, _, _, .scr, h => by simp [pln] at h
  | n, _, _, .at f t, h => Top.dp n t h
theorem Top.dp {G : Gx} {F : Addr → Prop} {H : Hp} {K : PySem.W.Frag} : ∀ (n : Nat) {a : Addr} {d : D}, Top G F H a d → pln n d = true → Dp K H (.ref a) (py d)
  | 0, _, _, .tup _ _, h => by simp [pln] at h
  | n + 1, _, _, .tup r l, h => .tup r.sq (RepL.dp n l (by simpa [pln] using h))
  | 0, _, _, .lst _ _, h => by simp [pln] at h
  | n + 1, _, _, .lst r l, h => .lst (.inl (.inl r)) (RepL.dp n l (by simpa [pln] using h))
  | 0, _, _, .dct _ _ _ _, h => by simp [pln] at h
  | n + 1, _, _, .dct _ _ _ _, h => by simp [pln] at h
  | 0, _, _, .tupW _ _, h => by simp [pln] at h
  | n + 1, _, _, .tupW _ _, h => by simp [pln] at h
  | 0, _, _, .ins _ _, h => by simp [pln] at h
  | n + 1, _, _, .ins _ _, h => by simp [pln] at h
  | 0, _, _, .obj _ _, h => by simp [pln] at h
  | n + 1, _, _, .obj _ _, h => by simp [pln] at h
theorem RepL.dp {G : Gx} {F : Addr → Prop} {H : Hp} {K : PySem.W.Frag} : ∀ (n : Nat) {vs : List V} {ds : List D}, RepL G F H vs ds → plns n ds = true → DpAll K H vs (pys ds)
  | _, _, _, .nil, _ => .nil
  | n, _, _, .cons r l, h => by
    rw [plns, Bool.and_eq_true] at h
    exact .cons (Rep.dp n r h.1) (RepL.dp n l h.2)
end
theorem RepP.dp {G : Gx} {F : Addr → Prop} {H : Hp} {K : PySem.W.Frag} {v : V} {d : D} (n : Nat) (r : RepP G F H v d) (h : pln n d = true) : Dp K H v (py d) := by
  rcases r with r | ⟨a, rfl, _, _, t⟩
  · exact r.dp n h
  · exact t.dp n h

/-! ### operators -/
def pl2 (x y : D) : Bool := pln 60 x && pln 60 y
def opEq (x y : D) : Option Rv := if pl2 x y = true then some (.sh (.bl (eqb x y))) else none
def opNe (x y : D) : Option Rv := if pl2 x y = true then some (.sh (.bl (!eqb x y))) else none
def opAdd : D → D → Option Rv
  | .int i, .int j => some (.sh (.int (i + j)))
  | .tup a, .tup b => if a.length + b.length ≤ 16777216 then some (.sh (.tup (a ++ b))) else none
  | .lst a, .lst b => if a.length + b.length ≤ 16777216 then some (.ow (.lst (a ++ b))) else none
  | _, _ => none
def opSub : D → D → Option Rv
  | .int i, .int j => some (.sh (.int (i - j)))
  | _, _ => none
def opMul : D → D → Option Rv
  | .int i, .int j => if (-(2 ^ 64) < i ∧ i < 2 ^ 64) ∨ (-(2 ^ 64) < j ∧ j < 2 ^ 64) then some (.sh (.int (i * j))) else none
  | _, _ => none
def opMod : D → D → Option Rv
  | .int i, .int j => if j ≠ 0 then some (.sh (.int (i.fmod j))) else none
  | _, _ => none
def opDiv : D → D → Option Rv
  | .int i, .int j => if j ≠ 0 ∧ j.natAbs < 1073741824 then some (.sh (.int (i.fdiv j))) else none
  | _, _ => none
def opPow : D → D → Option Rv
  | .int i, .int j => if 0 ≤ j ∧ j ≤ 1000000 ∧ i.natAbs < 2 ^ 64 then some (.sh (.int (i ^ j.toNat))) else none
  | _, _ => none
def opCmp (p : Int → Int → Bool) : D → D → Option Rv
  | .int i, .int j => some (.sh (.bl (p i j)))
  | _, _ => none
def opLt := opCmp fun i j => decide (i < j)
def opLe := opCmp fun i j => decide (i ≤ j)
def opGt := opCmp fun i j => decide (j < i)
def opGe := opCmp fun i j => decide (j ≤ i)
def opNeg : D → Option Rv
  | .int i => some (.sh (.int (-i)))
  | _ => none
section
variable {X : Cx} {G : Gx}
theorem or_eq (hu : X.A.units + 64 < cLine) : OpR X (compareOp .Eq) (rP2 G opEq) := by
  intro pins s σ H x y v u Q I rx ry ⟨F, dx, dy, r, fo, px, py', hf, c⟩
  unfold opEq pl2 at hf
  split at hf
  · rename_i h
    rw [Bool.and_eq_true] at h
    cases hf
    have l1 := py_lay 60 dx h.1
    have l2 := py_lay 60 dy h.2
    refine op_eqD hu pins s σ H x y v u Q I rx ry ⟨py dx, py dy, px.dp 60 h.1, py'.dp 60 h.2, ?_, ?_, ?_⟩
    · simp [SeqAt.shaped, l1.1]; omega
    · simp [SeqAt.shaped, l2.1]; omega
    · rw [py_eqv 60 60 dx dy h.1 h.2]
      exact c _ _ (Res.flat (.bl _))
  · cases hf
theorem or_ne (hu : X.A.units + 64 < cLine) : OpR X (compareOp .NotEq) (rP2 G opNe) := by
  intro pins s σ H x y v u Q I rx ry ⟨F, dx, dy, r, fo, px, py', hf, c⟩
  unfold opNe pl2 at hf
  split at hf
  · rename_i h
    rw [Bool.and_eq_true] at h
    cases hf
    have l1 := py_lay 60 dx h.1
    have l2 := py_lay 60 dy h.2
    refine op_neD hu pins s σ H x y v u Q I rx ry ⟨py dx, py dy, px.dp 60 h.1, py'.dp 60 h.2, ?_, ?_, ?_⟩
    · simp [SeqAt.shaped, l1.1]; omega
    · simp [SeqAt.shaped, l2.1]; omega
    · rw [py_eqv 60 60 dx dy h.1 h.2]
      exact c _ _ (Res.flat (.bl _))
  · cases hf
def rCatS (K : PySem.W.Frag) : R2 := fun x y H Q => ∃ a b xs ys, x = .ref a ∧ y = .ref b ∧ SqT K H a xs ∧ SqT K H b ys ∧ xs.length + ys.length ≤ sizeLine ∧
  (xs = [] → Q (.ref b) H) ∧ (xs ≠ [] → ys = [] → Q (.ref a) H) ∧ (xs ≠ [] → ys ≠ [] → ∀ p ob, H p = none → ob.dict = none → Q (.ref p) (upd H p (.frz ob (.tup (xs ++ ys)))))
theorem op_catS : OpR X (binaryOp .Add) (rCatS X.K) := by
  intro pins s σ H x y v u Q I rx ry h
  obtain ⟨a, b, xs, ys, rfl, rfl, ha, hb, hz, q0, q1, q2⟩ := h
  cases rx
  cases ry
  obtain ⟨its, r1, p1, _⟩ := I.tuple ha
  obtain ⟨its2, r2, p2, _⟩ := I.tuple hb
  by_cases hx : xs = []
  · subst hx
    cases r1
    exact cat_tup0 p1 p2 ⟨.ref b, H, I, rfl, q0 rfl⟩
  · refine HT.cat_tup p1 p2 (fun z => hx (r1.nil_iff.mp z)) (fun z => ⟨.ref a, H, I, rfl, q1 hx (r2.nil_iff.mp z)⟩) (fun z => ?_) (by rw [← r1.length, ← r2.length]; exact hz)
    refine ⟨.ref s.heap.objs.size, _, I.laid (t' := s.toks) (o := .frz _ (.tup (xs ++ ys))) (fun b ob q => Heap.get?_push_of_some _ q) (Nat.le_refl _) ⟨Heap.get?_push_size _ rfl, ?_⟩, rfl, q2 hx (fun w => z (r2.nil_iff.mpr w)) _ _ (I.hok.fresh (Nat.le_refl _)) rfl⟩
    exact ⟨by rw [List.length_append]; exact hz, _, r1.append r2, IsTup.new _ _⟩
theorem or_add : OpR X (binaryOp .Add) (rP2 G opAdd) := by
  intro pins s σ H x y v u Q I rx ry ⟨F, dx, dy, r, fo, px, py', hf, c⟩
  unfold opAdd at hf
  split at hf
  · cases hf
    exact op_add pins s σ H x y v u Q I rx ry ⟨_, _, px.int, py'.int, c _ _ (Res.flat (.int _))⟩
  · rename_i a b
    split at hf
    · rename_i hl
      cases hf
      obtain ⟨p, vs, ea, ha, ra, fa⟩ := px.tup
      obtain ⟨q, us, eb, hb, rb, fb⟩ := py'.tup
      refine op_catS pins s σ H x y v u Q I rx ry ⟨p, q, vs, us, ea, eb, ha.sq, hb.sq, by rw [ra.len, rb.len, sizeLine_is]; exact hl, fun e => ?_, fun e1 e2 => ?_, fun e1 e2 p' ob hp hob => ?_⟩
      · subst e
        cases ra
        exact c _ _ (Res.flat (.at fb (.tup hb rb)))
      · subst e2
        cases rb
        rw [List.append_nil] at c
        exact c _ _ (Res.flat (.at fa (.tup ha ra)))
      · exact c _ _ (Res.newTup fo hp hob (ra.append rb))
    · cases hf
  · rename_i a b
    split at hf
    · rename_i hl
      cases hf
      obtain ⟨p, vs, ea, ha, ra⟩ := px.lst
      obtain ⟨q, us, eb, hb, rb⟩ := py'.lst
      exact op_cat pins s σ H x y v u Q I rx ry ⟨p, q, vs, us, ea, eb, ha, hb, by rw [ra.len, rb.len, sizeLine_is]; exact hl, fun p' hp => c _ _ (Res.newLst fo hp (ra.append rb))⟩
    · cases hf
  · cases hf
theorem or_sub : OpR X (binaryOp .Sub) (rP2 G opSub) := by
  intro pins s σ H x y v u Q I rx ry ⟨F, dx, dy, r, fo, px, py', hf, c⟩
  unfold opSub at hf
  split at hf
  · cases hf
    exact op_sub pins s σ H x y v u Q I rx ry ⟨_, _, px.int, py'.int, c _ _ (Res.flat (.int _))⟩
  · cases hf
theorem or_mul : OpR X (binaryOp .Mult) (rP2 G opMul) := by
  intro pins s σ H x y v u Q I rx ry ⟨F, dx, dy, r, fo, px, py', hf, c⟩
  unfold opMul at hf
  split at hf
  · split at hf
    · rename_i h
      cases hf
      exact op_mul pins s σ H x y v u Q I rx ry ⟨_, _, px.int, py'.int, h, c _ _ (Res.flat (.int _))⟩
    · cases hf
  · cases hf
theorem or_mod : OpR X (binaryOp .Mod) (rP2 G opMod) := by
  intro pins s σ H x y v u Q I rx ry ⟨F, dx, dy, r, fo, px, py', hf, c⟩
  unfold opMod at hf
  split at hf
  · split at hf
    · rename_i h
      cases hf
      exact op_modN pins s σ H x y v u Q I rx ry ⟨_, _, px.int, py'.int, h, c _ _ (Res.flat (.int _))⟩
    · cases hf
  · cases hf
theorem or_div : OpR X (binaryOp .FloorDiv) (rP2 G opDiv) := by
  intro pins s σ H x y v u Q I rx ry ⟨F, dx, dy, r, fo, px, py', hf, c⟩
  unfold opDiv at hf
  split at hf
  · split at hf
    · rename_i h
      cases hf
      exact op_fdivN pins s σ H x y v u Q I rx ry ⟨_, _, px.int, py'.int, h, c _ _ (Res.flat (.int _))⟩
    · cases hf
  · cases hf
theorem or_pow : OpR X (binaryOp .Pow) (rP2 G opPow) := by
  intro pins s σ H x y v u Q I rx ry ⟨F, dx, dy, r, fo, px, py', hf, c⟩
  unfold opPow at hf
  split at hf
  · split at hf
    · rename_i h
      cases hf
      exact op_pow pins s σ H x y v u Q I rx ry ⟨_, _, px.int, py'.int, h, c _ _ (Res.flat (.int _))⟩
    · cases hf
  · cases hf
theorem or_cmp {op : CmpOp} {p : Int → Int → Bool} (h : OpR X (compareOp op) (rI0 fun i j => .bl (p i j))) : OpR X (compareOp op) (rP2 G (opCmp p)) := by
  intro pins s σ H x y v u Q I rx ry ⟨F, dx, dy, r, fo, px, py', hf, c⟩
  unfold opCmp at hf
  split at hf
  · cases hf
    exact h pins s σ H x y v u Q I rx ry ⟨_, _, px.int, py'.int, c _ _ (Res.flat (.bl _))⟩
  · cases hf
theorem or_lt : OpR X (compareOp .Lt) (rP2 G opLt) := or_cmp op_lt
theorem or_le : OpR X (compareOp .LtE) (rP2 G opLe) := or_cmp op_le
theorem or_gt : OpR X (compareOp .Gt) (rP2 G opGt) := or_cmp op_gt
theorem or_ge : OpR X (compareOp .GtE) (rP2 G opGe) := or_cmp op_ge
theorem ur_neg : UnR X (unaryOp .USub) (rU G opNeg) := by
  intro pins s σ H x v Q I rx ⟨F, dx, r, fo, px, hf, c⟩
  unfold opNeg at hf
  split at hf
  · cases hf
    exact un_neg pins s σ H x v Q I rx ⟨_, px.int, c _ _ (Res.flat (.int _))⟩
  · cases hf
/-! ### is None, is True, is False -/
def isNon : D → Bool
  | .non => true
  | _ => false
def opIsN (x y : D) : Option Rv := match y with
  | .non => some (.sh (.bl (isNon x)))
  | .bl b => match x with
    | .bl a => some (.sh (.bl (a == b)))
    | _ => none
  | _ => none
end
end PV
end
section
set_option autoImplicit false
set_option linter.all false
set_option maxRecDepth 100000
namespace PV
open PySem PySem.Spec PyProof.Rows L2

/-! ### dicts whose keys are tuples -/
inductive RepX (G : Gx) (F : Addr → Prop) (H : Hp) : List (NestedKey × Addr × Value) → List (D × D) → Prop
  | nil : RepX G F H [] []
  | cons {n : NestedKey} {b : Addr} {u : Value} {vv : V} {k d : D} {xs : List (NestedKey × Addr × Value)} {kvs : List (D × D)} : dkey k = some n → Rep G F H (.ref b) k → RelV vv u → Rep G F H vv d → RepX G F H xs kvs → RepX G F H ((n, b, u) :: xs) ((k, d) :: kvs)
def keq (n : NestedKey) (p : D × D) : Bool := decide (dkey p.1 = some n)
def dfind (kvs : List (D × D)) (n : NestedKey) : Option D := (kvs.find? (keq n)).map (·.2)
def dget (kvs : List (D × D)) (k : D) : Option D := match dkey k with
  | some n => dfind kvs n
  | none => none
def dhas (kvs : List (D × D)) (n : NestedKey) : Bool := kvs.any (keq n)
def dputN (kvs : List (D × D)) (n : NestedKey) (k v : D) : List (D × D) := if dhas kvs n = true then kvs.map fun p => if keq n p = true then (p.1, v) else p else kvs ++ [(k, v)]
section
variable {G : Gx} {F : Addr → Prop} {H : Hp} {P : Program}
theorem RepE.toX : ∀ {es : List DictEntry} {kvs : List (D × D)}, RepE G F H es kvs → ∃ xs, RepX G F H xs kvs ∧ es = xs.map (entryOfKey (nestedKind P G.w))
  | _, _, .nil => ⟨[], .nil, rfl⟩
  | _, _, .cons (e := e) (k := k) r1 r2 q1 q2 hk hh t => by
    obtain ⟨xs, h1, h2⟩ := RepE.toX t
    cases k with
    | tup ks =>
      cases q1 with
      | «at» f tp =>
        rename_i a
        refine ⟨(_, a, e.val) :: xs, .cons hk (.at f tp) r2 q2 h1, ?_⟩
        rw [List.map_cons, ← h2]
        congr 1
        obtain ⟨eh, ek, ev⟩ := e
        have hk' : ek = .ref a := r1
        have hh' : eh = _ := hh
        subst hk' hh'
        rfl
    | _ => simp [dkey] at hk
theorem RepX.toE : ∀ {xs : List (NestedKey × Addr × Value)} {kvs : List (D × D)}, RepX G F H xs kvs → RepE G F H (xs.map (entryOfKey (nestedKind P G.w))) kvs
  | _, _, .nil => .nil
  | _, _, .cons (b := b) hk r1 r2 q t => .cons (e := entryOfKey (nestedKind P G.w) (_, b, _)) (kv := .ref b) rfl r2 r1 q hk rfl (RepX.toE t)
theorem RepX.len : ∀ {xs : List (NestedKey × Addr × Value)} {kvs : List (D × D)}, RepX G F H xs kvs → xs.length = kvs.length
  | _, _, .nil => rfl
  | _, _, .cons _ _ _ _ t => by simp [RepX.len t]
theorem RepX.keys : ∀ {xs : List (NestedKey × Addr × Value)} {kvs : List (D × D)}, RepX G F H xs kvs → kvs.map (fun p => dkey p.1) = xs.map (fun x => some x.1)
  | _, _, .nil => rfl
  | _, _, .cons hk _ _ _ t => by simp [RepX.keys t, hk]
theorem RepX.find : ∀ {xs : List (NestedKey × Addr × Value)} {kvs : List (D × D)} {n : NestedKey}, RepX G F H xs kvs →
    (∀ b u, atKey xs n = some (b, u) → ∃ d vv, dfind kvs n = some d ∧ RelV vv u ∧ Rep G F H vv d) ∧ (dhas kvs n = (atKey xs n).isSome) ∧ (atKey xs n = none → dfind kvs n = none)
  | _, _, n, .nil => ⟨fun b u e => by simp [atKey] at e, rfl, fun _ => rfl⟩
  | _, _, n, .cons (n := m) (k := k) (d := d) hk _ r q t => by
    obtain ⟨h1, h2, h3⟩ := RepX.find (n := n) t
    by_cases e : m = n
    · subst e
      have hq : keq m (k, d) = true := by simp [keq, hk]
      refine ⟨fun b u z => ?_, ?_, fun z => ?_⟩
      · simp [atKey] at z
        obtain ⟨rfl, rfl⟩ := z
        exact ⟨_, _, by simp [dfind, hq], r, q⟩
      · simp [dhas, atKey, hq]
      · simp [atKey] at z
    · have hq : keq n (k, d) = false := by simp [keq, hk, e]
      rename_i b0 u0 vv0 xs0 kvs0 _
      have ha : atKey ((m, b0, u0) :: xs0) n = atKey xs0 n := by simp [atKey, e]
      rw [ha]
      refine ⟨fun b u z => ?_, ?_, fun z => ?_⟩
      · obtain ⟨d', vv, g1, g2, g3⟩ := h1 b u z
        exact ⟨d', vv, by simpa [dfind, hq] using g1, g2, g3⟩
      · simp only [dhas, List.any_cons, hq, Bool.false_or]
        exact h2
      · have := h3 z
        simpa [dfind, hq] using this
theorem RepX.append : ∀ {xs ys : List (NestedKey × Addr × Value)} {kvs kvs' : List (D × D)}, RepX G F H xs kvs → RepX G F H ys kvs' → RepX G F H (xs ++ ys) (kvs ++ kvs')
  | _, _, _, _, .nil, s => s
  | _, _, _, _, .cons a b c d t, s => .cons a b c d (RepX.append t s)
theorem RepX.put {n : NestedKey} {vv : V} {u : Value} {d : D} (r : RelV vv u) (q : Rep G F H vv d) : ∀ {xs : List (NestedKey × Addr × Value)} {kvs : List (D × D)}, RepX G F H xs kvs → RepX G F H (xs.map (putAt n u)) (kvs.map fun p => if keq n p = true then (p.1, d) else p)
  | _, _, .nil => .nil
  | _, _, .cons (n := m) (k := k) (d := d0) hk a b c t => by
    have ih := RepX.put (n := n) r q t
    by_cases e : m = n
    · subst e
      have hq : keq m (k, d0) = true := by simp [keq, hk]
      simp only [List.map_cons, putAt, if_true, hq]
      exact .cons hk a r q ih
    · have hq : keq n (k, d0) = false := by simp [keq, hk, e]
      simp only [List.map_cons, putAt, if_neg e, hq]
      exact .cons hk a b c ih
theorem RepX.store {n : NestedKey} {b : Addr} {vv : V} {u : Value} {k d : D} (hk : dkey k = some n) (rk : Rep G F H (.ref b) k) (r : RelV vv u) (q : Rep G F H vv d) {xs : List (NestedKey × Addr × Value)} {kvs : List (D × D)} (t : RepX G F H xs kvs) : RepX G F H (storedH xs n b u) (dputN kvs n k d) := by
  have hh := (t.find (n := n)).2.1
  unfold storedH dputN
  rw [hh]
  by_cases e : (atKey xs n).isSome = true
  · rw [if_pos e, if_pos e]
    exact t.put r q
  · rw [if_neg e, if_neg e]
    exact t.append (.cons hk rk r q .nil)
theorem RepX.mono {F' : Addr → Prop} {H' : Hp} (hF : ∀ a, F a → F' a) (hR : Tr F H H') : ∀ {xs : List (NestedKey × Addr × Value)} {kvs : List (D × D)}, RepX G F H xs kvs → RepX G F' H' xs kvs
  | _, _, .nil => .nil
  | _, _, .cons a b c d t => .cons a (b.mono hF hR) c (d.mono hF hR) (RepX.mono hF hR t)

variable {X : Cx} {pins : List (Addr × Obj)} {σ : L2.St} {s : Shared}
mutual
theorem Rep.nested (I : L2.Inv X pins σ H s) : ∀ {v : V} {d : D} {n : NestedKey} {u : Value}, Rep G F H v d → nk d = some n → RelV v u → NestedIs s.heap n u
  | _, _, n, u, .non, hn, r => by simp [nk] at hn; subst hn; cases r; exact .none
  | _, _, n, u, .bl b, hn, r => by simp only [nk, Option.some.injEq] at hn; subst hn; cases r; exact .bool rfl
  | _, _, n, u, .int i, hn, r => by simp [nk] at hn; subst hn; obtain ⟨t, rfl⟩ := r; exact .int _ _
  | _, _, n, u, .str x, hn, r => by simp [nk] at hn; subst hn; obtain ⟨t, rfl⟩ := r; exact .text _ _
  | _, _, n, u, .tape, hn, r => by simp [nk] at hn
  | _, _, n, u, .scr, hn, r => by simp [nk] at hn
  | _, _, n, u, .at f t, hn, r => by
    obtain rfl : u = Value.ref _ := r
    exact Top.nested I t hn
theorem Top.nested (I : L2.Inv X pins σ H s) : ∀ {a : Addr} {d : D} {n : NestedKey}, Top G F H a d → nk d = some n → NestedIs s.heap n (.ref a)
  | _, _, n, .tup e l, hn => by
    rw [nk] at hn
    split at hn
    · rename_i ks hks
      cases hn
      obtain ⟨its, rv, ⟨o, h1, h2, m, h3⟩, _⟩ := I.tuple (e.sq (K := X.K))
      exact .tup h1 h2 h3 (by simpa using RepL.nested I l hks rv)
    · cases hn
  | _, _, n, .lst _ _, hn => by simp [nk] at hn
  | _, _, n, .dct _ _ _ _, hn => by simp [nk] at hn
  | _, _, n, .tupW _ _, hn => by simp [nk] at hn
  | _, _, n, .ins _ _, hn => by simp [nk] at hn
  | _, _, n, .obj _ _, hn => by simp [nk] at hn
theorem RepL.nested (I : L2.Inv X pins σ H s) : ∀ {vs : List V} {ds : List D} {ns : List NestedKey} {us : List Value}, RepL G F H vs ds → nks ds = some ns → Vals vs us → NestedAll s.heap ns us
  | _, _, ns, us, .nil, hn, r => by simp [nks] at hn; subst hn; cases r; exact .nil
  | _, _, ns, us, .cons q t, hn, r => by
    rw [nks] at hn
    split at hn
    · rename_i k ks h1 h2
      cases hn
      cases r with
      | cons r rt => exact .cons (Rep.nested I q h1 r) (RepL.nested I t h2 rt)
    · cases hn
end
theorem dkey_nk {d : D} {n : NestedKey} (h : dkey d = some n) : nk d = some n ∧ n.depth ≤ 8 ∧ ∃ xs, d = .tup xs := by
  cases d with
  | tup xs =>
    simp only [dkey] at h
    split at h
    · rename_i ks e
      split at h
      · rename_i hd
        cases h
        exact ⟨by simp [nk, e], hd, xs, rfl⟩
      · cases h
    · cases h
  | _ => simp [dkey] at h
theorem Rep.isKey (I : L2.Inv X pins σ H s) {b : Addr} {k : D} {n : NestedKey} (r : Rep G F H (.ref b) k) (h : dkey k = some n) : (nestedKind P G.w).is s.heap n b := by
  obtain ⟨h1, h2, _⟩ := dkey_nk h
  exact ⟨r.nested I h1 rfl, h2⟩
theorem Rep.keyRef {v : V} {k : D} {n : NestedKey} (r : Rep G F H v k) (h : dkey k = some n) : ∃ b, v = .ref b ∧ F b := by
  obtain ⟨_, _, xs, rfl⟩ := dkey_nk h
  cases r with
  | «at» f t => exact ⟨_, rfl, f⟩
theorem RepX.allKeys (I : L2.Inv X pins σ H s) : ∀ {xs : List (NestedKey × Addr × Value)} {kvs : List (D × D)}, RepX G F H xs kvs → ∀ x ∈ xs, (nestedKind P G.w).is s.heap x.1 x.2.1
  | _, _, .nil, x, hx => by simp at hx
  | _, _, .cons hk r _ _ t, x, hx => by
    rcases List.mem_cons.mp hx with rfl | hx
    · exact r.isKey I hk
    · exact RepX.allKeys I t x hx
theorem dictHO_of {a : Addr} {es : List DictEntry} (I : L2.Inv X pins σ H s) (h : Rd H a (dictHO a es)) : (a == sysModules) = false ∧ ∃ o ep, s.heap.get? a = some o ∧ o.ExactDict ∧ o.data = .dict es.toArray ep := by
  have q : ObjOk X.prog X.w H s.heap a (dictHO a es) := Rd.ok h I.hok
  exact q.1
theorem nodup_some {α β : Type} {f : α → Option β} {g : α → β} {l : List α} {m : List β} (h : l.map f = m.map some) (n : (l.map f).Nodup) : m.Nodup := by
  rw [h] at n
  exact List.Pairwise.of_map some (fun a b hne e => hne (by rw [e])) n
/-- the dict at a -/
theorem Top.dictOf {a : Addr} {kvs : List (D × D)} (I : L2.Inv X pins σ H s) (t : Top G F H a (.dct kvs)) : (a == sysModules) = false ∧ ∃ xs, RepX G F H xs kvs ∧ s.heap.DictOfH (nestedKind P G.w) a xs ∧ Rd H a (dictHO a (xs.map (entryOfKey (nestedKind P G.w)))) ∧ xs.length ≤ sizeLine := by
  cases t with
  | dct rd l nd sz =>
    obtain ⟨xs, rx, rfl⟩ := l.toX (P := P)
    obtain ⟨h1, o, ep, h2, h3, h4⟩ := dictHO_of I rd
    refine ⟨h1, xs, rx, ⟨o, _, ep, h2, h3, h4, by simp, rx.allKeys I, ?_⟩, rd, by simpa using sz⟩
    have e := rx.keys
    rw [e] at nd
    have : (xs.map (·.1)).Nodup := by
      have z : xs.map (fun x => some x.1) = (xs.map (·.1)).map some := by simp
      rw [z] at nd
      exact List.Pairwise.of_map some (fun a b hne e => hne (by rw [e])) nd
    exact this
theorem dictHO_new {a : Addr} {es : List DictEntry} {P : Program} {w : World} {H' : Hp} {h' : Heap} (h1 : (a == sysModules) = false) (h2 : ∃ o ep, h'.get? a = some o ∧ o.ExactDict ∧ o.data = .dict es.toArray ep) : ObjOk P w H' h' a (dictHO a es) := by
  refine ⟨⟨h1, h2⟩, ?_, ?_⟩
  · obtain ⟨o, _, e, _⟩ := h2
    exact ⟨o, e⟩
  · rintro g1 g2 ⟨e1, o, ep, e2, e3⟩ k
    exact ⟨e1, o, ep, k o e2, e3⟩
end
end PV
end
section
set_option autoImplicit false
set_option linter.all false
set_option maxRecDepth 100000
namespace PV
open PySem PySem.Spec PyProof.Rows L2

/-! ### in, not in -/
def isIn (x : D) : D → Option Bool
  | .lst xs => if pln 60 x && plns 59 xs then some (xs.any fun z => eqb z x) else none
  | .tup xs => if pln 60 x && plns 59 xs then some (xs.any fun z => eqb z x) else none
  | .dct kvs => match dkey x with
    | some n => some (dhas kvs n)
    | none => none
  | _ => none
def opIn (x y : D) : Option Rv := (isIn x y).map fun b => .sh (.bl b)
def opNotIn (x y : D) : Option Rv := (isIn x y).map fun b => .sh (.bl (!b))
theorem any_eqv (n : Nat) (x : D) (hx : pln 60 x = true) : ∀ xs : List D, plns n xs = true → ((pys xs).any fun z => PyData.eqv z (py x)) = xs.any fun z => eqb z x
  | [], _ => rfl
  | z :: zs, h => by
    rw [plns, Bool.and_eq_true] at h
    simp only [pys, List.any_cons, py_eqv n 60 z x h.1 hx, any_eqv n x hx zs h.2]
section
variable {X : Cx} {G : Gx}
theorem or_in' (op : CmpOp) (neg : Bool) (hop : (op = .In ∧ neg = false) ∨ (op = .NotIn ∧ neg = true)) (hw : X.w = G.w) (hu : X.A.units + 65 < cLine) : OpR X (compareOp op) (rP2 G fun x y => (isIn x y).map fun b => .sh (.bl (b != neg))) := by
  intro pins s σ H x y v u Q I rx ry ⟨F, dx, dy, r, fo, px, py', hf, c⟩
  obtain ⟨b, hb, rfl⟩ := Option.map_eq_some_iff.mp hf
  have fin : ∀ s', L2.Inv X pins σ H s' → EP X pins σ Q (.bool (b != neg)) s' := fun s' I' => ⟨.bl (b != neg), H, I', rfl, c _ _ (Res.flat (.bl _))⟩
  unfold isIn at hb
  split at hb
  · rename_i xs
    split at hb
    · rename_i h
      rw [Bool.and_eq_true] at h
      cases hb
      obtain ⟨as, r1⟩ := Dp.reads I (py dx) x v (px.dp 60 h.1) rx
      obtain ⟨bs, r2⟩ := Dp.reads I (.list (pys xs)) y u (by have := py'.dp (K := X.K) 60 (by simpa [pln] using h.2); simpa [py] using this) ry
      have l1 := py_lay 60 dx h.1
      have l2 := pys_lay 59 xs h.2
      have hr : X.A.units + 1 + min (PyData.depthAll (pys xs)) (py dx).depth < cLine := by
        have : min (PyData.depthAll (pys xs)) (py dx).depth ≤ (PyData.depthAll (pys xs)) := Nat.min_le_left _ _
        omega
      have e := any_eqv 59 dx h.1 xs h.2
      rcases hop with ⟨rfl, rfl⟩ | ⟨rfl, rfl⟩
      · exact SeqAt.in_list_reads r2 r1 l2.1 l1.1 hr (by rw [e]; simpa using fin s I)
      · exact SeqAt.notIn_list_reads r2 r1 l2.1 l1.1 hr (by rw [e]; simpa using fin s I)
    · cases hb
  · rename_i xs
    split at hb
    · rename_i h
      rw [Bool.and_eq_true] at h
      cases hb
      obtain ⟨as, r1⟩ := Dp.reads I (py dx) x v (px.dp 60 h.1) rx
      obtain ⟨bs, r2⟩ := Dp.reads I (.tuple (pys xs)) y u (by have := py'.dp (K := X.K) 60 (by simpa [pln] using h.2); simpa [py] using this) ry
      have l1 := py_lay 60 dx h.1
      have l2 := pys_lay 59 xs h.2
      have hr : X.A.units + 1 + min (PyData.depthAll (pys xs)) (py dx).depth < cLine := by
        have : min (PyData.depthAll (pys xs)) (py dx).depth ≤ (PyData.depthAll (pys xs)) := Nat.min_le_left _ _
        omega
      have e := any_eqv 59 dx h.1 xs h.2
      rcases hop with ⟨rfl, rfl⟩ | ⟨rfl, rfl⟩
      · exact SeqAt.in_tuple_reads r2 r1 l2.1 l1.1 hr (by rw [e]; simpa using fin s I)
      · exact SeqAt.notIn_tuple_reads r2 r1 l2.1 l1.1 hr (by rw [e]; simpa using fin s I)
    · cases hb
  · rename_i kvs
    split at hb
    · rename_i n hk
      cases hb
      obtain ⟨b', hb', fb, rk⟩ : ∃ b', x = .ref b' ∧ F b' ∧ Rep G F H x dx := by
        obtain ⟨_, _, xs, rfl⟩ := dkey_nk hk
        obtain ⟨p, vs, ea, ha, ra, fa⟩ := px.tup
        exact ⟨p, ea, fa, ea ▸ .at fa (.tup ha ra)⟩
      subst hb'
      obtain rfl : v = Value.ref b' := rx
      obtain ⟨a, ea, ta⟩ : ∃ a, y = .ref a ∧ Top G F H a (.dct kvs) := by
        rcases py' with q | ⟨a, e, _, _, t⟩
        · cases q with
          | «at» f t => exact ⟨_, rfl, t⟩
        · exact ⟨a, e, t⟩
      subst ea
      obtain rfl : u = Value.ref a := ry
      obtain ⟨hs, xs, rx', hm, rd, hz⟩ := ta.dictOf (P := X.prog) I
      have hh := (rx'.find (n := n)).2.1
      rw [← hw] at hm
      have hkey := rk.isKey (P := X.prog) I hk
      rw [← hw] at hkey
      have hroom : (nestedKind X.prog X.w).room X.A.in1 := by show X.A.units + 1 + 8 < cLine; omega
      rcases hop with ⟨rfl, rfl⟩ | ⟨rfl, rfl⟩
      · refine wpAny_in_heap hroom hkey hs hm ?_
        rw [← hh]
        simpa using fin _ (I.tok _)
      · show wpAny _ _ (do return Value.bool (!(← contains (.ref a) (.ref b')))) _ _ s
        refine wpAny_bind (wpAny_contains_heap hroom hkey hs hm (wpAny_pure ?_))
        rw [← hh]
        simpa using fin _ (I.tok _)
    · cases hb
  · cases hb
theorem or_in (hw : X.w = G.w) (hu : X.A.units + 65 < cLine) : OpR X (compareOp .In) (rP2 G opIn) := by
  have h := or_in' (G := G) .In false (.inl ⟨rfl, rfl⟩) hw hu
  have e : opIn = fun x y => (isIn x y).map fun b => .sh (.bl (b != false)) := by
    funext x y
    simp [opIn]
  rw [e]
  exact h
theorem or_notIn (hw : X.w = G.w) (hu : X.A.units + 65 < cLine) : OpR X (compareOp .NotIn) (rP2 G opNotIn) := by
  have h := or_in' (G := G) .NotIn true (.inr ⟨rfl, rfl⟩) hw hu
  have e : opNotIn = fun x y => (isIn x y).map fun b => .sh (.bl (b != true)) := by
    funext x y
    simp [opNotIn]
  rw [e]
  exact h

/-! ### subscripts -/
def opIdx : D → D → Option Rv
  | .lst xs, .int i => (atI xs i).map .sh
  | .tup xs, .int i => (atI xs i).map .sh
  | .dct kvs, k => (dget kvs k).map .sh
  | _, _ => none
theorem RepL.atI {F : Addr → Prop} {H : Hp} {vs : List V} {ds : List D} {i : Int} {d : D} (r : RepL G F H vs ds) (h : L2.atI ds i = some d) : ∃ v, L2.atI vs i = some v ∧ Rep G F H v d := by
  unfold L2.atI at h ⊢
  rw [r.len]
  cases e : ixN ds.length i with
  | none => rw [e] at h; cases h
  | some j =>
    rw [e] at h
    obtain ⟨v, h1, h2⟩ := r.get (i := j) h
    exact ⟨v, h1, h2⟩
theorem ix_any (hw : X.w = G.w) (hu : X.A.units + 65 < cLine) : IxR X (rP2 G opIdx) := by
  intro value slice pins s σ H x y v u Q I rx ry ⟨F, dx, dy, r, fo, px, py', hf, c⟩ hs
  unfold opIdx at hf
  split at hf
  · obtain ⟨d, hd, rfl⟩ := Option.map_eq_some_iff.mp hf
    obtain ⟨a, vs, ea, ha, ra⟩ := px.lst
    obtain ⟨w, hw', rw'⟩ := ra.atI hd
    exact ix_list value slice pins s σ H x y v u Q I rx ry ⟨a, vs, _, w, ea, py'.int, .inl (.inl ha), hw', c _ _ (Res.flat rw')⟩ hs
  · obtain ⟨d, hd, rfl⟩ := Option.map_eq_some_iff.mp hf
    obtain ⟨a, vs, ea, ha, ra, _⟩ := px.tup
    obtain ⟨w, hw', rw'⟩ := ra.atI hd
    exact ix_tup value slice pins s σ H x y v u Q I rx ry ⟨a, vs, _, w, ea, py'.int, ha.sq, hw', c _ _ (Res.flat rw')⟩ hs
  · rename_i kvs
    obtain ⟨d, hd, rfl⟩ := Option.map_eq_some_iff.mp hf
    unfold dget at hd
    split at hd
    · rename_i n hk
      obtain ⟨b', hb', fb, rk⟩ : ∃ b', y = .ref b' ∧ F b' ∧ Rep G F H y dy := by
        obtain ⟨_, _, xs, rfl⟩ := dkey_nk hk
        obtain ⟨p, vs, ea, ha, ra, fa⟩ := py'.tup
        exact ⟨p, ea, fa, ea ▸ .at fa (.tup ha ra)⟩
      subst hb'
      obtain rfl : u = Value.ref b' := ry
      obtain ⟨a, ea, ta⟩ : ∃ a, x = .ref a ∧ Top G F H a (.dct kvs) := by
        rcases px with q | ⟨a, e, _, _, t⟩
        · cases q with
          | «at» f t => exact ⟨_, rfl, t⟩
        · exact ⟨a, e, t⟩
      subst ea
      obtain rfl : v = Value.ref a := rx
      obtain ⟨hs', xs, rx', hm, rd, hz⟩ := ta.dictOf (P := X.prog) I
      obtain ⟨g1, g2, g3⟩ := rx'.find (n := n)
      rw [← hw] at hm
      have hkey := rk.isKey (P := X.prog) I hk
      rw [← hw] at hkey
      have hroom : (nestedKind X.prog X.w).room X.A.in1 := by show X.A.units + 1 + 8 < cLine; omega
      cases hq : atKey xs n with
      | none => rw [g3 hq] at hd; cases hd
      | some p =>
        obtain ⟨pb, pu⟩ := p
        obtain ⟨d', vv, e1, e2, e3⟩ := g1 pb pu hq
        rw [hd] at e1
        cases e1
        refine tail_any hm.typeIs slot_dict_getitem.lookup (wpAny_getItem_heap hroom hkey hm hq ?_) hs
        exact ⟨vv, H, I.tok _, e2, c _ _ (Res.flat e3)⟩
    · cases hd
  · cases hf
def vIdx (a b : Opd) : WE := vP2 opIdx a b
theorem ev_idx {a b : Expr} {oa ob : Opd} {pos : Pos} (hw : X.w = G.w) (hu : X.A.units + 65 < cLine) (ha : OV X G a oa) (hb : OV X G b ob) (hs : PlainIx b := by intro _ _; rfl) : EV X G (.Subscript a b pos) (vP2 opIdx oa ob) :=
  ⟨(pe_ix (ix_any hw hu) ha.run hb.run hs).imp fun σ H Q ⟨B, F, env, K, R, w, c⟩ => ⟨B, F, env, _, R, w, fun x H1 ra env1 F1 R1 rep1 k1 => ⟨Bs.at F1 H1 env1 σ, F1, env1, _, R1.here, k1, fun y H2 rb env2 F2 R2 rep2 k2 => by
    split at k2
    · rename_i dx dy gx gy
      obtain ⟨r, fr, k⟩ := kP_some k2
      refine ⟨F2, dx, dy, r, R2.lF, R2.getR (R1.repR R2 rep1) gx, R2.getR rep2 gy, fr, fun v' H' q => ?_⟩
      obtain ⟨F3, R3, rr⟩ := (R1.trans R2).res q
      exact c v' H' r env2 F3 R3 rr k
    · exact k2.elim⟩⟩⟩
/-! ### slices -/
def cutD (xs : List D) (lo hi : Option Int) : List D := (xs.drop (HT.sIx xs.length 0 lo)).take (HT.sIx xs.length xs.length hi - HT.sIx xs.length 0 lo)
def opCut : D → Option Int → Option Int → Option Rv
  | .lst xs, lo, hi => some (.ow (.lst (cutD xs lo hi)))
  | .tup xs, lo, hi => some (.sh (.tup (cutD xs lo hi)))
  | _, _, _ => none
theorem RepL.drop {F : Addr → Prop} {H : Hp} : ∀ {vs : List V} {ds : List D} (n : Nat), RepL G F H vs ds → RepL G F H (vs.drop n) (ds.drop n)
  | _, _, 0, r => r
  | _, _, n + 1, .nil => .nil
  | _, _, n + 1, .cons _ t => RepL.drop n t
theorem RepL.take {F : Addr → Prop} {H : Hp} : ∀ {vs : List V} {ds : List D} (n : Nat), RepL G F H vs ds → RepL G F H (vs.take n) (ds.take n)
  | _, _, 0, r => .nil
  | _, _, n + 1, .nil => .nil
  | _, _, n + 1, .cons r t => .cons r (RepL.take n t)
theorem RepL.cut {F : Addr → Prop} {H : Hp} {vs : List V} {ds : List D} (r : RepL G F H vs ds) (lo hi : Option Int) : RepL G F H (cutV vs lo hi) (cutD ds lo hi) := by
  unfold cutV cutD
  rw [r.len]
  exact (r.drop _).take _
def rCut (G : Gx) : V → Option Int → Option Int → Hp → VK → Prop := fun x lo hi H Q => ∃ F dx r, FOk G F H ∧ RepP G F H x dx ∧ opCut dx lo hi = some r ∧ ∀ v' H', Res G F H v' H' r → Q v' H'
def rSlS (K : PySem.W.Frag) : V → Option Int → Option Int → Hp → VK → Prop := fun x lo hi H Q => ∃ a xs, x = .ref a ∧ SqT K H a xs ∧
  (HT.sIx xs.length 0 lo = 0 ∧ HT.sIx xs.length xs.length hi = xs.length → Q (.ref a) H) ∧ (¬ (HT.sIx xs.length 0 lo = 0 ∧ HT.sIx xs.length xs.length hi = xs.length) → ∀ p ob, H p = none → ob.dict = none → Q (.ref p) (upd H p (.frz ob (.tup (cutV xs lo hi)))))
theorem sl_tupS : SlR X (rSlS X.K) := by
  intro pins s σ H x v vl vu lo hi sl Q I rx hs pl pu h
  obtain ⟨a, xs, rfl, hx, q1, q2⟩ := h
  cases rx
  obtain ⟨its, r, ht, hz⟩ := I.tuple hx
  have hlen : its.toArray.size = xs.length := by rw [List.size_toArray]; exact r.length.symm
  refine ⟨"tuple", _, PyProof.Rows.slot_tuple_getitem.lookup, ht.typeIs, ?_⟩
  by_cases hw : HT.sIx xs.length 0 lo = 0 ∧ HT.sIx xs.length xs.length hi = xs.length
  · exact getItem_tuple_whole ht hs pl pu (by rw [hlen]; exact hw) ⟨.ref a, H, I, rfl, q1 hw⟩
  · refine HT.getItem_tuple_cut ht hs pl pu (by rw [hlen]; exact hw) ?_ (by rw [hlen]; exact hz)
    rw [hlen]
    refine ⟨.ref s.heap.objs.size, _, I.laid (t' := s.toks) (o := .frz _ (.tup (cutV xs lo hi))) (fun b ob q => Heap.get?_push_of_some _ q) (Nat.le_refl _) ⟨Heap.get?_push_size _ rfl, ?_⟩, rfl, q2 hw _ _ (I.hok.fresh (Nat.le_refl _)) rfl⟩
    exact ⟨Nat.le_trans (cutV_length xs lo hi) hz, _, (r.drop (HT.sIx xs.length 0 lo)).take (HT.sIx xs.length xs.length hi - HT.sIx xs.length 0 lo), IsTup.new _ _⟩
theorem sl_any : SlR X (rCut G) := by
  intro pins s σ H x v vl vu lo hi sl Q I rx hs pl pu ⟨F, dx, r, fo, px, hf, c⟩
  unfold opCut at hf
  split at hf
  · cases hf
    obtain ⟨a, vs, ea, ha, ra⟩ := px.lst
    exact sl_list pins s σ H x v vl vu _ _ sl Q I rx hs pl pu ⟨a, vs, ea, .inl (.inl ha), fun p hp => c _ _ (Res.newLst fo hp (ra.cut _ _))⟩
  · rename_i xs
    cases hf
    obtain ⟨a, vs, ea, ha, ra, fa⟩ := px.tup
    refine sl_tupS pins s σ H x v vl vu _ _ sl Q I rx hs pl pu ⟨a, vs, ea, ha.sq, fun ⟨e1, e2⟩ => ?_, fun _ p ob hp hob => c _ _ (Res.newTup fo hp hob (ra.cut _ _))⟩
    have : cutD xs lo hi = xs := by
      unfold cutD
      rw [ra.len] at e1 e2
      rw [e1, e2]
      simp
    rw [this] at c
    exact c _ _ (Res.flat (ea ▸ .at fa (.tup ha ra)))
  · cases hf
/-- an optional part of a slice -/
inductive WO where
  | no | e (w : WE)
def evP : WO → Ev → (Option Int → Ev → Prop) → Prop
  | .no, env, K => K none env
  | .e w, env, K => w env fun r e => match r with
    | .sh (.int i) => K (some i) e
    | _ => False
def tP (G : Gx) (w : WO) : TO := fun σ H Q => ∃ B F env K, Rel G B F env σ H ∧ evP w env K ∧ ∀ o H' env' F', Rel G B F' env' σ H' → K o env' → Q o H'
structure PV' (X : Cx) (G : Gx) (e : Option Expr) (w : WO) : Prop where
  run : PO X e (tP G w)
theorem _root_.L2.PO.imp {X : Cx} {e : Option Expr} {t t' : TO} (h : PO X e t) (i : ∀ σ H Q, t' σ H Q → t σ H Q) : PO X e t' := ⟨fun pins s σ H Q I q => h.run pins s σ H Q I (i σ H Q q)⟩
theorem pv_no : PV' X G none .no := ⟨po_none.imp fun σ H Q ⟨B, F, env, K, R, w, c⟩ => c none H env F R w⟩
theorem pv_e {e : Expr} {w : WE} (h : EV X G e w) : PV' X G (some e) (.e w) := ⟨(po_some h.run).imp fun σ H Q ⟨B, F, env, K, R, w, c⟩ => ⟨B, F, env, _, R, w, fun v H1 r env1 F1 R1 rr k1 => by
  split at k1
  · rename_i i
    exact ⟨i, rep_int rr, c _ H1 env1 F1 R1 k1⟩
  · exact k1.elim⟩⟩
def vCut (a : Opd) (lo hi : WO) : WE := fun env K => evO a env fun ra e1 => evP lo e1 fun l e2 => evP hi e2 fun h e3 => match getR e3 ra with
  | some x => kP (opCut x l h) K e3
  | none => False
theorem ev_cut {e : Expr} {lo hi : Option Expr} {o : Opd} {wl wh : WO} {p2 pos : Pos} (he : OV X G e o) (hl : PV' X G lo wl) (hh : PV' X G hi wh) : EV X G (.Subscript e (.Slice lo hi none p2) pos) (vCut o wl wh) :=
  ⟨(pe_slice sl_any he.run hl.run hh.run).imp fun σ H Q ⟨B, F, env, K, R, w, c⟩ => ⟨B, F, env, _, R, w, fun x H1 ra env1 F1 R1 rep1 k1 => ⟨Bs.at F1 H1 env1 σ, F1, env1, _, R1.here, k1, fun l H2 env2 F2 R2 k2 =>
    ⟨Bs.at F2 H2 env2 σ, F2, env2, _, R2.here, k2, fun h H3 env3 F3 R3 k3 => by
    have R23 := R2.trans R3
    split at k3
    · rename_i dx gx
      obtain ⟨r, fr, k⟩ := kP_some k3
      refine ⟨F3, dx, r, R3.lF, R3.getR (R1.repR R23 rep1) gx, fr, fun v' H' q => ?_⟩
      obtain ⟨F4, R4, rr⟩ := (R1.trans R23).res q
      exact c v' H' r env3 F4 R4 rr k
    · exact k3.elim⟩⟩⟩⟩

/-! ### built-ins -/
def opLen : D → Option Rv
  | .lst xs => some (.sh (.int xs.length))
  | .tup xs => some (.sh (.int xs.length))
  | .dct kvs => some (.sh (.int kvs.length))
  | _ => none
theorem cr_len (hw : X.w = G.w) : CallR X (.builtin "len") (rP1 G opLen) := by
  intro pins s σ H vs us Q I r h
  obtain ⟨F, v, dx, rr, fo, rfl, px, hf, c⟩ := h
  unfold opLen at hf
  split at hf
  · cases hf
    obtain ⟨a, xs, ea, ha, ra⟩ := px.lst
    refine call_len_seq pins s σ H _ us Q I r ⟨a, xs, by rw [ea], .inl (.inl (.inl ha)), ?_⟩
    rw [ra.len]
    exact c _ _ (Res.flat (.int _))
  · cases hf
    obtain ⟨a, xs, ea, ha, ra, _⟩ := px.tup
    refine call_len_seq pins s σ H _ us Q I r ⟨a, xs, by rw [ea], .inr ha.sq, ?_⟩
    rw [ra.len]
    exact c _ _ (Res.flat (.int _))
  · cases hf
    rename_i kvs
    obtain ⟨a, ea, ta⟩ : ∃ a, v = .ref a ∧ Top G F H a (.dct kvs) := by
      rcases px with q | ⟨a, e, _, _, t⟩
      · cases q with
        | «at» f t => exact ⟨_, rfl, t⟩
      · exact ⟨a, e, t⟩
    subst ea
    obtain ⟨u, rfl, ru⟩ := vals1 r
    obtain rfl : u = Value.ref a := ru
    obtain ⟨hs, xs, rx', hm, rd, hz⟩ := ta.dictOf (P := X.prog) I
    rw [← hw] at hm
    have hk : s.heap.DictKeyed (nestedKind X.prog X.w) a (pairsH xs) := ⟨xs, hm, rfl⟩
    have hl := pairsH_length xs
    refine PyProof.Rows.call_len_slot (n := (pairsH xs).length) hk.typeIs PySem.F.slot_dict_len (fun Q' hq => len_keyed hs hk hq) (by omega) (by rw [hl]; rw [sizeLine_is] at hz; omega) ?_
    rw [hl, rx'.len]
    exact ⟨.int _, H, I.tok _, ⟨_, rfl⟩, c _ _ (Res.flat (.int _))⟩
  · cases hf
def opTuple : D → Option Rv
  | .lst xs => some (.sh (.tup xs))
  | .tup xs => some (.sh (.tup xs))
  | _ => none
theorem cr_tuple : CallR X (.type "tuple") (rP1 G opTuple) := by
  intro pins s σ H vs us Q I r h
  obtain ⟨F, v, dx, rr, fo, rfl, px, hf, c⟩ := h
  unfold opTuple at hf
  split at hf
  · cases hf
    obtain ⟨a, xs, ea, ha, ra⟩ := px.lst
    rw [ea] at r
    rw [Vals.ref1 r]
    obtain ⟨its, rv, pl, hz⟩ := I.list (.inl (.inl ha))
    refine call_tuple_list pl.isList (fun h' hk => ?_) (by rw [List.size_toArray, ← rv.length]; exact hz)
    have I1 : Inv X pins σ H { s with heap := h' } := I.kept (t' := s.toks) hk
    refine ⟨.ref h'.objs.size, _, I1.laid (t' := s.toks) (o := .frz _ (.tup xs)) (fun b o e => Heap.get?_push_of_some _ e) (Nat.le_refl _) ⟨Heap.get?_push_size _ rfl, hz, its, rv, IsTup.new _ _⟩, rfl, c _ _ (Res.newTup fo (I1.hok.fresh (Nat.le_refl _)) rfl ra)⟩
  · cases hf
    obtain ⟨a, xs, ea, ha, ra, fa⟩ := px.tup
    exact call_tuple_of pins s σ H _ us Q I r ⟨a, xs, by rw [ea], .inr ⟨ha.sq, c _ _ (Res.flat (.at fa (.tup ha ra)))⟩⟩
  · cases hf
def opList : D → Option Rv
  | .lst xs => some (.ow (.lst xs))
  | .tup xs => some (.ow (.lst xs))
  | _ => none
theorem cr_list : CallR X (.type "list") (rP1 G opList) := by
  intro pins s σ H vs us Q I r h
  obtain ⟨F, v, dx, rr, fo, rfl, px, hf, c⟩ := h
  unfold opList at hf
  split at hf
  · cases hf
    obtain ⟨a, xs, ea, ha, ra⟩ := px.lst
    exact call_list_of pins s σ H _ us Q I r ⟨a, xs, by rw [ea], .inl (.inl (.inl ha)), fun l hl => c _ _ (Res.newLst fo hl ra)⟩
  · cases hf
    obtain ⟨a, xs, ea, ha, ra, fa⟩ := px.tup
    exact call_list_of pins s σ H _ us Q I r ⟨a, xs, by rw [ea], .inr ha.sq, fun l hl => c _ _ (Res.newLst fo hl ra)⟩
  · cases hf
def opInt : D → Option Rv
  | .int i => some (.sh (.int i))
  | _ => none
theorem cr_int : CallR X (.type "int") (rP1 G opInt) := by
  intro pins s σ H vs us Q I r h
  obtain ⟨F, v, dx, rr, fo, rfl, px, hf, c⟩ := h
  unfold opInt at hf
  split at hf
  · cases hf
    exact call_int1 pins s σ H _ us Q I r (.inl ⟨_, by rw [px.int], c _ _ (Res.flat (.int _))⟩)
  · cases hf
end
end PV
end
section
set_option autoImplicit false
set_option linter.all false
set_option maxRecDepth 100000
namespace PV
open PySem PySem.Spec PyProof.Rows L2

section
variable {X : Cx} {G : Gx} {B : Bs} {F F' : Addr → Prop} {env env' : Ev} {σ σ' : L2.St} {H H' : Hp} {v : V} {d : D} {a : Addr} {i : Nat} {e : Expr} {es : List Expr} {pos : Pos} {w : WE} {l : WL}

/-! ### xs.append(e), xs.pop(k), of a local -/
def vAppend (i : Nat) (w : WE) : WE := fun env K => match env[i]? with
  | some (.ow (.lst _)) => w env fun r e1 => match e1[i]? with
    | some (.ow (.lst xs)) => xs.length < 16777216 ∧ K (.sh .non) (e1.set i (.ow (.lst (xs ++ [r.d]))))
    | _ => False
  | _ => False
theorem Rel.owLst {xs : List D} (R : Rel G B F env σ H) (e : env[i]? = some (.ow (.lst xs))) : ∃ a vs, σ[i]? = some (some (.ref a)) ∧ H a = some (.lst vs) ∧ RepL G F H vs xs ∧ ¬ F a := by
  obtain ⟨a, s, nf, _, m, t, _⟩ := R.ow i _ e
  cases t with
  | lst h l => exact ⟨a, _, s, h, l, nf⟩
theorem ev_append {o : Expr} {apos : Pos} (ho : PE X o (tVar i)) (h : EV X G e w) 
    (hbase : attributeBase o "append" X.env (eval o X.env) = eval o X.env := by rfl)
    (hfew : ((backTo pos (starEach [e] X.env)).all (fun x => !x.1) && (backToKw pos (keywordEach [] X.env)).all (fun x => x.1.isSome)
      && decide ([e].length + ([] : List Keyword).length + (if ([] : List Keyword).isEmpty then 0 else 1) < 30)) = true := by rfl)
    (hline2 : (apos.endLine == pos.line) = true := by rfl) (hs : starEach [e] X.env = (false, eval e X.env) :: starEach [] X.env := by rfl) (hplain : (backTo pos (starEach [] X.env)).any (·.1) = false := by rfl) :
    EV X G (.Call (.Attribute o "append" apos) [e] [] pos) (vAppend i w) :=
  ⟨(pe_bm PySem.F.plainAttrs_list PySem.F.slot_list_append PySem.F.type_list_append mt_append ho (lv_cons h lv_nil hs).run hbase hfew hline2 hs hplain).imp fun σ H Q ⟨B, F, env, K, R, w0, c⟩ => by
    unfold vAppend at w0
    split at w0
    · rename_i xs0 e0
      obtain ⟨a, vs0, s0, h0, _, _⟩ := R.owLst e0
      refine ⟨_, s0, .inl ⟨rfl, vs0, .inl (.inl h0)⟩, Bs.at F H env σ, F, env, fun ds e1 => match ds with
        | [d] => (match e1[i]? with
          | some (.ow (.lst xs)) => xs.length < 16777216 ∧ K (.sh .non) (e1.set i (.ow (.lst (xs ++ [d]))))
          | _ => False)
        | _ => False, R.here, w0, fun us H1 ds env1 F1 R1 reps k1 => ?_⟩
      cases reps with
      | nil => exact k1.elim
      | @cons v0 d0 us0 ds0 rep t =>
        cases t with
        | cons _ _ => exact k1.elim
        | nil =>
          simp only at k1
          split at k1
          · rename_i xs e1
            obtain ⟨a', vs, s1, h1, l1, nf⟩ := R1.owLst e1
            rw [s0] at s1
            cases s1
            refine ⟨a, vs, _, rfl, rfl, h1, by rw [l1.len, sizeLine_is]; exact k1.1, ?_⟩
            have R2 := R.trans R1
            have tr : Tr F1 H1 (upd H1 a (.lst (vs ++ [v0]))) := .of fun b hb => upd_ne fun z => nf (z ▸ hb)
            exact c .non _ (.sh .non) _ F1 (R2.mut e1 s0 trivial (.lst upd_same ((l1.mono (fun _ z => z) tr).append (.cons (rep.mono (fun _ z => z) tr) .nil)))) .non k1.2
          · exact k1.elim
    · exact w0.elim⟩
theorem RepL.eraseIdx : ∀ {vs : List V} {ds : List D} (n : Nat), RepL G F H vs ds → RepL G F H (vs.eraseIdx n) (ds.eraseIdx n)
  | _, _, _, .nil => .nil
  | _, _, 0, .cons _ t => t
  | _, _, n + 1, .cons r t => .cons r (RepL.eraseIdx n t)
theorem RepL.set {v : V} {d : D} (q : Rep G F H v d) : ∀ {vs : List V} {ds : List D} (n : Nat), RepL G F H vs ds → RepL G F H (vs.set n v) (ds.set n d)
  | _, _, _, .nil => .nil
  | _, _, 0, .cons _ t => .cons q t
  | _, _, n + 1, .cons r t => .cons r (RepL.set q n t)
def popAt (i : Nat) (K : Rv → Ev → Prop) (d : D) (e1 : Ev) : Prop := match d, e1[i]? with
  | .int j, some (.ow (.lst xs)) => (-(2 ^ 63) ≤ j ∧ j < 2 ^ 63) ∧ match seqIndex? j xs.length with
    | some k => (match xs[k]? with
      | some x => K (.sh x) (e1.set i (.ow (.lst (xs.eraseIdx k))))
      | none => False)
    | none => False
  | _, _ => False
def vPopAt (i : Nat) (w : WE) : WE := fun env K => match env[i]? with
  | some (.ow (.lst _)) => w env fun r e1 => popAt i K r.d e1
  | _ => False
theorem ev_popAt {o : Expr} {apos : Pos} (ho : PE X o (tVar i)) (h : EV X G e w)
    (hbase : attributeBase o "pop" X.env (eval o X.env) = eval o X.env := by rfl)
    (hfew : ((backTo pos (starEach [e] X.env)).all (fun x => !x.1) && (backToKw pos (keywordEach [] X.env)).all (fun x => x.1.isSome)
      && decide ([e].length + ([] : List Keyword).length + (if ([] : List Keyword).isEmpty then 0 else 1) < 30)) = true := by rfl)
    (hline2 : (apos.endLine == pos.line) = true := by rfl) (hs : starEach [e] X.env = (false, eval e X.env) :: starEach [] X.env := by rfl) (hplain : (backTo pos (starEach [] X.env)).any (·.1) = false := by rfl) :
    EV X G (.Call (.Attribute o "pop" apos) [e] [] pos) (vPopAt i w) :=
  ⟨(pe_bm PySem.F.plainAttrs_list PySem.F.slot_list_pop PySem.F.type_list_pop mt_popAt ho (lv_cons h lv_nil hs).run hbase hfew hline2 hs hplain).imp fun σ H Q ⟨B, F, env, K, R, w0, c⟩ => by
    unfold vPopAt at w0
    split at w0
    · rename_i xs0 e0
      obtain ⟨a, vs0, s0, h0, _, _⟩ := R.owLst e0
      refine ⟨_, s0, .inl ⟨rfl, vs0, .inl (.inl h0)⟩, Bs.at F H env σ, F, env, fun ds e1 => match ds with
        | [d] => popAt i K d e1
        | _ => False, R.here, w0, fun us H1 ds env1 F1 R1 reps k1 => ?_⟩
      cases reps with
      | nil => exact k1.elim
      | cons rep t =>
        cases t with
        | cons _ _ => exact k1.elim
        | nil =>
          simp only [popAt] at k1
          split at k1
          · rename_i j xs e1
            obtain ⟨hj, k1⟩ := k1
            split at k1
            · rename_i k hk
              split at k1
              · rename_i x hx
                obtain ⟨a', vs, s1, h1, l1, nf⟩ := R1.owLst e1
                rw [s0] at s1
                cases s1
                obtain ⟨y, hy, ry⟩ := l1.get hx
                refine ⟨a, vs, j, k, y, rfl, by rw [rep_int rep], h1, hj.1, hj.2, by rw [l1.len]; exact hk, hy, ?_⟩
                have R2 := R.trans R1
                have tr : Tr F1 H1 (upd H1 a (.lst (vs.eraseIdx k))) := .of fun b hb => upd_ne fun z => nf (z ▸ hb)
                exact c y _ (.sh x) _ F1 (R2.mut e1 s0 trivial (.lst upd_same ((l1.mono (fun _ z => z) tr).eraseIdx k))) (ry.mono (fun _ z => z) tr) k1
              · exact k1.elim
            · exact k1.elim
          · exact k1.elim
    · exact w0.elim⟩

/-! ### x[k] = e, of a local -/
def opSet : D → D → D → Option D
  | .dct kvs, k, d => match dkey k with
    | some n => if kvs.length < 16777216 then some (.dct (dputN kvs n k d)) else none
    | none => none
  | .lst xs, .int j, d => (ixN xs.length j).map fun k => .lst (xs.set k d)
  | _, _, _ => none
def rSet (G : Gx) : TSet := fun o i v H Q => ∃ F dk dv a cur new, FOk G F H ∧ o = .ref a ∧ ¬ F a ∧ Mut (H a) ∧ Top G F H a cur ∧ RepP G F H i dk ∧ Rep G F H v dv ∧ opSet cur dk dv = some new ∧ ∀ ob, Mut (some ob) → Top G F (upd H a ob) a new → Q (upd H a ob)
theorem dputN_len (kvs : List (D × D)) (n : NestedKey) (k d : D) : (dputN kvs n k d).length ≤ kvs.length + 1 := by
  unfold dputN
  split <;> simp
theorem dputN_keys {kvs : List (D × D)} {n : NestedKey} {k d : D} (hk : dkey k = some n) (nd : (kvs.map fun p => dkey p.1).Nodup) : ((dputN kvs n k d).map fun p => dkey p.1).Nodup := by
  unfold dputN
  split
  · have : (kvs.map fun p => if keq n p = true then (p.1, d) else p).map (fun p => dkey p.1) = kvs.map fun p => dkey p.1 := by
      rw [List.map_map]
      apply List.map_congr_left
      intro p _
      simp only [Function.comp]
      split <;> rfl
    rw [this]
    exact nd
  · rename_i h
    rw [List.map_append, List.map_cons, List.map_nil]
    refine List.nodup_append.mpr ⟨nd, by simp, ?_⟩
    intro x hx y hy e
    simp only [List.mem_singleton] at hy
    subst hy e
    rw [hk] at hx
    obtain ⟨p, hp, e⟩ := List.mem_map.mp hx
    apply h
    unfold dhas
    rw [List.any_eq_true]
    exact ⟨p, hp, by simp [keq, e]⟩
theorem ps_set_any (hw : X.w = G.w) (hu : X.A.units + 65 < cLine) : PSet X (rSet G) := by
  intro pins s σ H o iv v ov iu u Q I ro ri rv h
  obtain ⟨F, dk, dv, a, cur, new, fo, rfl, nf, mu, t, pk, pv', hf, c⟩ := h
  obtain rfl : ov = Value.ref a := ro
  unfold opSet at hf
  split at hf
  · rename_i kvs
    split at hf
    · rename_i n hk
      split at hf
      · rename_i hlen
        cases hf
        obtain ⟨b', hb', fb, rk⟩ : ∃ b', iv = .ref b' ∧ F b' ∧ Rep G F H iv dk := by
          obtain ⟨_, _, xs, rfl⟩ := dkey_nk hk
          obtain ⟨p, vs, ea, ha, ra, fa⟩ := pk.tup
          exact ⟨p, ea, fa, ea ▸ .at fa (.tup ha ra)⟩
        subst hb'
        obtain rfl : iu = Value.ref b' := ri
        have nd : (kvs.map fun p => dkey p.1).Nodup := by
          cases t with
          | dct _ _ nd _ => exact nd
        obtain ⟨hs', xs, rx', hm, rd, hz⟩ := t.dictOf (P := X.prog) I
        have hkey := rk.isKey (P := X.prog) I hk
        have hroom : (nestedKind X.prog X.w).room X.A.in1 := by show X.A.units + 1 + 8 < cLine; omega
        rw [← hw] at hm hkey
        refine wpAny_setItem_heap hroom hkey hm (fun h' hm' hs => ?_) (hsz := hz)
        have tr : Tr F H (upd H a (dictHO a ((storedH xs n b' u).map (entryOfKey (nestedKind X.prog G.w))))) := .of fun b hb => upd_ne fun z => nf (z ▸ hb)
        obtain ⟨o', es', ep', g1, g2, g3, g4, _, _⟩ := hm'
        rw [hw] at g4
        have he : es' = ((storedH xs n b' u).map (entryOfKey (nestedKind X.prog G.w))).toArray := by simp [← g4]
        have I2 := d_write (ob := dictHO a ((storedH xs n b' u).map (entryOfKey (nestedKind X.prog G.w)))) (t' := s.toks + (nestedKind X.prog X.w).draws n) I mu hs ⟨o', g1⟩ (dictHO_new hs' ⟨o', ep', g1, g2, by rw [g3, he]⟩)
        refine ⟨_, I2, c _ trivial (.dct (.inl upd_same) ?_ (dputN_keys hk nd) ?_)⟩
        · exact ((rx'.store hk rk rv pv').mono (fun _ z => z) tr).toE
        · have l1 := (rx'.store hk rk rv pv').len
          have l2 := dputN_len kvs n dk dv
          rw [List.length_map, l1, sizeLine_is]
          omega
      · cases hf
    · cases hf
  · rename_i xs j
    obtain ⟨k, hk, rfl⟩ := Option.map_eq_some_iff.mp hf
    cases t with
    | lst ha ra =>
      rename_i vs
      have hj := pk.int
      refine set_list pins s σ H (.ref a) iv v _ iu u Q I rfl ri rv ?_
      refine ⟨a, vs, j, k, rfl, hj, ha, by rw [ra.len]; exact hk, ?_⟩
      have tr : Tr F H (upd H a (.lst (vs.set k v))) := .of fun b hb => upd_ne fun z => nf (z ▸ hb)
      exact c _ trivial (.lst upd_same ((ra.mono (fun _ z => z) tr).set (pv'.mono (fun _ z => z) tr) k))
  · cases hf
def sSetIdx (i : Nat) (o : Opd) (w : WE) : WS := fun k env => w env fun r e1 => match getR e1 (.inl i) with
  | some _ => evO o e1 fun rk e2 => match e2[i]?, getR e2 rk with
    | some (.ow cur), some dk => (match opSet cur dk r.d with
      | some new => k.nx (e2.set i (.ow new))
      | none => False)
    | _, _ => False
  | none => False
theorem sv_setIdx {x key : Expr} {o : Opd} {spos : Pos} (hw : X.w = G.w) (hu : X.A.units + 65 < cLine) (hx : PE X x (tVar i)) (hk : OV X G key o) (h : EV X G e w)
    (ha : ∀ v, assign (.Subscript x key spos) X.env v = (do
      let ov ← holding [v] (eval x X.env)
      let iv ← holding [v, ov] (eval key X.env)
      standAt spos
      holding [v, ov, iv] (setItem ov iv v)
      release [v, ov, iv] []) := by intro _; rfl)
    (hs : swapsWithSole [.Subscript x key spos] e pos.line X.env = pure false := by rfl) (hsw : swappedStores [.Subscript x key spos] e X.env = pure none := by rfl)
    (h1 : (assignEach [.Subscript x key spos] X.env).map (·.2) = [assign (.Subscript x key spos) X.env] := by rfl) : SV X G (.Assign [.Subscript x key spos] e pos) (sSetIdx i o w) :=
  ⟨(ps_asg h.run (pg_sub (ov_v hx).run hk.run (ps_set_any hw hu) ha) hs hsw h1).imp fun D σ H ⟨B, F, env, k, R, w0, E⟩ => ⟨B, F, env, _, R, w0, fun v H1 r env1 F1 R1 rr k1 => by
    obtain ⟨F2, R2, rep, _⟩ := R1.freeze rr
    refine ⟨Bs.at F2 H1 env1 σ, F2, env1, fun ra e1 => ra = .inl i ∧ evO o e1 fun rk e2 => match e2[i]?, getR e2 rk with
      | some (.ow cur), some dk => (match opSet cur dk r.d with
        | some new => k.nx (e2.set i (.ow new))
        | none => False)
      | _, _ => False, R2.here, ?_, fun ov H2 ra env2 F3 R3 rep3 k3 => ?_⟩
    · show (match getR env1 (.inl i) with | some _ => _ | none => False)
      split at k1
      · rename_i q hq
        first
          | exact ⟨rfl, k1⟩
          | (rw [hq]; exact ⟨rfl, k1⟩)
      · exact k1.elim
    · obtain ⟨rfl, k3⟩ := k3
      refine ⟨Bs.at F3 H2 env2 σ, F3, env2, _, R3.here, k3, fun iv H4 rk env4 F4 R4 rep4 k4 => ?_⟩
      have R24 := R3.trans R4
      split at k4
      · rename_i cur dk e4 g4
        split at k4
        · rename_i new hn
          obtain ⟨a, s4, nf, _, m, t, _⟩ := R4.ow i _ e4
          have so : σ[i]? = some (some ov) := rep3
          rw [so] at s4
          cases s4
          refine ⟨F4, dk, r.d, a, cur, new, R4.lF, rfl, nf, m, t, R4.getR rep4 g4, R2.rep R24 rep, hn, fun ob mo tn => ?_⟩
          exact E.nx _ _ _ _ ((R2.trans R24).mut e4 so mo tn) k4
        · exact k4.elim
      · exact k4.elim⟩⟩

/-! ### {} -/
def vDnew : WE := fun env K => K (.ow (.dct [])) env
theorem ev_dnew : EV X G (.Dict [] [] pos) vDnew := by
  have base : PE X (.Dict [] [] pos) (fun σ H Q => ∀ p, H p = none → Q (.ref p) (upd H p (dictHO p []))) := ⟨fun pins s σ H Q I h => by
    refine wpAny_Dict_empty ⟨.ref s.heap.objs.size, _, I.laid (a := s.heap.objs.size) (o := dictHO s.heap.objs.size []) (t' := s.toks) (fun _ _ q => Heap.get?_push_of_some _ q) (Nat.le_refl _) ?_, rfl, h _ (I.hok.fresh (Nat.le_refl _))⟩
    obtain ⟨z, hd, _⟩ := dk_empty (P := X.prog) (w := X.w) (H := upd H s.heap.objs.size (.dK [])) s.heap I.big
    exact dictHO_new hd ⟨_, 0, Heap.get?_push_size _ rfl, ⟨rfl, rfl, rfl⟩, rfl⟩⟩
  exact ⟨base.imp fun σ H Q ⟨B, F, env, K, R, w0, c⟩ p hp => c _ _ (.ow (.dct [])) env F (R.new hp _) (R.freshRR hp trivial (.dct (.inl upd_same) .nil List.nodup_nil (Nat.zero_le _))) w0⟩

/-! ### an instance made, its attributes stored -/
def putD (f : Str) (v : D) : List (Str × D) → List (Str × D)
  | [] => [(f, v)]
  | (g, x) :: r => if g = f then (g, v) :: r else (g, x) :: putD f v r
theorem RepF.put {f : Str} {v : V} {d : D} (q : Rep G F H v d) : ∀ {fs : List (Str × V)} {ds : List (Str × D)}, RepF G F H fs ds → RepF G F H (putF f v fs) (putD f d ds)
  | _, _, .nil => .cons q .nil
  | _, _, .cons (n := n) r t => by
    by_cases e : n = f
    · simp only [putF, putD, if_pos e]
      exact .cons q t
    · simp only [putF, putD, if_neg e]
      exact .cons r (RepF.put q t)
theorem RepF.len : ∀ {fs : List (Str × V)} {ds : List (Str × D)}, RepF G F H fs ds → fs.length = ds.length
  | _, _, .nil => rfl
  | _, _, .cons r t => by simp [RepF.len t]
def sSetFld (i c : Nat) (f : Str) (w : WE) : WS := fun k env => w env fun r e1 => match (e1[i]? : Option Sl) with
  | some (.ow (.obj x c' fs)) => c' = c ∧ fs.length < 1000 ∧ k.nx (e1.set i (.ow (.obj x c (putD f r.d fs))))
  | _ => False
theorem sv_setFld {c : Nat} {o : Expr} {f : Str} {pos' : Pos} (ho : PE X o (tVar i)) (h : EV X G e w) (hc : Cls X.K (G.C c)) (hn : NoAttr X.K (G.C c) f) (hs : swapsWith e (some (.Attribute o f pos')) pos.line X.env = pure false := by rfl) :
    SV X G (.Assign [.Attribute o f pos'] e pos) (sSetFld i c f w) :=
  ⟨(ps_fld ho h.run hs).imp fun D σ H ⟨B, F, env, k, R, w0, E⟩ => ⟨B, F, env, _, R, w0, fun v H1 r env1 F1 R1 rr k1 => by
    obtain ⟨F2, R2, rep, _⟩ := R1.freeze rr
    split at k1
    · rename_i x0 c' fs e1
      obtain ⟨rfl, hl, k2⟩ := k1
      obtain ⟨a, s1, nf, _, m, t, _⟩ := R2.ow i _ e1
      cases t with
      | @obj _ dx _ vs _ ha rf =>
        refine ⟨_, s1, _, _, dx, vs, rfl, ha, hc, hn, by rw [rf.len]; exact hl, ?_⟩
        have tr : Tr F2 H1 (upd H1 x0 (.ins (G.C c') dx (putF f v vs))) := .of fun b hb => upd_ne fun z => nf (z ▸ hb)
        exact E.nx _ _ _ _ (R2.mut e1 s1 trivial (.obj upd_same ((rf.mono (fun _ z => z) tr).put (rep.mono (fun _ z => z) tr)))) k2
    · exact k1.elim⟩⟩
abbrev Fi := List D → (D → Prop) → Prop
/-- what an __init__ computes: N slots, the body; the instance at its end -/
def self0 (x : Addr) (K : D → Prop) (env : Ev) : Prop := match (env[0]? : Option Sl) with
  | some (.ow (.obj y c fs)) => y = x ∧ K (.ins c fs)
  | _ => False
def envI (x : Addr) (c N : Nat) (ds : List D) : Ev := .ow (.obj x c []) :: (ds.map .sh ++ List.replicate (N - 1 - ds.length) .no)
def fnI (c N : Nat) (w : WS) : Fi := fun ds K => ∀ x, w { nx := self0 x K, rt := fun _ => False } (envI x c N ds)
def spI (G : Gx) (c n : Nat) (wf : Fi) : Sp := fun vs H Q _ => ∃ x dx us, vs = .ref x :: us ∧ us.length = n ∧ H x = some (.ins (G.C c) dx []) ∧ ∃ F ds K, FOk G F H ∧ ¬ F x ∧ ¬ G.T.ad x ∧ G.T.ok H ∧ RepL G F H us ds ∧ wf ds K ∧
  ∀ d H' F', (∀ a, H a ≠ none → ¬ G.T.ad a → a ≠ x → H' a = H a) → (∀ a, H a ≠ none → H' a ≠ none) → G.T.ok H' → (∀ a, F a → F' a) → (∀ a, F' a → F a ∨ H a = none ∨ a = x) → FOk G F' H' → ¬ F' x → Mut (H' x) → Top G F' H' x d → K d → Q .non H'
theorem relI {N : List Str} {x dx : Addr} {c : Nat} {vs : List V} {ds : List D} (hN : ds.length < N.length) (f : FOk G F H) (nf : ¬ F x) (na : ¬ G.T.ad x) (hx : H x = some (.ins (G.C c) dx [])) (tp : G.T.ok H) (r : RepL G F H vs ds) :
    Rel G ⟨F, H, fun a => a = x⟩ F (envI x c N.length ds) (L2.start N (.ref x :: vs)) H := by
  unfold envI
  have hno : ∀ (i : Nat) (d : D), (.ow (.obj x c []) :: (ds.map Sl.sh ++ List.replicate (N.length - 1 - ds.length) .no))[i]? = some (.ow d) → i = 0 ∧ d = .obj x c [] := fun i d e => by
    cases i with
    | zero => simp at e; exact ⟨rfl, e.symm⟩
    | succ i =>
      rw [List.getElem?_cons_succ] at e
      by_cases hi : i < (ds.map Sl.sh).length
      · rw [List.getElem?_append_left hi, List.getElem?_map] at e
        cases q : ds[i]? with
        | none => rw [q] at e; cases e
        | some x => rw [q] at e; cases e
      · rw [List.getElem?_append_right (by omega), List.getElem?_replicate] at e
        split at e <;> cases e
  have hs0 : (L2.start N (.ref x :: vs))[0]? = some (some (.ref x)) := by simp [L2.start]
  refine ⟨?_, fun i d e => ?_, fun i d e => ?_, fun i j a ⟨⟨d, e⟩, _⟩ ⟨⟨d', e'⟩, _⟩ => by rw [(hno i d e).1, (hno j d' e').1], fun _ h => h, fun _ h => .inl h, fun _ _ _ _ => rfl, fun _ h => h, f, tp⟩
  · have := r.len
    simp [L2.start]
    omega
  · cases i with
    | zero => simp at e
    | succ i =>
      rw [List.getElem?_cons_succ] at e
      by_cases hi : i < (ds.map Sl.sh).length
      · rw [List.getElem?_append_left hi, List.getElem?_map] at e
        cases q : ds[i]? with
        | none => rw [q] at e; cases e
        | some y =>
          rw [q] at e
          have e' : y = d := by simpa using e
          subst e'
          obtain ⟨v, h1, h2⟩ := r.get q
          refine ⟨v, ?_, h2⟩
          unfold L2.start
          have hv : i < (vs.map some).length := by
            rw [List.length_map, r.len]
            rw [List.length_map] at hi
            exact hi
          rw [List.map_cons, List.cons_append, List.getElem?_cons_succ, List.getElem?_append_left hv, List.getElem?_map, h1]
          rfl
      · rw [List.getElem?_append_right (by omega), List.getElem?_replicate] at e
        split at e <;> cases e
  · obtain ⟨rfl, rfl⟩ := hno i d e
    exact ⟨x, hs0, nf, na, by rw [hx]; trivial, .obj hx .nil, .inl rfl⟩
theorem fn_init {P : Program} {w : World} {K : PySem.W.Frag} {mg : Str → Option Value} {base : Heap} {x qual : Str} {st : Stmt} {f : Addr} {fd : FuncData} {N ps : List Str} {c k n : Nat} {ws : WS} (Fu : Fun K x qual st f fd) (S : FnScope N ps (defScope st)) (hn : ps.length = n + 1) (hN : n < N.length)
    (hbody : ∀ (cdv : Value) (A : Around) (outer : List Env) (s : Shared) (H : Hp) (E : XK), Room k (A.deeper (envOfC qual (defScope st) s.heap.objs.size f cdv)) →
      SSV (cxOf CX0 P w K mg base N qual (defScope st) f cdv A outer s H E).nox G (defBody st) ws) : FnOk P w K mg base CX0 (k + 1) f fd ps (spI G c n (fnI c N.length ws)) := by
  refine Fu.ok S (fun vs H Q E h => ?_) fun cdv A outer s H vs Q E hr h => ?_
  · obtain ⟨x, dx, us, rfl, hl, _⟩ := h
    simp [hl, hn]
  obtain ⟨x, dx, us, rfl, hl, hx, F, ds, K', fok, nf, na, tp, reps, hw, cc⟩ := h
  have hd : ds.length = n := by rw [← reps.len]; exact hl
  refine ⟨_, (hbody cdv A outer s H E hr).run, ⟨F, H, fun a => a = x⟩, F, _, _, relI (by omega) fok nf na hx tp reps, hw x, ⟨fun σ' H' env' F' R h => ?_, fun v σ' H' r env' F' R rr h => h.elim, fun _ _ _ _ _ h => h, fun _ _ _ _ _ h => h⟩⟩
  have h : self0 x K' env' := h
  unfold self0 at h
  split at h
  · rename_i y c' fs e0
    obtain ⟨rfl, hk⟩ := h
    obtain ⟨a, s0, h1, h2, h3, h4, h5⟩ := R.ow 0 _ e0
    cases h4 with
    | obj ha rf =>
      exact cc _ H' F' (fun a g1 g2 g3 => R.kp a g2 g3 g1) R.al R.tp R.mF (fun a g => (R.nF a g)) R.lF h1 h3 (.ins ha rf) hk
  · exact h.elim
def vMake (n : Nat) (wf : Fi) (l : WL) : WE := fun env K => l env fun ds e => ds.length = n ∧ wf ds fun d => K (.ow d) e
theorem ev_make {c k n : Nat} {f : Addr} {fd : FuncData} {ps : List Str} {wf : Fi} {x : Str} {p : Pos} (M : Mk X.K (G.C c) f) (Fn : FnOk X.prog X.w X.K X.mg X.base CX0 k f fd ps (spI G c n wf)) (hr : Room (k + 1) X.A) (hg : Gl X x) (hm : X.mg x = some (.ref (G.C c))) (hb : Binds X.K fd ps [])
    (ha : LV X G (e :: es) l) (hdb : (x == ("__debug__" : Str)) = false := by decide) (he : starEach (e :: es) X.env = (false, eval e X.env) :: starEach es X.env := by rfl) (hpl : (backTo pos (starEach es X.env)).any (·.1) = false := by rfl) :
    EV X G (.Call (.Name x p) (e :: es) [] pos) (vMake n wf l) :=
  ⟨(pe_make M Fn hr hg hm hb .nil pass0 ha.run hdb he hpl).imp fun σ H Q ⟨B, F, env, K, R, w0, cc⟩ => ⟨B, F, env, _, R, w0, fun vs H1 ds env1 F1 R1 reps k1 => by
    intro x dx hx hdx hne
    rw [List.append_nil]
    have hxne : x ≠ dx := fun e => hne e.symm
    have R2 : Rel G B F1 env1 σ (upd (upd H1 dx (.own x)) x (.ins (G.C c) dx [])) := (R1.new hdx _).new (by rw [upd_ne hxne]; exact hx) _
    have hupd : ∀ a, H1 a ≠ none → upd (upd H1 dx (.own x)) x (.ins (G.C c) dx []) a = H1 a := fun a h => by
      rw [upd_ne fun e => by rw [e] at h; exact h hx, upd_ne fun e => by rw [e] at h; exact h hdx]
    have tr : Tr F1 H1 (upd (upd H1 dx (.own x)) x (.ins (G.C c) dx [])) := .of fun a h => hupd a (R1.lF a h).1
    refine ⟨x, dx, vs, rfl, by rw [reps.len]; exact k1.1, upd_same, F1, ds, _, R2.lF, R1.notF hx, fun z => G.T.live H1 R1.tp x z hx, R2.tp, reps.mono (fun _ z => z) tr, k1.2, fun d H' F' g1 g2 g3 g4 g5 g6 g7 g8 g9 hk => ⟨rfl, ?_⟩⟩
    have kp1 : ∀ a, H1 a ≠ none → ¬ G.T.ad a → H' a = H1 a := fun a h na => by
      rw [g1 a (by rw [hupd a h]; exact h) na (fun e => by rw [e] at h; exact h hx), hupd a h]
    have hR : Tr F1 H1 H' := .of fun a h => kp1 a (R1.lF a h).1 (R1.lF a h).2
    have R' : Rel G B F' env1 σ H' := by
      refine ⟨R1.len, fun i d e => ?_, fun i d e => ?_, R1.inj, fun a h => g4 a (R1.mF a h), fun a h => ?_, fun a h1 h2 h3 => ?_, fun a h => g2 a (by rw [hupd a (R1.al a h)]; exact R1.al a h), g6, g3⟩
      · obtain ⟨v, s, r⟩ := R1.sh i d e
        exact ⟨v, s, r.mono g4 hR⟩
      · obtain ⟨a, s, h1, h2, h3, h4, h5⟩ := R1.ow i d e
        have ea := kp1 a (mut_some h3) h2
        refine ⟨a, s, fun z => ?_, h2, by rw [ea]; exact h3, h4.mono2 g4 hR (.of fun b e => by rw [e]; exact ea), h5⟩
        rcases g5 a z with z | z | z
        · exact h1 z
        · rw [hupd a (mut_some h3)] at z
          exact mut_some h3 z
        · rw [z] at h3
          rw [hx] at h3
          exact h3
      · have hn : B.H0 a = none ∨ H1 a ≠ none := by
          cases q : B.H0 a with
          | none => exact .inl rfl
          | some u => exact .inr (R1.al a (by rw [q]; intro y; cases y))
        rcases g5 a h with z | z | z
        · exact R1.nF a z
        · rcases hn with hn | hn
          · exact .inr (.inl hn)
          · rw [hupd a hn] at z
            exact absurd z hn
        · rcases hn with hn | hn
          · exact .inr (.inl hn)
          · rw [z] at hn
            exact absurd hx hn
      · rw [kp1 a (R1.al a h3) h1]
        exact R1.kp a h1 h2 h3
    refine cc (.ref x) H' (.ow d) env1 F' R' ⟨x, rfl, g7, fun z => G.T.live H1 R1.tp x z hx, g8, g9, ?_, fun i o => mut_some (R1.ownF o).2.2.1 hx⟩ hk
    cases q : B.H0 x with
    | none => exact .inr rfl
    | some u => exact absurd hx (R1.al x (by rw [q]; intro y; cases y))⟩⟩
end
end PV
end
section
set_option autoImplicit false
set_option linter.all false
set_option maxRecDepth 100000
namespace PV
open PySem PySem.Spec PyProof.Rows L2

section
variable {X : Cx} {G : Gx} {B : Bs} {F F' : Addr → Prop} {env env' : Ev} {σ σ' : L2.St} {H H' : Hp} {v : V} {d : D} {a : Addr} {i : Nat} {e : Expr} {es : List Expr} {pos : Pos} {w : WE} {l : WL}

theorem ev_callTy1 {f : D → Option Rv} {a : Expr} {oa : Opd} {x : Str} {id : String} {p : Pos} (hr : CallR X (.type id) (rP1 G f)) (hg : Gl X x) (hm : X.mg x = none) (hv : bootBuiltins x = some (.type id)) (ha : OV X G a oa) (hn : x ≠ "__name__" := by decide) (hdb : (x == ("__debug__" : Str)) = false := by decide)
    (hs : starEach (a :: []) X.env = (false, eval a X.env) :: starEach [] X.env := by rfl) (hpl : (backTo pos (starEach [] X.env)).any (·.1) = false := by rfl) : EV X G (.Call (.Name x p) [a] [] pos) (vP1 f oa) :=
  ⟨(pe_callTy hr hg hm hv (av_cons ha av_nil hs).run hn hdb hs hpl).imp fun σ H Q ⟨B, F, env, K, R, w, c⟩ => ⟨B, F, env, args1 f K, R, w, fun vs H1 rs env1 F1 R1 reps k1 => by
    cases reps with
    | nil => exact k1.elim
    | cons rep t =>
      cases t with
      | cons _ _ => exact k1.elim
      | nil =>
      simp only [args1] at k1
      split at k1
      · rename_i dx gx
        obtain ⟨r, fr, k⟩ := kP_some k1
        refine ⟨F1, _, dx, r, R1.lF, rfl, R1.getR rep gx, fr, fun v' H' q => ?_⟩
        obtain ⟨F3, R3, rr⟩ := R1.res q
        exact c v' H' r env1 F3 R3 rr k
      · exact k1.elim⟩⟩

/-! ### a op b op c -/
theorem Res.blt {F : Addr → Prop} {v' : V} {b : Bool} (h : Res G F H v' H' (.sh (.bl b))) : v' = .bl b := by
  obtain ⟨_, F', _, _, r⟩ := h
  cases r with
  | bl => rfl
  | «at» f t => cases t
theorem ev_chain {op op' : CmpOp} {f f' : D → D → Option Rv} {a b c : Expr} {oa ob oc : Opd} (hr : OpR X (compareOp op) (rP2 G f)) (hr' : OpR X (compareOp op') (rP2 G f')) (ha : OV X G a oa) (hb : OV X G b ob) (hc : OV X G c oc)
    (hm : lastMarks [op, op'] [b, c] = false := by with_unfolding_all rfl) : EV X G (.Compare a [op, op'] [b, c] pos) (vChain f f' oa ob oc) :=
  ⟨(pe_chain hr hr' ha.run hb.run hc.run hm).imp fun σ H Q ⟨B, F, env, K, R, w, c⟩ => ⟨B, F, env, _, R, w, fun x H1 ra env1 F1 R1 rep1 k1 => ⟨Bs.at F1 H1 env1 σ, F1, env1, _, R1.here, k1, fun y H2 rb env2 F2 R2 rep2 k2 => by
    split at k2
    · rename_i dx dy gx gy
      split at k2
      · rename_i fr
        refine ⟨F2, dx, dy, _, R2.lF, R2.getR (R1.repR R2 rep1) gx, R2.getR rep2 gy, fr, fun v' H' q => ?_⟩
        refine ⟨true, q.blt, ?_⟩
        rw [if_pos rfl]
        obtain ⟨F3, R3, rr⟩ := (R1.trans R2).res q
        obtain ⟨F3', R3', rr'⟩ := R2.res q
        obtain ⟨F3, R3, rr⟩ := R2.here.res q
        refine ⟨Bs.at F3 H' env2 σ, F3, env2, _, R3.here, k2, fun z H4 rc env4 F4 R4 rep4 k4 => ?_⟩
        have R24 := R3.trans R4
        split at k4
        · rename_i dy' dz gy' gz
          obtain ⟨r, fr', k⟩ := kP_some k4
          refine ⟨F4, dy', dz, r, R4.lF, R4.getR (R2.repR R24 rep2) gy', R4.getR rep4 gz, fr', fun v'' H'' q' => ?_⟩
          obtain ⟨F5, R5, rr5⟩ := ((R1.trans R2).trans R24).res q'
          exact c v'' H'' r env4 F5 R5 rr5 k
        · exact k4.elim
      · rename_i fr
        refine ⟨F2, dx, dy, _, R2.lF, R2.getR (R1.repR R2 rep1) gx, R2.getR rep2 gy, fr, fun v' H' q => ?_⟩
        refine ⟨false, q.blt, ?_⟩
        rw [if_neg (by decide)]
        obtain ⟨F3, R3, rr⟩ := (R1.trans R2).res q
        exact c _ H' (.sh (.bl false)) env2 F3 R3 (Rep.bl false) k2
      · exact k2.elim
    · exact k2.elim⟩⟩⟩

/-! ### is None, is True, is False -/
theorem Rep.isNon {v : V} {d : D} (r : RepP G F H v d) : decide (v = .non) = isNon d := by
  rcases r with r | ⟨a, rfl, _, _, t⟩
  · cases r <;> first
      | rfl
      | (rename_i t; cases t <;> rfl)
  · cases t <;> rfl
def opNotN (x y : D) : Option Rv := match y with
  | .non => some (.sh (.bl (!PV.isNon x)))
  | .bl b => match x with
    | .bl a => some (.sh (.bl (!(a == b))))
    | _ => none
  | _ => none
theorem beq_dec (a b : Bool) : decide (a = b) = (a == b) := by cases a <;> cases b <;> rfl
theorem or_is : OpR X (compareOp .Is) (rP2 G opIsN) := by
  intro pins s σ H x y v u Q I rx ry ⟨F, dx, dy, r, fo, px, py', hf, c⟩
  unfold opIsN at hf
  split at hf
  · cases hf
    have ey : y = .non := py'.non
    refine op_isN pins s σ H x y v u Q I rx ry ⟨ey, ?_⟩
    rw [Rep.isNon px]
    exact c _ _ (Res.flat (.bl _))
  · split at hf
    · cases hf
      refine op_isBl pins s σ H x y v u Q I rx ry ⟨_, _, px.bl, py'.bl, ?_⟩
      rw [beq_dec]
      exact c _ _ (Res.flat (.bl _))
    · cases hf
  · cases hf
theorem or_isNot : OpR X (compareOp .IsNot) (rP2 G opNotN) := by
  intro pins s σ H x y v u Q I rx ry ⟨F, dx, dy, r, fo, px, py', hf, c⟩
  unfold opNotN at hf
  split at hf
  · cases hf
    have ey : y = .non := py'.non
    refine op_notN pins s σ H x y v u Q I rx ry ⟨ey, ?_⟩
    rw [Rep.isNon px]
    exact c _ _ (Res.flat (.bl _))
  · split at hf
    · cases hf
      refine op_notBl pins s σ H x y v u Q I rx ry ⟨_, _, px.bl, py'.bl, ?_⟩
      rw [beq_dec]
      exact c _ _ (Res.flat (.bl _))
    · cases hf
  · cases hf

/-! ### all, any -/
def opBls : List D → Option (List Bool)
  | [] => some []
  | .bl b :: r => (opBls r).map (b :: ·)
  | _ :: _ => none
theorem RepL.bls : ∀ {vs : List V} {ds : List D} {bs : List Bool}, RepL G F H vs ds → opBls ds = some bs → vs = bs.map V.bl
  | _, _, bs, .nil, h => by cases h; rfl
  | _, _, bs, @RepL.cons _ _ _ v d vs ds r t, h => by
    cases d with
    | bl b =>
      simp only [opBls] at h
      obtain ⟨cs, hc, rfl⟩ := Option.map_eq_some_iff.mp h
      rw [t.bls hc, (RepP.bl (.inl r) : v = .bl b)]
      rfl
    | _ => cases h
def opAll : D → Option Rv
  | .lst xs => (opBls xs).map fun bs => .sh (.bl (bs.all id))
  | _ => none
def opAny : D → Option Rv
  | .lst xs => (opBls xs).map fun bs => .sh (.bl (bs.any id))
  | _ => none
theorem cr_all (hc : X.calm = true) : CallR X (.builtin "all") (rP1 G opAll) := by
  intro pins s σ H vs us Q I r h
  obtain ⟨F, v, dx, rr, fo, rfl, px, hf, c⟩ := h
  unfold opAll at hf
  split at hf
  · obtain ⟨bs, hb, rfl⟩ := Option.map_eq_some_iff.mp hf
    obtain ⟨a, xs, ea, ha, ra⟩ := px.lst
    refine L2.cr_all hc pins s σ H _ us Q I r ⟨a, bs, by rw [ea], ?_, c _ _ (Res.flat (.bl _))⟩
    rw [← ra.bls hb]
    exact .inl (.inl ha)
  · cases hf
theorem cr_any (hc : X.calm = true) : CallR X (.builtin "any") (rP1 G opAny) := by
  intro pins s σ H vs us Q I r h
  obtain ⟨F, v, dx, rr, fo, rfl, px, hf, c⟩ := h
  unfold opAny at hf
  split at hf
  · obtain ⟨bs, hb, rfl⟩ := Option.map_eq_some_iff.mp hf
    obtain ⟨a, xs, ea, ha, ra⟩ := px.lst
    refine L2.cr_any hc pins s σ H _ us Q I r ⟨a, bs, by rw [ea], ?_, c _ _ (Res.flat (.bl _))⟩
    rw [← ra.bls hb]
    exact .inl (.inl ha)
  · cases hf
end
end PV
end
section
set_option autoImplicit false
set_option linter.all false
set_option maxRecDepth 100000
namespace PV
open PySem PySem.Spec PyProof.Rows L2

def dty : D → Option String
  | .non => some "NoneType"
  | .bl _ => some "bool"
  | .int _ => some "int"
  | .str _ => some "str"
  | .tup _ => some "tuple"
  | .lst _ => some "list"
  | .dct _ => some "dict"
  | _ => none
def isTy (T c : String) : Bool := T == c || (T == "bool" && c == "int")
def tyNames : List String := ["NoneType", "bool", "int", "str", "tuple", "list", "dict"]
theorem dty_mem {d : D} {T : String} (h : dty d = some T) : T ∈ tyNames := by
  cases d <;> first
    | (cases h; decide)
    | (cases h)
def clNames : List String := ["bool", "int", "str", "tuple", "list", "dict"]
theorem kit_names : ∀ T ∈ tyNames, ∀ c ∈ clNames, kitB T c = some (isTy T c) := by decide +kernel
section
variable {X : Cx} {G : Gx} {B : Bs} {F F' : Addr → Prop} {env env' : Ev} {σ σ' : L2.St} {H H' : Hp} {v : V} {d : D} {a : Addr} {i : Nat} {e : Expr} {es : List Expr} {pos : Pos} {w : WE} {l : WL} {pins : List (Addr × Obj)} {s : Shared}

theorem Top.kit {T : String} (I : L2.Inv X pins σ H s) (t : Top G F H a d) (h : dty d = some T) : ∃ P : Heap → Prop, PySem.W.KitX X.K (.ref a) (.type T) P ∧ P s.heap ∧ Value.ref a ≠ .builtin "__main__.__loader__#opaque" := by
  cases t with
  | tup r l =>
    cases h
    obtain ⟨ob, r, _⟩ := r
    exact kit_of I (x := .ref a) rfl (.fTuple r)
  | tupW r l => cases h
  | lst r l => cases h; exact kit_of I (x := .ref a) rfl (.base (.lst r))
  | dct r l n z =>
    cases h
    obtain ⟨_, o, ep, e1, e2, _⟩ := dictHO_of I r
    exact ⟨_, PySem.W.kitx_dict, ⟨o, e1, e2.1⟩, fun z => nomatch z⟩
  | ins r l => cases h
  | obj r l => cases h
theorem RepP.kit {T : String} {u : Value} (I : L2.Inv X pins σ H s) (r : RepP G F H v d) (ru : RelV v u) (h : dty d = some T) : ∃ P : Heap → Prop, PySem.W.KitX X.K u (.type T) P ∧ P s.heap ∧ u ≠ .builtin "__main__.__loader__#opaque" := by
  rcases r with r | ⟨a, rfl, _, _, t⟩
  · cases r with
    | non => cases h; exact kit_of I ru (.base .non)
    | bl b => cases h; exact kit_of I ru (.base (.bl b))
    | int b => cases h; exact kit_of I ru (.base (.int b))
    | str b => cases h; exact kit_of I ru (.base (.str b))
    | tape => cases h
    | scr => cases h
    | «at» f t => cases ru; exact t.kit I h
  · cases ru
    exact t.kit I h
def opIsi (cs : List String) (d : D) : Option Rv := (dty d).map fun T => .sh (.bl (cs.any (isTy T)))
theorem bv {x : Str} {n : String} {p : Pos} (hg : Gl X x) (hm : X.mg x = none) (hv : bootBuiltins x = some (.type n)) (hn : x ≠ "__name__" := by decide) (hd : (x == ("__debug__" : Str)) = false := by decide) : PE X (.Name x p) (tC (.ty n)) := pe_bltn hg hm hv rfl hn hd
theorem ev_isi1 {ae ce : Expr} {oa : Opd} {c : String} {p : Pos} (hg : Gl X "isinstance") (hm : X.mg "isinstance" = none) (ha : OV X G ae oa) (hc : PE X ce (tC (.ty c))) (hcl : c ∈ clNames := by decide)
    (hs : starEach [ae, ce] X.env = (false, eval ae X.env) :: starEach [ce] X.env := by rfl) (hs2 : starEach [ce] X.env = (false, eval ce X.env) :: starEach [] X.env := by rfl) (hpl : (backTo pos (starEach [ce] X.env)).any (·.1) = false := by rfl) :
    EV X G (.Call (.Name "isinstance" p) [ae, ce] [] pos) (vP1 (opIsi [c]) oa) :=
  ⟨(pe_callB (r := fun xs H Q => ∃ F v d r, FOk G F H ∧ xs = [v, .ty c] ∧ RepP G F H v d ∧ opIsi [c] d = some r ∧ ∀ v' H', Res G F H v' H' r → Q v' H') (by
    intro pins s σ H vs us Q I r h
    obtain ⟨F, v, dx, rr, fo, rfl, px, hf, c0⟩ := h
    obtain ⟨T, hT, rfl⟩ := Option.map_eq_some_iff.mp hf
    obtain ⟨u1, u2, rfl, r1, r2⟩ := vals2 r
    cases r2
    obtain ⟨P, Z, p, hx⟩ := px.kit I r1 hT
    refine PySem.W.kia_one Z I.kIn p (kit_ty (kit_names T (dty_mem hT) c hcl)) hx fun tk => ⟨.bl _, H, I.tok tk, rfl, ?_⟩
    have := c0 (.bl (isTy T c)) H (Res.flat (by simp only [List.any_cons, List.any_nil, Bool.or_false]; exact .bl _))
    exact this) hg hm PyProof.Rows.boot_isinstance (pa_cons ha.run (pa_cons hc pa_nil hs2) hs) (by decide) (by decide) hs hpl).imp fun σ H Q ⟨B, F, env, K, R, w, c0⟩ => ⟨B, F, env, _, R, w, fun x H1 ra env1 F1 R1 rep1 k1 => by
    split at k1
    · rename_i dx gx
      obtain ⟨r, fr, k⟩ := kP_some k1
      refine ⟨F1, x, dx, r, R1.lF, rfl, R1.getR rep1 gx, fr, fun v' H' q => ?_⟩
      obtain ⟨F3, R3, rr⟩ := R1.res q
      exact c0 v' H' r env1 F3 R3 rr k
    · exact k1.elim⟩⟩
theorem kit_two {K : PySem.W.Frag} {T c1 c2 : String} (h : T ∈ tyNames) (h1 : c1 ∈ clNames) (h2 : c2 ∈ clNames) : PySem.W.kitAny K (.type T) [.type c1, .type c2] = some ([c1, c2].any (isTy T)) := by
  have e1 := kit_ty (K := K) (kit_names T h c1 h1)
  have e2 := kit_ty (K := K) (kit_names T h c2 h2)
  simp only [PySem.W.kitAny, e1, e2, List.any_cons, List.any_nil, Bool.or_false]
  cases isTy T c1 <;> cases isTy T c2 <;> rfl
/-- isinstance(x, (c1, c2)) -/
theorem ev_isi2 {ae ce1 ce2 : Expr} {oa : Opd} {c1 c2 : String} {p tp : Pos} {kk : Nat} (hg : Gl X "isinstance") (hm : X.mg "isinstance" = none) (ha : OV X G ae oa) (hc1 : PE X ce1 (tC (.ty c1))) (hc2 : PE X ce2 (tC (.ty c2))) (hcl1 : c1 ∈ clNames := by decide) (hcl2 : c2 ∈ clNames := by decide)
    (hs : starEach [ae, .Tuple [ce1, ce2] kk tp] X.env = (false, eval ae X.env) :: starEach [.Tuple [ce1, ce2] kk tp] X.env := by rfl) (hs2 : starEach [.Tuple [ce1, ce2] kk tp] X.env = (false, eval (.Tuple [ce1, ce2] kk tp) X.env) :: starEach [] X.env := by rfl)
    (hs3 : starEach [ce1, ce2] X.env = (false, eval ce1 X.env) :: starEach [ce2] X.env := by rfl) (hs4 : starEach [ce2] X.env = (false, eval ce2 X.env) :: starEach [] X.env := by rfl)
    (hpl : (backTo pos (starEach [.Tuple [ce1, ce2] kk tp] X.env)).any (·.1) = false := by rfl) :
    EV X G (.Call (.Name "isinstance" p) [ae, .Tuple [ce1, ce2] kk tp] [] pos) (vP1 (opIsi [c1, c2]) oa) :=
  ⟨(pe_callB (r := fun xs H Q => ∃ F v d r tp, FOk G F H ∧ xs = [v, .ref tp] ∧ H tp = some (.tup [.ty c1, .ty c2]) ∧ RepP G F H v d ∧ opIsi [c1, c2] d = some r ∧ ∀ v' H', Res G F H v' H' r → Q v' H') (by
    intro pins s σ H vs us Q I r h
    obtain ⟨F, v, dx, rr, tp, fo, rfl, htp, px, hf, c0⟩ := h
    obtain ⟨T, hT, rfl⟩ := Option.map_eq_some_iff.mp hf
    obtain ⟨u1, u2, rfl, r1, r2⟩ := vals2 r
    cases (show u2 = Value.ref tp from r2)
    obtain ⟨P, Z, p, hx⟩ := px.kit I r1 hT
    obtain ⟨_, its, rv, o, h1, h2, n, h3⟩ := (show ObjOk X.prog X.w H s.heap tp (.tup [.ty c1, .ty c2]) from I.hok tp _ htp)
    have e3 := ClsV.all (.cons (.ty c1) (.cons (.ty c2) .nil)) rv
    subst e3
    obtain ⟨oc, od, dt, sl⟩ := o
    simp only at h2 h3
    subst h2 h3
    exact PySem.W.kia_tup Z I.kIn p h1 (kit_two (dty_mem hT) hcl1 hcl2) hx fun tk => ⟨.bl _, H, I.tok tk, rfl, c0 _ _ (Res.flat (.bl _))⟩) hg hm PyProof.Rows.boot_isinstance
      (pa_cons ha.run (pa_cons (pe_tup (pa_cons hc1 (pa_cons hc2 pa_nil hs4) hs3)) pa_nil hs2) hs) (by decide) (by decide) hs hpl).imp fun σ H Q ⟨B, F, env, K, R, w, c0⟩ => ⟨B, F, env, _, R, w, fun x H1 ra env1 F1 R1 rep1 k1 => by
    split at k1
    · rename_i dx gx
      obtain ⟨r, fr, k⟩ := kP_some k1
      refine ⟨by show 2 ≤ sizeLine; rw [sizeLine_eq]; omega, fun p hp => ?_⟩
      have R2 : Rel G B F1 env1 σ (upd H1 p (.tup [.ty c1, .ty c2])) := R1.ext (fun b hb => upd_ne (fun z => hb (by rw [z]; exact hp))) (fun _ z => z) (fun _ z => .inl z)
      have rp : RepR G F1 σ (upd H1 p (.tup [.ty c1, .ty c2])) x ra := by
        cases ra with
        | inl i => exact rep1
        | inr d => exact Rep.mono (fun _ z => z) (.of fun b hb => upd_ne (fun z => (R1.lF b hb).1 (by rw [z]; exact hp))) rep1
      refine ⟨F1, x, dx, r, p, R2.lF, rfl, upd_same, R2.getR rp gx, fr, fun v' H' q => ?_⟩
      obtain ⟨F3, R3, rr⟩ := R2.res q
      exact c0 v' H' r env1 F3 R3 rr k
    · exact k1.elim⟩⟩

/-! ### isinstance(x, C), x an instance of C -/
structure OwnC (X : Cx) (C : Addr) : Prop where
  cl : Cls X.K C
  ha : PySem.W.findIn X.K (.ref C) "__class__" = some (some (.builtin "object.__class__"))
  hn : PySem.W.specialIn X.K (.builtin "object.__class__") "__get__" = some (some (.builtin "getset_descriptor.__get__"))
  htk : PySem.W.takesIn X.K (.builtin "object.__class__") = some true
  hm : PySem.W.mroIn X.K C (.type "object") = some true
def opIsiO (c : Nat) : D → Option Rv
  | .ins n _ => if n = c then some (.sh (.bl true)) else none
  | .obj _ n _ => if n = c then some (.sh (.bl true)) else none
  | _ => none
theorem Top.own {c : Nat} {r : Rv} (t : Top G F H a d) (h : opIsiO c d = some r) : r = .sh (.bl true) ∧ ∃ dx fs, H a = some (.ins (G.C c) dx fs) := by
  cases t <;> first
    | (simp only [opIsiO] at h; split at h <;> cases h; rename_i e; subst e; exact ⟨rfl, _, _, by assumption⟩)
    | cases h
theorem ev_isiO {ae ce : Expr} {oa : Opd} {c : Nat} {p : Pos} (hg : Gl X "isinstance") (hm : X.mg "isinstance" = none) (O : OwnC X (G.C c)) (ha : OV X G ae oa) (hc : PE X ce (tC (.ref (G.C c))))
    (hs : starEach [ae, ce] X.env = (false, eval ae X.env) :: starEach [ce] X.env := by rfl) (hs2 : starEach [ce] X.env = (false, eval ce X.env) :: starEach [] X.env := by rfl) (hpl : (backTo pos (starEach [ce] X.env)).any (·.1) = false := by rfl) :
    EV X G (.Call (.Name "isinstance" p) [ae, ce] [] pos) (vP1 (opIsiO c) oa) :=
  ⟨(pe_callB (call_isi (X := X)) hg hm PyProof.Rows.boot_isinstance (pa_cons ha.run (pa_cons hc pa_nil hs2) hs) (by decide) (by decide) hs hpl).imp fun σ H Q ⟨B, F, env, K, R, w, c0⟩ => ⟨B, F, env, _, R, w, fun x H1 ra env1 F1 R1 rep1 k1 => by
    split at k1
    · rename_i dx gx
      obtain ⟨r, fr, k⟩ := kP_some k1
      have px := R1.getR rep1 gx
      have key : ∃ a, x = .ref a ∧ Top G F1 H1 a dx := by
        rcases px with px | ⟨a, rfl, _, _, t⟩
        · cases px with
          | «at» f t => exact ⟨_, rfl, t⟩
          | _ => cases fr
        · exact ⟨a, rfl, t⟩
      obtain ⟨a, rfl, t⟩ := key
      obtain ⟨rfl, dxx, fs, hH⟩ := t.own fr
      refine ⟨_, _, _, _, true, rfl, .own (G.C c), .base (.ins hH O.cl O.ha O.hn O.htk O.hm), ?_, c0 (.bl true) H1 (.sh (.bl true)) env1 F1 R1 (Rep.bl true) k⟩
      unfold PySem.W.kitOne
      rw [if_pos]
      exact beq_self_eq_true _
    · exact k1.elim⟩⟩
end
end PV
end
section
set_option autoImplicit false
set_option linter.all false
set_option maxRecDepth 100000
namespace PV
open PySem PySem.Spec PyProof.Rows L2

theorem pys_map : ∀ xs : List D, pys xs = xs.map py
  | [] => rfl
  | x :: xs => by
    rw [List.map_cons, ← pys_map xs]
    rfl
theorem plns_mem {n : Nat} : ∀ {xs : List D}, plns n xs = true → ∀ x ∈ xs, pln n x = true
  | [], _, _, h => nomatch h
  | y :: ys, h, x, hx => by
    unfold plns at h
    rw [Bool.and_eq_true] at h
    rcases List.mem_cons.mp hx with rfl | hx
    · exact h.1
    · exact plns_mem h.2 x hx
def isTupN : PyData → Bool
  | .tuple (_ :: _) => true
  | _ => false
def isTup0 : PyData → Bool
  | .tuple _ => true
  | .none => true
  | _ => false
def srtB (xs : List D) : Bool := plns 60 xs && decide (xs.length ≤ 16777216) && (xs.all fun a => xs.all fun b => PySem.W.alike (py a) (py b)) && ((xs.all fun a => isTupN (py a)) || (xs.all fun a => !isTup0 (py a)))
theorem srtB_ok {xs : List D} (h : srtB xs = true) : plns 60 xs = true ∧ xs.length ≤ sizeLine ∧ PySem.W.AllAlike (xs.map py) ∧ PySem.W.Sortable (xs.map py) := by
  unfold srtB at h
  simp only [Bool.and_eq_true, decide_eq_true_eq] at h
  obtain ⟨⟨⟨h1, h2⟩, h3⟩, h4⟩ := h
  refine ⟨h1, by rw [sizeLine_is]; exact h2, fun d hd d' hd' => ?_, ?_⟩
  · obtain ⟨a, ha, rfl⟩ := List.mem_map.mp hd
    obtain ⟨b, hb, rfl⟩ := List.mem_map.mp hd'
    exact List.all_eq_true.mp (List.all_eq_true.mp h3 a ha) b hb
  · rw [Bool.or_eq_true] at h4
    rcases h4 with h4 | h4
    · refine .inl fun d hd => ?_
      obtain ⟨a, ha, rfl⟩ := List.mem_map.mp hd
      have := List.all_eq_true.mp h4 a ha
      generalize py a = z at this
      match z, this with
      | .tuple (x :: r), _ => exact ⟨x, r, rfl⟩
    · refine .inr fun d hd => ?_
      obtain ⟨a, ha, rfl⟩ := List.mem_map.mp hd
      have := List.all_eq_true.mp h4 a ha
      generalize py a = z at this
      constructor
      · rintro rfl
        cases this
      · rintro xs rfl
        cases this
def srt (xs : List D) : List D := xs.mergeSort (PySem.W.dataLe false py)

mutual
theorem reads_lt {h : Heap} : ∀ {v : Value} {d : PyData} {as : List Addr}, Reads h v d as → ∀ a ∈ as, a < h.objs.size
  | _, _, _, .none, a, ha => nomatch ha
  | _, _, _, .bool _, a, ha => nomatch ha
  | _, _, _, .int _ _, a, ha => nomatch ha
  | _, _, _, .str _ _, a, ha => nomatch ha
  | _, _, _, .list h1 _ _ t, a, ha => by
    rcases List.mem_cons.mp ha with e | ha
    · rw [e]; exact Heap.lt_size h1
    · exact readsAll_lt t a ha
  | _, _, _, .tuple _ _ _ t, a, ha => readsAll_lt t a ha
  | _, _, _, .dict h1 _ _ t u, a, ha => by
    rcases List.mem_append.mp ha with ha | ha
    · rcases List.mem_cons.mp ha with e | ha
      · rw [e]; exact Heap.lt_size h1
      · exact readsAll_lt t a ha
    · exact readsAll_lt u a ha
theorem readsAll_lt {h : Heap} : ∀ {v : List Value} {d : List PyData} {as : List Addr}, ReadsAll h v d as → ∀ a ∈ as, a < h.objs.size
  | _, _, _, .nil, a, ha => nomatch ha
  | _, _, _, .cons t u, a, ha => by
    rcases List.mem_append.mp ha with ha | ha
    · exact reads_lt t a ha
    · exact readsAll_lt u a ha
end
section
variable {X : Cx} {G : Gx} {B : Bs} {F F' : Addr → Prop} {env env' : Ev} {σ σ' : L2.St} {H H' : Hp} {v : V} {d : D} {a : Addr} {i : Nat} {e : Expr} {es : List Expr} {pos : Pos} {w : WE} {l : WL} {pins : List (Addr × Obj)} {s : Shared}

/-- a value that stands for d -/
def Is (G : Gx) (F : Addr → Prop) (H : Hp) (u : Value) (d : D) : Prop := ∃ x : V, RelV x u ∧ Rep G F H x d
theorem is_each : ∀ {vs : List V} {us : List Value} {ds : List D}, Vals vs us → RepL G F H vs ds → PySem.W.EachIs (Is G F H) us ds
  | _, _, _, .nil, .nil => .nil
  | _, _, _, .cons r t, .cons q l => .cons ⟨_, r, q⟩ (is_each t l)
theorem each_is : ∀ {us : List Value} {ds : List D}, PySem.W.EachIs (Is G F H) us ds → ∃ vs, Vals vs us ∧ RepL G F H vs ds
  | _, _, .nil => ⟨[], .nil, .nil⟩
  | _, _, .cons ⟨x, r, q⟩ t => by
    obtain ⟨vs, h1, h2⟩ := each_is t
    exact ⟨x :: vs, .cons r h1, .cons q h2⟩
theorem Is.reads (I : L2.Inv X pins σ H s) {u : Value} (h : Is G F H u d) (hp : pln 60 d = true) : ∃ as, Reads s.heap u (py d) as := by
  obtain ⟨x, r, q⟩ := h
  exact (q.dp (K := X.K) 60 hp).reads I _ _ _ r
theorem each_reads (I : L2.Inv X pins σ H s) {us : List Value} {ds : List D} (h : PySem.W.EachIs (Is G F H) us ds) (hp : plns 60 ds = true) : PySem.W.EachIs (fun v b => ∃ as, Reads s.heap v (py b) as) us ds :=
  (PySem.W.each_mem h).mono fun v b ⟨h1, h2⟩ => Is.reads I h1 (plns_mem hp b h2)
theorem units_ok {A : Around} (hu : A.units + 65 < cLine) {xs : List D} (hp : plns 60 xs = true) : ∀ b, b ∈ xs → A.units + 2 + (py b).depth < cLine := fun b hb => by
  have := (py_lay 60 b (plns_mem hp b hb)).2
  omega
/-- the keys of a dict -/
theorem RepE.keysL : ∀ {es : List DictEntry} {kvs : List (D × D)}, RepE G F H es kvs → ∃ ks, Vals ks (es.map fun e => e.key) ∧ RepL G F H ks (kvs.map fun p => p.1)
  | _, _, .nil => ⟨[], .nil, .nil⟩
  | _, _, .cons (kv := kv) a _ c _ _ _ t => by
    obtain ⟨ks, h1, h2⟩ := RepE.keysL t
    exact ⟨kv :: ks, .cons a h1, .cons c h2⟩
theorem keys_of_items {es : List DictEntry} {acc : Array Value} (h : ItemsOf (fun i v => ∃ en : DictEntry, es.toArray[i]? = some en ∧ v = en.key) acc es.toArray.size) : acc.toList = es.map fun e => e.key := by
  have hl : acc.toList.length = es.length := by rw [Array.length_toList, h.1, List.size_toArray]
  apply List.ext_getElem?
  intro j
  rw [List.getElem?_map]
  cases hj : acc.toList[j]? with
  | none =>
    have h1 := List.getElem?_eq_none_iff.mp hj
    rw [List.getElem?_eq_none (by omega)]
    rfl
  | some v =>
    obtain ⟨en, hen, hv⟩ := h.2 j v (by rw [← Array.getElem?_toList]; exact hj)
    rw [List.getElem?_toArray] at hen
    rw [hen, hv]
    rfl
def opListD : D → Option Rv
  | .dct kvs => some (.ow (.lst (kvs.map fun p => p.1)))
  | d => opList d
theorem RepP.dct {kvs : List (D × D)} (r : RepP G F H v (.dct kvs)) : ∃ a es, v = .ref a ∧ Rd H a (dictHO a es) ∧ RepE G F H es kvs ∧ es.length ≤ sizeLine := by
  rcases r with r | ⟨a, rfl, _, _, t⟩
  · cases r with
    | «at» f t => cases t with
      | dct r l n z => exact ⟨_, _, rfl, r, l, z⟩
  · cases t with
    | dct r l n z => exact ⟨_, _, rfl, r, l, z⟩
theorem cr_listD (hc : X.calm = true) : CallR X (.type "list") (rP1 G opListD) := by
  intro pins s σ H vs us Q I r h
  obtain ⟨F, v, dx, rr, fo, rfl, px, hf, c⟩ := h
  unfold opListD at hf
  split at hf
  · cases hf
    obtain ⟨a, es, ea, hd, re, hz⟩ := px.dct
    subst ea
    obtain ⟨u, rfl, ru⟩ := r.one
    cases ru
    obtain ⟨hs, o, ep, ho, hx, hdt⟩ := dictHO_of I hd
    refine PySem.W.kdl_call (kdl_raw hs hx hdt) (I.ok.hd hc) ho (by rw [List.size_toArray]; exact hz) fun h' tk acc' c' kp e it => ?_
    obtain ⟨ks, hv, hr⟩ := re.keysL
    rw [← keys_of_items it] at hv
    have hl : ks.length ≤ sizeLine := by
      rw [hv.length, keys_of_items it, List.length_map]
      exact hz
    have hf := I.hok.fresh (Nat.le_refl s.heap.objs.size)
    refine ⟨.ref s.heap.objs.size, _, I.laid (t' := tk) (o := .lst ks) kp (Nat.le_refl _) ⟨hl, acc'.toList, c', hv, by rw [Array.toArray_toList]; exact e⟩, rfl, c _ _ (Res.newLst fo hf hr)⟩
  · exact cr_list pins s σ H _ us Q I r ⟨F, v, _, rr, fo, rfl, px, hf, c⟩
def opSorted : D → Option Rv
  | .lst xs => if srtB xs = true then some (.ow (.lst (srt xs))) else none
  | .dct kvs => if srtB (kvs.map fun p => p.1) = true then some (.ow (.lst (srt (kvs.map fun p => p.1)))) else none
  | _ => none
theorem srt_len (xs : List D) : (srt xs).length = xs.length := List.length_mergeSort xs
theorem cr_sorted (hc : X.calm = true) (hu : X.A.units + 65 < cLine) : CallR X (.builtin "sorted") (rP1 G opSorted) := by
  intro pins s σ H vs us Q I r h
  obtain ⟨F, v, dx, rr, fo, rfl, px, hf, c⟩ := h
  unfold opSorted at hf
  split at hf
  · rename_i xs
    split at hf
    · rename_i hb
      cases hf
      obtain ⟨h1, h2, h3, h4⟩ := srtB_ok hb
      obtain ⟨a, ys, ea, ha, ra⟩ := px.lst
      obtain ⟨its, rv, hl, _⟩ := I.list (.inl (.inl ha))
      rw [ea] at r
      rw [Vals.ref1 r]
      have e := is_each rv ra
      refine PySem.W.sorted_data hl.isList e (each_reads I e h1) h3 h4 h2 (units_ok hu h1) fun out ho eo => ?_
      obtain ⟨ep, he'⟩ := PyProof.Rows.sortedAll_at s.heap its out.toArray
      obtain ⟨ws, hw, hr⟩ := each_is eo
      have hlen : ws.length ≤ sizeLine := by rw [hr.len, ← srt.eq_1, srt_len]; exact h2
      have hf := I.hok.fresh (Nat.le_succ s.heap.objs.size)
      exact ⟨.ref _, upd H (s.heap.objs.size + 1) (.lst ws), I.laid (t' := s.toks) (fun _ _ => PyProof.Rows.sortedAll_old) (Nat.le_succ _) ⟨hlen, out, ep, hw, he'⟩, rfl, c _ _ (Res.newLst fo hf hr)⟩
    · cases hf
  · rename_i kvs
    split at hf
    · rename_i hb
      cases hf
      obtain ⟨h1, h2, h3, h4⟩ := srtB_ok hb
      obtain ⟨a, es, ea, hd, re, hz⟩ := px.dct
      rw [ea] at r
      rw [Vals.ref1 r]
      obtain ⟨hs, o, ep, ho, hx, hdt⟩ := dictHO_of I hd
      refine Calls.call_function_entry PyProof.Rows.kind_sorted PyProof.Rows.plain_sorted PyProof.Rows.entry_sorted (PyProof.Rows.args_sorted1 _) ?_
      unfold Builtin.«sorted»
      refine wpAny_bind (m := checkCount "sorted" 1 1 _) (wpAny_pure ?_)
      refine wpAny_bind (PySem.W.kdu_collect (A := X.A.in1) (kdl_raw hs hx hdt) (I.ok.hd hc) ho (by rw [List.size_toArray]; exact hz) fun h' tk acc hk hacc => ?_)
      obtain ⟨ks, hv, hr⟩ := re.keysL
      rw [← keys_of_items hacc] at hv
      have I1 : Inv X pins σ H { s with heap := h', toks := tk } := I.kept hk
      have hal : acc.toList.length ≤ sizeLine := by rw [← hv.length, hr.len]; exact h2
      refine wpAny_bind (wpAny_newList ?_ hal)
      have hoL : (h'.push (seqObj "list" acc.toList.toArray 0)).get? h'.objs.size = some (seqObj "list" acc.toList.toArray 0) := Heap.get?_push_size _ rfl
      show wpAny _ _ _ _ _ { s with heap := h'.push (seqObj "list" acc.toList.toArray 0), toks := tk }
      have e := is_each hv hr
      have er : PySem.W.EachIs (fun v b => ∃ as, Reads (h'.push (seqObj "list" acc.toList.toArray 0)) v (py b) as ∧ h'.objs.size ∉ as) acc.toList (kvs.map fun p => p.1) := by
        have er0 := each_reads I1 e h1
        refine er0.mono fun v b ⟨as, q⟩ => ⟨as, PyProof.Rows.Reads.keeps (fun b o z => Heap.get?_push_of_some _ z) q, fun z => ?_⟩
        exact absurd (reads_lt q _ z) (Nat.lt_irrefl _)
      refine wpAny_bind (wpAny_holding (PySem.W.list_sort_data (s := { s with heap := h'.push (seqObj "list" acc.toList.toArray 0), toks := tk }) (A := X.A.in1) hoL e er h3 h4 h2 (fun b hb => ?_) fun out ho2 eo => ?_))
      · have := units_ok hu h1 b hb
        show X.A.in1.units + 1 + (py b).depth < cLine
        have e2 : X.A.in1.units = X.A.units + 1 := rfl
        omega
      obtain ⟨e', he'⟩ := PyProof.Rows.sortedHeap_at (vs := acc.toList) (out := out.toArray) hoL
      obtain ⟨ws, hw, hr2⟩ := each_is eo
      have hlen : ws.length ≤ sizeLine := by rw [hr2.len, ← srt.eq_1, srt_len]; exact h2
      refine wpAny_pure ⟨_, rfl, .ref h'.objs.size, upd H h'.objs.size (.lst ws), I1.laid (t' := tk) (fun b u e => ?_) (Nat.le_refl _)
        (show ObjOk X.prog X.w _ _ _ (.lst ws) from ⟨hlen, out, e', hw, he'⟩), rfl, c _ _ (Res.newLst fo (I1.hok.fresh (Nat.le_refl _)) hr2)⟩
      have hb : b < h'.objs.size := Heap.lt_size e
      rw [PyProof.Rows.sortedHeap_old (Nat.ne_of_lt hb) (by rw [size_push']; exact Nat.lt_succ_of_lt hb)]
      exact Heap.get?_push_of_some _ e
    · cases hf
  · cases hf
end
end PV
end
section
set_option autoImplicit false
set_option linter.all false
set_option maxRecDepth 100000
namespace PV
open PySem PySem.Spec PyProof.Rows L2

/-- the least of a list, the first of them -/
def minL (x : D) (xs : List D) : D := xs.foldl (fun a y => if PySem.W.dataLt (py y) (py a) = true then y else a) x
def isNonP : PyData → Bool
  | .none => true
  | _ => false
def minB (xs : List D) : Bool := plns 60 xs && (xs.all fun a => xs.all fun b => PySem.W.alike (py a) (py b)) && (xs.all fun a => !isNonP (py a))
section
variable {X : Cx} {G : Gx} {B : Bs} {F F' : Addr → Prop} {env env' : Ev} {σ σ' : L2.St} {H H' : Hp} {v : V} {d : D} {a : Addr} {i : Nat} {e : Expr} {es : List Expr} {pos : Pos} {w : WE} {l : WL} {pins : List (Addr × Obj)} {s : Shared}

theorem RepL.readsAll (I : L2.Inv X pins σ H s) : ∀ {vs : List V} {us : List Value} {ds : List D}, Vals vs us → RepL G F H vs ds → plns 60 ds = true → ∃ as, ReadsAll s.heap us (ds.map py) as
  | _, _, _, .nil, .nil, _ => ⟨[], .nil⟩
  | _, _, _, .cons r t, .cons q l, h => by
    unfold plns at h
    rw [Bool.and_eq_true] at h
    obtain ⟨as, h1⟩ := Is.reads I ⟨_, r, q⟩ h.1
    obtain ⟨bs, h2⟩ := RepL.readsAll I t l h.2
    exact ⟨as ++ bs, .cons h1 h2⟩
theorem depthAll_le : ∀ {ds : List D}, plns 60 ds = true → PyData.depthAll (ds.map py) ≤ 60 := fun {ds} h => by
  rw [← pys_map]
  exact (pys_lay 60 ds h).2
def opMin : D → Option Rv
  | .lst (x :: xs) => if minB (x :: xs) = true then some (.sh (minL x xs)) else none
  | _ => none
theorem getD_map_py (xs : List D) (i : Nat) : (xs.map py).getD i .none = py (xs.getD i .non) := by
  rw [List.getD_eq_getElem?_getD, List.getD_eq_getElem?_getD, List.getElem?_map]
  cases xs[i]? <;> rfl
theorem cr_min (hc : X.calm = true) (hu : X.A.units + 65 < cLine) : CallR X (.builtin "min") (rP1 G opMin) := by
  intro pins s σ H vs us Q I r h
  obtain ⟨F, v, dx, rr, fo, rfl, px, hf, c⟩ := h
  unfold opMin at hf
  split at hf
  · rename_i x xs
    split at hf
    · rename_i hb
      cases hf
      unfold minB at hb
      simp only [Bool.and_eq_true] at hb
      obtain ⟨⟨h1, h2⟩, h3⟩ := hb
      obtain ⟨a, ys, ea, ha, ra⟩ := px.lst
      obtain ⟨its, rv, hl, _⟩ := I.list (.inl (.inl ha))
      rw [ea] at r
      rw [Vals.ref1 r]
      obtain ⟨as, hr⟩ := ra.readsAll I rv h1
      have al : PySem.W.AlikeAll ((x :: xs).map py) := by
        refine ⟨fun p hp q hq => ?_, fun p hp => ?_⟩
        · obtain ⟨a, ha, rfl⟩ := List.mem_map.mp hp
          obtain ⟨b, hb, rfl⟩ := List.mem_map.mp hq
          exact List.all_eq_true.mp (List.all_eq_true.mp h2 a ha) b hb
        · obtain ⟨a, ha, rfl⟩ := List.mem_map.mp hp
          have := List.all_eq_true.mp h3 a ha
          intro e
          rw [e] at this
          cases this
      have hdep := depthAll_le h1
      have hn : its.length = xs.length + 1 := by rw [← rv.length, ra.len]; rfl
      have hh := I.ok.hd hc
      refine PySem.call_min_walkH (PySem.W.iter_listW (A := X.A.in1) hh hl.isList fun s₂ e W st hfp hw hk => ?_)
      refine ⟨_, _, _, _, _, _, _, s.heap, _, rfl, W, st, hfp, by rw [List.size_toArray]; omega, hw, hk, PySem.W.cmpIn_lt (A := X.A.in1) hr al (by show X.A.units + 1 + _ < _; omega), fun v s' hP m => ?_⟩
      obtain ⟨h', tk, rfl, hk'⟩ := PySem.W.moved_old e rfl m
      have e1 : its.toArray.size - 1 = xs.length := by rw [List.size_toArray]; omega
      rw [e1] at hP
      have ef : (fun i j => PySem.W.dataLt (((x :: xs).map py).getD i .none) (((x :: xs).map py).getD j .none)) = fun i j => (fun a b => PySem.W.dataLt (py a) (py b)) ((x :: xs).getD i .non) ((x :: xs).getD j .non) := by
        funext i j
        rw [getD_map_py, getD_map_py]
      rw [ef] at hP
      have bf := PySem.W.argBest_fold (fun a b => PySem.W.dataLt (py a) (py b)) .non x xs xs.length (Nat.le_refl _)
      rw [List.take_length] at bf
      generalize argBest (fun i j => (fun a b => PySem.W.dataLt (py a) (py b)) ((x :: xs).getD i .non) ((x :: xs).getD j .non)) xs.length = ix at hP bf
      have hlt : ix < (x :: xs).length := Nat.lt_succ_of_le bf.1
      have hx : (x :: xs)[ix]? = some (minL x xs) := by
        have := bf.2
        rw [List.getD_eq_getElem?_getD, List.getElem?_eq_getElem hlt] at this
        rw [List.getElem?_eq_getElem hlt]
        exact congrArg some this
      obtain ⟨y, hy, ry⟩ := ra.get hx
      obtain ⟨u, hu', ru⟩ := rv.get hy
      have ev : v = u := by
        rw [List.getElem?_toArray] at hP
        rw [hP] at hu'
        exact Option.some.inj hu'
      subst ev
      exact ⟨y, H, I.kept (t' := tk) hk', ru, c _ _ (Res.flat ry)⟩
    · cases hf
  · cases hf

/-! ### dict(list of pairs) -/
def mkD : List D → List (D × D) → Option (List (D × D))
  | [], acc => some acc
  | .tup [k, v] :: r, acc => match dkey k with
    | some n => mkD r (dputN acc n k v)
    | none => none
  | _ :: _, _ => none
def opDict : D → Option Rv
  | .lst xs => if xs.length ≤ 16777216 then (mkD xs []).map fun kvs => .ow (.dct kvs) else none
  | _ => none
theorem nodup_dputN {kvs : List (D × D)} {n : NestedKey} {k v : D} (hk : dkey k = some n) (nd : (kvs.map fun p => dkey p.1).Nodup) : ((dputN kvs n k v).map fun p => dkey p.1).Nodup := dputN_keys hk nd
/-- the pairs as they stand -/
inductive Prs (G : Gx) (F : Addr → Prop) (H : Hp) (h : Heap) : List Value → List (NestedKey × Addr × Value) → List D → Prop
  | nil : Prs G F H h [] [] []
  | cons {T b : Addr} {u : Value} {k v : D} {vv : V} {n : NestedKey} {us : List Value} {ps : List (NestedKey × Addr × Value)} {ds : List D} : h.IsTuple T #[.ref b, u] → Rep G F H (.ref b) k → RelV vv u → Rep G F H vv v → dkey k = some n → Prs G F H h us ps ds →
    Prs G F H h (.ref T :: us) ((n, b, u) :: ps) (.tup [k, v] :: ds)
theorem Rep.pair (I : L2.Inv X pins σ H s) {x : V} {u : Value} {k v0 : D} (r : RelV x u) (q : Rep G F H x (.tup [k, v0])) {n : NestedKey} (hk : dkey k = some n) : ∃ T b uv vv, u = .ref T ∧ s.heap.IsTuple T #[.ref b, uv] ∧ Rep G F H (.ref b) k ∧ RelV vv uv ∧ Rep G F H vv v0 := by
  cases q with
  | «at» f t =>
    cases t with
    | tup hr rl =>
      cases rl with
      | cons r1 rl =>
        cases rl with
        | cons r2 rl =>
          cases rl
          obtain ⟨b, rfl, _⟩ := r1.keyRef hk
          cases r
          obtain ⟨its, rv, p, _⟩ := I.tuple hr.sq
          cases rv with
          | cons q1 rv =>
            cases rv with
            | cons q2 rv =>
              cases rv
              cases q1
              exact ⟨_, b, _, _, rfl, p, r1, q2, r2⟩
theorem prs_of (I : L2.Inv X pins σ H s) : ∀ {vs : List V} {us : List Value} {ds : List D} {acc kvs : List (D × D)}, Vals vs us → RepL G F H vs ds → mkD ds acc = some kvs → ∃ ps, Prs G F H s.heap us ps ds
  | _, _, _, _, _, .nil, .nil, _ => ⟨[], .nil⟩
  | _, _, _, acc, kvs, .cons r t, .cons q l, h => by
    unfold mkD at h
    split at h
    · rename_i e
      cases e
    · rename_i k v0 rr acc' e
      obtain ⟨rfl, rfl⟩ := List.cons.inj e
      split at h
      · rename_i n hn
        obtain ⟨T, b, uv, vv, rfl, h1, h2, h3, h4⟩ := q.pair I r hn
        obtain ⟨ps, hp⟩ := prs_of I t l h
        exact ⟨_, .cons h1 h2 h3 h4 hn hp⟩
      · cases h
    · cases h
theorem Prs.get {h : Heap} : ∀ {us : List Value} {ps : List (NestedKey × Addr × Value)} {ds : List D}, Prs G F H h us ps ds → us.length = ps.length ∧ ∀ (j : Nat) (x : NestedKey × Addr × Value), ps[j]? = some x → ∃ T, us[j]? = some (.ref T) ∧ h.IsTuple T #[.ref x.2.1, x.2.2]
  | _, _, _, .nil => ⟨rfl, fun j x e => by simp at e⟩
  | _, _, _, .cons (T := T) a b c d e t => by
    obtain ⟨h1, h2⟩ := Prs.get t
    refine ⟨by simp [h1], fun j x e => ?_⟩
    cases j with
    | zero =>
      cases e
      exact ⟨T, rfl, a⟩
    | succ j => exact h2 j x (by simpa using e)
theorem Prs.keys (I : L2.Inv X pins σ H s) {h : Heap} : ∀ {us : List Value} {ps : List (NestedKey × Addr × Value)} {ds : List D}, Prs G F H h us ps ds → ∀ x ∈ ps, (nestedKind X.prog G.w).is s.heap x.1 x.2.1
  | _, _, _, .nil, x, hx => nomatch hx
  | _, _, _, .cons a b c d e t, x, hx => by
    rcases List.mem_cons.mp hx with rfl | hx
    · exact b.isKey I e
    · exact Prs.keys I t x hx
theorem Prs.store {h : Heap} : ∀ {us : List Value} {ps xs : List (NestedKey × Addr × Value)} {ds : List D} {acc kvs : List (D × D)}, Prs G F H h us ps ds → RepX G F H xs acc → (acc.map fun p => dkey p.1).Nodup → mkD ds acc = some kvs → RepX G F H (storedAllH xs ps) kvs ∧ (kvs.map fun p => dkey p.1).Nodup ∧ kvs.length ≤ acc.length + ds.length
  | _, _, xs, _, acc, kvs, .nil, t, nd, e => by
    cases e
    exact ⟨t, nd, Nat.le_refl _⟩
  | _, _, xs, _, acc, kvs, .cons (n := n) (k := k) (v := v) a b c d hk t, rx, nd, e => by
    simp only [mkD, hk] at e
    obtain ⟨h1, h2, h3⟩ := Prs.store t (rx.store hk b c d) (dputN_keys hk nd) e
    refine ⟨h1, h2, ?_⟩
    have h4 := dputN_len acc n k v
    simp only [List.length_cons]
    omega
def refA : Option Value → Addr
  | some (.ref a) => a
  | _ => 0
theorem cr_dict (hc : X.calm = true) (hw : X.w = G.w) (hu : X.A.units + 65 < cLine) : CallR X (.type "dict") (rP1 G opDict) := by
  intro pins s σ H vs us Q I r h
  obtain ⟨F, v, dx, rr, fo, rfl, px, hf, c⟩ := h
  unfold opDict at hf
  split at hf
  · rename_i xs
    split at hf
    · rename_i hlen
      obtain ⟨kvs, hk, rfl⟩ := Option.map_eq_some_iff.mp hf
      obtain ⟨a, ys, ea, ha, ra⟩ := px.lst
      obtain ⟨its, rv, pl, _⟩ := I.list (.inl (.inl ha))
      rw [ea] at r
      rw [Vals.ref1 r]
      obtain ⟨ps, hp⟩ := prs_of I rv ra hk
      obtain ⟨hl1, hget⟩ := hp.get
      have hl2 : its.length = xs.length := by rw [← rv.length, ra.len]
      have P := PairArg.list (prog := X.prog) (w := X.w) a its.toArray (fun j => refA its[j]?) (ps.map fun x => (Value.ref x.2.1, x.2.2))
      have hplain : PlainSeq "list" s.heap a its.toArray := by
        obtain ⟨⟨cls, dd, data, sls⟩, n, ho, hcl, hdn, hdt⟩ := pl
        exact ⟨_, n, ho, hcl, hdn, hdt⟩
      have hitems : PairItems s.heap its.toArray (fun j => refA its[j]?) (ps.map fun x => (Value.ref x.2.1, x.2.2)) := by
        refine ⟨by rw [List.size_toArray, List.length_map, hl1], fun j k v hj => ?_⟩
        rw [List.getElem?_map] at hj
        obtain ⟨x, hx, e⟩ := Option.map_eq_some_iff.mp hj
        cases e
        obtain ⟨T, h1, h2⟩ := hget j x hx
        have e2 : (fun j => refA its[j]?) j = T := by
          show refA its[j]? = T
          rw [h1]
          rfl
        rw [e2, List.getElem?_toArray, h1]
        exact ⟨rfl, .inl h2⟩
      obtain ⟨hx, nd, hz⟩ := hp.store (xs := []) (acc := []) .nil List.nodup_nil hk
      refine call_dict_pairsH (knd := nestedKind X.prog X.w) (ps := ps) P (I.ok.hd hc) (by show X.A.units + 2 + 8 < cLine; omega) ⟨hplain, hitems⟩ ⟨(List.length_map _).symm, fun i key v hi => ?_⟩ (fun h' hk' x hx' => ?_) (by rw [List.length_map, sizeLine_is]; omega) fun h' tk hd hk' => ?_
      · have hi' : (ps.map fun x => (Value.ref x.2.1, x.2.2))[i]? = some (key, v) := hi
        rw [List.getElem?_map] at hi'
        obtain ⟨x, hx, e⟩ := Option.map_eq_some_iff.mp hi'
        cases e
        exact ⟨x.1, x.2.1, hx, rfl⟩
      · rw [hw]
        have I' : L2.Inv X pins σ H { s with heap := h' } := I.kept (t' := s.toks) fun b o e => hk' b o (Nat.ne_of_lt (Heap.lt_size e)) (by simp) e
        exact hp.keys I' x hx'
      · have hkeep : ∀ b o, s.heap.get? b = some o → h'.get? b = some o := fun b o e => hk' b o (by simp) e
        have hf := I.hok.fresh (Nat.le_refl s.heap.objs.size)
        obtain ⟨o', es', ep', g1, g2, g3, g4, _, _⟩ := hd
        rw [hw] at g4
        have he : es' = ((storedAllH [] ps).map (entryOfKey (nestedKind X.prog G.w))).toArray := by simp [← g4]
        have hm : (s.heap.objs.size == sysModules) = false := beq_eq_false_iff_ne.mpr (Nat.ne_of_gt I.big)
        have tr : Tr F H (upd H s.heap.objs.size (dictHO s.heap.objs.size ((storedAllH [] ps).map (entryOfKey (nestedKind X.prog G.w))))) := .of fun b hb => upd_ne fun z => (fo b hb).1 (z ▸ hf)
        refine ⟨.ref s.heap.objs.size, _, I.laid (t' := tk) (o := dictHO s.heap.objs.size ((storedAllH [] ps).map (entryOfKey (nestedKind X.prog G.w)))) hkeep (Nat.le_refl _) (dictHO_new hm ⟨o', ep', g1, g2, by rw [g3, he]⟩), rfl, c _ _ ?_⟩
        refine ⟨fun b hb => upd_ne fun z => hb (by rw [z]; exact hf), F, fun _ z => z, fun _ z => .inl z, _, rfl, hf, fun z => (fo _ z).1 hf, by rw [upd_same]; trivial, .dct (.inl upd_same) ((hx.mono (fun _ z => z) tr).toE) nd ?_⟩
        rw [List.length_map, hx.len, sizeLine_is]
        simp at hz
        omega
    · cases hf
  · cases hf
end
end PV
end
section
set_option autoImplicit false
set_option linter.all false
set_option maxRecDepth 100000
namespace PV
open PySem PySem.Spec PyProof.Rows L2

section
variable {X : Cx} {G : Gx} {B : Bs} {F F' : Addr → Prop} {env env' : Ev} {σ σ' : L2.St} {H H' : Hp} {v : V} {d : D} {a : Addr} {i : Nat} {e : Expr} {es : List Expr} {pos : Pos} {w : WE} {l : WL} {pins : List (Addr × Obj)} {s : Shared}

/-! ### f(k = v, ..), every parameter by its name, in the def's order -/
def Kw0 (K : PySem.W.Frag) (fd : FuncData) (ps : List Str) : Prop := ∀ (s : Shared) (ws : List Value), K.In s.heap → ws.length = ps.length → BindsTo s fd ⟨[], ps.zip ws⟩ (ps.zip ws)
theorem Kw0.kbn {K : PySem.W.Frag} {fd : FuncData} {ps : List Str} (h : Kw0 K fd ps) : KBn K fd ps 0 ps (fun _ ws => ws) (fun _ zs => zs) :=
  ⟨fun s us ws X l1 l2 => by
    have : us = [] := List.length_eq_zero_iff.mp l1
    subst this
    exact h s ws X l2, fun _ r => r⟩
theorem Kw0.of {K : PySem.W.Frag} {fd : FuncData} {ps : List Str} (h : ∀ ws : List Value, ws.length = ps.length → bindArgs fd ⟨[], ps.zip ws⟩ = pure (ps.zip ws)) : Kw0 K fd ps := fun s ws _ hl => .of_eq (h ws hl)
structure KV (X : Cx) (G : Gx) (kws : List Keyword) (w : WL) : Prop where
  run : PK X kws (tL G w)
theorem _root_.L2.PK.imp {X : Cx} {e : List Keyword} {t t' : TA} (h : PK X e t) (i : ∀ σ H Q, t' σ H Q → t σ H Q) : PK X e t' := ⟨fun pos pins s σ H Q I q => h.run pos pins s σ H Q I (i σ H Q q)⟩
variable {kws : List Keyword} {kpos : Pos} {nm : Option Str}
theorem kv_nil : KV X G [] lNil := ⟨pk_nil.imp fun σ H Q ⟨B, F, env, K, R, w0, c⟩ => c [] H [] env F R .nil w0⟩
theorem kv_cons (h : EV X G e w) (t : KV X G kws l) : KV X G (⟨nm, e, kpos⟩ :: kws) (lCons w l) :=
  ⟨(pk_cons h.run t.run).imp fun σ H Q ⟨B, F, env, K, R, w0, c⟩ => ⟨B, F, env, _, R, w0, fun v H1 r env1 F1 R1 rr1 k1 => by
    obtain ⟨F2, R2, rep, _⟩ := R1.freeze rr1
    exact ⟨Bs.at F2 H1 env1 σ, F2, env1, _, R2.here, k1, fun vs H2 rs env2 F3 R3 reps k2 =>
      c (v :: vs) H2 (r.d :: rs) env2 F3 (R2.trans R3) (.cons (R2.rep R3 rep) reps) k2⟩⟩⟩
theorem pe_callN0 {CX : CXT} {k : Nat} {f : Addr} {fd : FuncData} {ps ks : List Str} {sp : Sp} {E : XK} {x : Str} {p : Pos} {tk : TA} {g : List Value → List Value → List Value} {gV : List V → List V → List V}
    (F : FnOk X.prog X.w X.K X.mg X.base CX k f fd ps sp) (hr : Room k X.A) (hg : Gl X x) (hm : X.mg x = some (.ref f)) (hk : PySem.W.keepIn X.K (.ref f) = true) (hb : KBn X.K fd ps 0 ks g gV) (hx : Passes CX X E)
    (hkw : PK X kws tk) (hall : (backToKw pos (keywordEach kws X.env)).all (·.1.isSome) = true := by rfl) (hks : (backToKw pos (keywordEach kws X.env)).filterMap (·.1) = ks := by rfl)
    (hdb : (x == ("__debug__" : Str)) = false := by decide)
    (hpl : ((backTo pos (starEach [] X.env)).any (·.1) || (backToKw pos (keywordEach kws X.env)).any (·.1.isNone)) = false := by rfl) :
    PE X (.Call (.Name x p) [] kws pos) (fun σ H Q => tk σ H fun zs H2 => zs.length = ks.length ∧ sp (gV [] zs) H2 Q E) := by
  refine ⟨fun pins s σ H Q I h => ?_⟩
  refine wpAny_Call_Name_kw (ld_glob I hg hm ?_ hdb)
  refine PySem.W.callWith_KW0 (h₀ := X.base) I.ok.mod.kin hk hall ?_ hpl
  refine thn (hkw.run pos pins s σ H _ I h) fun ws s2 ⟨zs, H2, I2, rz, l2, q2⟩ => ⟨I2.kIn, ?_⟩
  rw [hks]
  exact run_fnN F hr hb hx I2 (us := []) .nil rz rfl l2 q2
theorem ev_callK {k n : Nat} {f : Addr} {fd : FuncData} {ps : List Str} {wf : Fn} {x : Str} {p : Pos} (Fn : FnOk X.prog X.w X.K X.mg X.base CX0 k f fd ps (spV G n wf)) (hr : Room k X.A) (hg : Gl X x) (hm : X.mg x = some (.ref f)) (hk : PySem.W.keepIn X.K (.ref f) = true) (hb : Kw0 X.K fd ps) (hn : ps.length = n)
    (ha : KV X G kws l) (hall : (backToKw pos (keywordEach kws X.env)).all (·.1.isSome) = true := by rfl) (hks : (backToKw pos (keywordEach kws X.env)).filterMap (·.1) = ps := by rfl)
    (hdb : (x == ("__debug__" : Str)) = false := by decide)
    (hpl : ((backTo pos (starEach [] X.env)).any (·.1) || (backToKw pos (keywordEach kws X.env)).any (·.1.isNone)) = false := by rfl) :
    EV X G (.Call (.Name x p) [] kws pos) (vCall n wf l) :=
  ⟨(pe_callN0 Fn hr hg hm hk hb.kbn pass0 ha.run hall hks hdb hpl).imp fun σ H Q ⟨B, F, env, K, R, w0, c⟩ => ⟨B, F, env, _, R, w0, fun vs H1 ds env1 F1 R1 reps k1 => by
    refine ⟨by rw [reps.len, k1.1, hn], by rw [reps.len]; exact k1.1, F1, ds, _, R1.fok, R1.tp, reps, k1.2, fun v H' r po kr => ?_⟩
    obtain ⟨F2, R2, rr⟩ := R1.post po
    exact c v H' r env1 F2 R2 rr kr⟩⟩

/-! ### xs.index(x) -/
def opIndex (T : String) (x y : D) : Option Rv := match x, nk y with
  | .lst xs, some k => if T = "list" then match nks xs with
    | some ks => if k ∈ ks ∧ k.depth ≤ 60 ∧ ks.length ≤ 16777216 then some (.sh (.int (ks.idxOf k : Nat))) else none
    | none => none else none
  | .tup xs, some k => if T = "tuple" then match nks xs with
    | some ks => if k ∈ ks ∧ k.depth ≤ 60 ∧ ks.length ≤ 16777216 then some (.sh (.int (ks.idxOf k : Nat))) else none
    | none => none else none
  | _, _ => none
theorem nks_len : ∀ {xs : List D} {ks : List NestedKey}, nks xs = some ks → ks.length = xs.length
  | [], ks, h => by
    unfold nks at h
    cases h
    rfl
  | x :: xs, ks, h => by
    unfold nks at h
    split at h
    · rename_i k ks' h1 h2
      cases h
      simp [nks_len h2]
    · cases h
/-- what a method reads its object by: a list in hand or out of it, a tuple -/
theorem TupH.obj (I : L2.Inv X pins σ H s) {vs : List V} (h : TupH H a vs) : s.TypeIs (.ref a) "tuple" ∧ ∃ ob, s.heap.get? a = some ob ∧ ob.dict = none := by
  obtain ⟨ob, e, q⟩ := h
  have z : ObjOk X.prog X.w H s.heap a (.frz ob (.tup vs)) := I.hok a _ e
  obtain ⟨its, rv, p, _⟩ := I.tuple (X := X) (xs := vs) (TupH.sq ⟨ob, e, q⟩)
  exact ⟨p.typeIs, ob, z.1, q⟩
/-- the method's object is read ahead of its argument: it is known to be of the type then -/
def vIndexT (T : String) (o : Opd) (w : WE) : WE := fun env K => evO o env fun ro e1 => (∃ x, getR e1 ro = some x ∧ ((∃ xs, x = .lst xs ∧ T = "list") ∨ ∃ xs, x = .tup xs ∧ T = "tuple")) ∧ w e1 fun r e2 => match getR e2 ro with
  | some x => kP (opIndex T x r.d) K e2
  | none => False
theorem mt_index_any (hu : X.A.units + 65 < cLine) {T : String} {id : String} {v y : V} {u uy : Value} {Q : VK} {dx dy : D} {r : Rv} (hid : (T = "list" ∧ id = "list.index") ∨ (T = "tuple" ∧ id = "tuple.index")) (I : L2.Inv X pins σ H s) (ru : RelV v u) (ry : RelV y uy) (px : RepP G F H v dx) (py' : Rep G F H y dy)
    (hf : opIndex T dx dy = some r) (c : ∀ v' H', Res G F H v' H' r → Q v' H') : wpAny (model X.prog X.w) X.A (call (.builtin id) [u, uy]) (EP X pins σ Q) X.xe s := by
  unfold opIndex at hf
  split at hf
  · rename_i xs k hk
    split at hf
    · rename_i eT
      split at hf
      · rename_i ks hks
        split at hf
        · rename_i hc
          cases hf
          have eid : id = "list.index" := by
            rcases hid with h | h
            · exact h.2
            · exact absurd (eT.symm.trans h.1) (by decide)
          subst eid
          obtain ⟨a, vs, rfl, ha, ra⟩ := px.lst
          cases ru
          obtain ⟨its, rv, pl, _⟩ := I.list (.inl (.inl ha))
          refine SeqAt.call_list_index (vs := its) pl.isList (SeqAt.ItemsEq.nested (A := X.A.in1) (RepL.nested I ra hks rv) (py'.nested I hk ry) (by show X.A.units + 1 + _ < _; omega)) (by rw [sizeLine_is]; exact hc.2.2) hc.1 ?_
          exact ⟨.int _, H, I.tok _, ⟨_, rfl⟩, c _ _ (Res.flat (.int _))⟩
        · cases hf
      · cases hf
    · cases hf
  · rename_i xs k hk
    split at hf
    · rename_i eT
      split at hf
      · rename_i ks hks
        split at hf
        · rename_i hc
          cases hf
          have eid : id = "tuple.index" := by
            rcases hid with h | h
            · exact absurd (eT.symm.trans h.1) (by decide)
            · exact h.2
          subst eid
          obtain ⟨a, vs, rfl, ha, ra, _⟩ := px.tup
          cases ru
          obtain ⟨its, rv, pl, _⟩ := I.tuple ha.sq
          refine SeqAt.call_tuple_index (vs := its) pl (SeqAt.ItemsEq.nested (A := X.A.in1) (RepL.nested I ra hks rv) (py'.nested I hk ry) (by show X.A.units + 1 + _ < _; omega)) hc.1 ?_
          exact ⟨.int _, H, I.tok _, ⟨_, rfl⟩, c _ _ (Res.flat (.int _))⟩
        · cases hf
      · cases hf
    · cases hf
  · cases hf
def tyW (K : PySem.W.Frag) (T : String) (x : V) (H : Hp) : Prop := tyV K T x H ∨ ∃ a vs, x = .ref a ∧ T = "tuple" ∧ TupH H a vs
theorem tyW_is {T : String} {x : V} {v : Value} (I : L2.Inv X pins σ H s) (r : RelV x v) (ty : tyW X.K T x H) : s.TypeIs v T ∧ ∀ a, v = .ref a → ∃ ob, s.heap.get? a = some ob ∧ ob.dict = none := by
  rcases ty with ty | ⟨a, vs, rfl, rfl, ha⟩
  · exact tyV_is I r ty
  · cases r
    obtain ⟨h1, ob, h2, h3⟩ := ha.obj I
    exact ⟨h1, fun b e => by cases e; exact ⟨ob, h2, h3⟩⟩
def tBMW (K : PySem.W.Frag) (T : String) (r : V → List V → Hp → VK → Prop) (to : TE) (t : TA) : TE := fun σ H Q => to σ H fun x H1 => tyW K T x H1 ∧ t σ H1 fun xs H2 => r x xs H2 Q
theorem pe_bmW {T id : String} {o : Expr} {name : Str} {apos cpos : Pos} {r : V → List V → Hp → VK → Prop} {to : TE} {t : TA} (pa : PlainAttrs T) (slot : Slot T name id) (hty : typeOf (.builtin id) = pure (.type "method_descriptor")) (hm : MtR X id r) (ho : PE X o to) (ha : PA X (e :: es) t)
    (hbase : attributeBase o name X.env (eval o X.env) = eval o X.env := by rfl)
    (hfew : ((backTo cpos (starEach (e :: es) X.env)).all (fun x => !x.1) && (backToKw cpos (keywordEach [] X.env)).all (fun x => x.1.isSome)
      && decide ((e :: es).length + ([] : List Keyword).length + (if ([] : List Keyword).isEmpty then 0 else 1) < 30)) = true := by rfl)
    (hline : (apos.endLine == cpos.line) = true := by rfl) (hs : starEach (e :: es) X.env = (false, eval e X.env) :: starEach es X.env := by rfl) (hplain : (backTo cpos (starEach es X.env)).any (·.1) = false := by rfl) :
    PE X (.Call (.Attribute o name apos) (e :: es) [] cpos) (tBMW X.K T r to t) := by
  refine ⟨fun pins s σ H Q I h => ?_⟩
  refine wpAny_Call_method_late hbase hfew hline rfl (thn (ho.run pins s σ H _ I h) fun v s1 ⟨x, H1, I1, r1, ty, q1⟩ => ?_)
  obtain ⟨h1, h2⟩ := tyW_is I1 r1 ty
  refine ⟨T, id, pa, slot, hty, h1, h2, ?_⟩
  have hA := ha.run cpos pins s1 σ H1 _ I1 q1
  rw [hs] at hA ⊢
  refine Calls.callWith_builtin (by show (false || (backTo cpos (starEach es X.env)).any (·.1)) = false; rw [hplain] <;> rfl) (Calls.evalArgs_plain ?_)
  exact thn hA fun us s2 ⟨vs, H2, I2, r2, q2⟩ => hm pins s2 σ H2 x vs v us Q I2 r1 r2 q2
def rIndexG (G : Gx) (T : String) : V → List V → Hp → VK → Prop := fun x vs H Q => ∃ F y dx dy r, vs = [y] ∧ RepP G F H x dx ∧ Rep G F H y dy ∧ opIndex T dx dy = some r ∧ ∀ v' H', Res G F H v' H' r → Q v' H'
theorem mt_index (hu : X.A.units + 65 < cLine) {T id : String} (hid : (T = "list" ∧ id = "list.index") ∨ (T = "tuple" ∧ id = "tuple.index")) : MtR X id (rIndexG G T) := by
  intro pins s σ H x vs v us Q I rx rv ⟨F, y, dx, dy, r, e, px, py', hf, c⟩
  subst e
  obtain ⟨uy, rfl, ry⟩ := rv.one
  exact mt_index_any hu hid I rx ry px py' hf c
theorem ev_index {T id : String} {oe : Expr} {o : Opd} {apos : Pos} (hid : (T = "list" ∧ id = "list.index") ∨ (T = "tuple" ∧ id = "tuple.index")) (pa : PlainAttrs T) (slot : Slot T "index" id) (hty : typeOf (.builtin id) = pure (.type "method_descriptor")) (hu : X.A.units + 65 < cLine) (ho : OV X G oe o) (h : EV X G e w)
    (hbase : attributeBase oe "index" X.env (eval oe X.env) = eval oe X.env := by rfl)
    (hfew : ((backTo pos (starEach [e] X.env)).all (fun x => !x.1) && (backToKw pos (keywordEach [] X.env)).all (fun x => x.1.isSome)
      && decide ([e].length + ([] : List Keyword).length + (if ([] : List Keyword).isEmpty then 0 else 1) < 30)) = true := by rfl)
    (hline : (apos.endLine == pos.line) = true := by rfl) (hs : starEach [e] X.env = (false, eval e X.env) :: starEach [] X.env := by rfl) (hplain : (backTo pos (starEach [] X.env)).any (·.1) = false := by rfl) :
    EV X G (.Call (.Attribute oe "index" apos) [e] [] pos) (vIndexT T o w) :=
  ⟨(pe_bmW pa slot hty (mt_index hu hid) ho.run (lv_cons h lv_nil hs).run hbase hfew hline hs hplain).imp fun σ H Q ⟨B, F, env, K, R, w0, c⟩ => ⟨B, F, env, _, R, w0, fun v H1 ro env1 F1 R1 rep1 k1 => by
    obtain ⟨⟨x, gx, hx⟩, k1⟩ := k1
    have px := R1.getR rep1 gx
    refine ⟨?_, Bs.at F1 H1 env1 σ, F1, env1, fun ds e2 => match ds with
      | [d] => (match getR e2 ro with
        | some x => kP (opIndex T x d) K e2
        | none => False)
      | _ => False, R1.here, k1, fun us H2 ds env2 F2 R2 reps k2 => ?_⟩
    · rcases hx with ⟨xs, rfl, rfl⟩ | ⟨xs, rfl, rfl⟩
      · obtain ⟨a, vs, rfl, ha, _⟩ := px.lst
        exact .inl (.inl ⟨rfl, vs, .inl (.inl ha)⟩)
      · obtain ⟨a, vs, rfl, ha, _⟩ := px.tup
        exact .inr ⟨a, vs, rfl, rfl, ha⟩
    · cases reps with
      | nil => exact k2.elim
      | cons rep t =>
        cases t with
        | cons _ _ => exact k2.elim
        | nil =>
          simp only at k2
          split at k2
          · rename_i dx gx2
            obtain ⟨r, fr, k⟩ := kP_some k2
            refine ⟨F2, _, dx, _, r, rfl, R2.getR (R1.repR R2 rep1) gx2, rep, fr, fun v' H' q => ?_⟩
            obtain ⟨F3, R3, rr⟩ := (R1.trans R2).res q
            exact c v' H' r env2 F3 R3 rr k
          · exact k2.elim⟩⟩
/-! ### list(range(..)) -/
theorem pe_listRgA {ta : TA} {a : Expr} {args : List Expr} {p p2 pos2 : Pos} (hc : X.calm = true) (hg : Gl X "list") (hm : X.mg "list" = none) (hg2 : Gl X "range") (hm2 : X.mg "range" = none) (ha : PA X (a :: args) ta)
    (na : starEach [.Call (.Name "range" p2) (a :: args) [] pos2] X.env = (false, eval (.Call (.Name "range" p2) (a :: args) [] pos2) X.env) :: starEach [] X.env := by rfl)
    (hs : starEach (a :: args) X.env = (false, eval a X.env) :: starEach args X.env := by rfl) (hpl : (backTo pos2 (starEach args X.env)).any (·.1) = false := by rfl) :
    PE X (.Call (.Name "list" p) [.Call (.Name "range" p2) (a :: args) [] pos2] [] pos) (fun σ H Q => ta σ H fun vs H1 => ∃ (i c : Int) (n : Nat), ((∃ j : Int, vs = [.int j] ∧ i = 0 ∧ c = 1 ∧ RgC 0 j 1 n) ∨ (∃ j : Int, vs = [.int i, .int j] ∧ c = 1 ∧ RgC i j 1 n) ∨ ∃ j : Int, vs = [.int i, .int j, .int c] ∧ RgC i j c n) ∧ n ≤ 16777216 ∧ ∀ q, H1 q = none → Q (.ref q) (upd H1 q (.lst ((List.range n).map fun (k : Nat) => V.int (i + (k : Int) * c))))) := by
  refine ⟨fun pins s σ H Q I h => ?_⟩
  refine Call_ (ld_blt I hg hm boot_list (PyProof.Rows.callWith_type1 (args_cons (Call_ (ld_blt I hg2 hm2 boot_range (PyProof.Rows.callWith_type1 (thn (ha.run pos2 pins s σ H _ I h) fun us s1 ⟨vs, H1, I1, r1, i, c, n, q1, hn, q⟩ => ?_) hs hpl))) na) na))
  have fin : ∀ (a' b' c' : Int) (t u v : Tok) (tk0 : Nat), a' = i → c' = c → RgC i b' c n → wpAny (model X.prog X.w) X.A (spliced (backTo pos (starEach [] X.env))) (fun vs s' => wpAny (model X.prog X.w) X.A (call (.type "list") (Value.ref s1.heap.objs.size :: vs)) (EP X pins σ Q) X.xe s') X.xe { s1 with heap := s1.heap.push { cls := .type "range", data := .fields #[.int a' t, .int b' u, .int c' v] }, toks := tk0 } := by
    intro a' b' c' t u v tk0 ea ec rg
    subst ea ec
    refine args_nil ?_
    have hr : IsRange (s1.heap.push { cls := .type "range", data := .fields #[.int a' t, .int b' u, .int c' v] }) s1.heap.objs.size a' b' c' t u v := IsRange.new _ _ _ _ _ _ _
    have I2 : Inv X pins σ H1 { s1 with heap := s1.heap.push { cls := .type "range", data := .fields #[.int a' t, .int b' u, .int c' v] }, toks := tk0 } := I1.kept fun b u e => Heap.get?_push_of_some _ e
    refine call_list_range (n := n) (s := { s1 with heap := s1.heap.push { cls := .type "range", data := .fields #[.int a' t, .int b' u, .int c' v] }, toks := tk0 }) (I2.ok.hd hc) hr rg.2.2.1 rg.2.2.2 (by omega) fun h' tk acc c'' hk e' hi => ?_
    have hv : Vals ((List.range n).map fun (k : Nat) => V.int (a' + (k : Int) * c')) acc.toList := by
      have el : acc.toList.length = n := by rw [Array.length_toList]; exact hi.1
      rw [← el]
      refine vals_of_get acc.toList _ fun j u hj => ?_
      obtain ⟨t, rfl⟩ := hi.2 j u (by rw [← hj, Array.getElem?_toList])
      exact ⟨t, rfl⟩
    refine ⟨.ref _, _, I2.laid (t' := tk) hk (Nat.le_refl _) (o := .lst ((List.range n).map fun (k : Nat) => V.int (a' + (k : Int) * c'))) ⟨?_, acc.toList, c'', hv, ?_⟩, rfl, q _ (I2.hok.fresh (Nat.le_refl _))⟩
    · rw [List.length_map, List.length_range, sizeLine_eq]; exact hn
    · rw [Array.toArray_toList]; exact e'
  rcases q1 with ⟨j, rfl, rfl, rfl, rg⟩ | ⟨j, rfl, rfl, rg⟩ | ⟨j, rfl, rg⟩
  · obtain ⟨u, rfl, t, rfl⟩ := r1.one
    exact call_range_1 (fin 0 j 1 _ _ _ _ rfl rfl rg)
  · obtain ⟨u, u', rfl, ⟨t, rfl⟩, ⟨t', rfl⟩⟩ := r1.two
    exact call_range_2 (fin i j 1 _ _ _ _ rfl rfl rg)
  · cases r1 with
    | cons q1 r1 =>
      obtain ⟨u, u', rfl, ⟨t, rfl⟩, ⟨t', rfl⟩⟩ := Vals.two r1
      obtain ⟨t0, rfl⟩ := q1
      exact call_range_3 rg.1 (fin i j c _ _ _ _ rfl rfl rg) (.inl (PyProof.noPylong_small rg.2.1))
def vListRg (l : WL) : WE := fun env K => l env fun ds e1 => match ds with
  | [.int j] => ∃ n, RgC 0 j 1 n ∧ n ≤ 16777216 ∧ K (.ow (.lst (rangeD 0 1 n))) e1
  | [.int i, .int j] => ∃ n, RgC i j 1 n ∧ n ≤ 16777216 ∧ K (.ow (.lst (rangeD i 1 n))) e1
  | [.int i, .int j, .int c] => ∃ n, RgC i j c n ∧ n ≤ 16777216 ∧ K (.ow (.lst (rangeD i c n))) e1
  | _ => False
theorem rangeD_rep {i c : Int} {n : Nat} : RepL G F H ((List.range n).map fun (k : Nat) => V.int (i + (k : Int) * c)) (rangeD i c n) := by
  unfold rangeD
  induction List.range n with
  | nil => exact .nil
  | cons x xs ih => exact .cons (.int _) ih
theorem ev_listRg {a : Expr} {args : List Expr} {p p2 pos2 : Pos} (hc : X.calm = true) (hg : Gl X "list") (hm : X.mg "list" = none) (hg2 : Gl X "range") (hm2 : X.mg "range" = none) (ha : LV X G (a :: args) l)
    (na : starEach [.Call (.Name "range" p2) (a :: args) [] pos2] X.env = (false, eval (.Call (.Name "range" p2) (a :: args) [] pos2) X.env) :: starEach [] X.env := by rfl)
    (hs : starEach (a :: args) X.env = (false, eval a X.env) :: starEach args X.env := by rfl) (hpl : (backTo pos2 (starEach args X.env)).any (·.1) = false := by rfl) :
    EV X G (.Call (.Name "list" p) [.Call (.Name "range" p2) (a :: args) [] pos2] [] pos) (vListRg l) :=
  ⟨(pe_listRgA hc hg hm hg2 hm2 ha.run na hs hpl).imp fun σ H Q ⟨B, F, env, K, R, w0, c⟩ => ⟨B, F, env, _, R, w0, fun vs H1 ds env1 F1 R1 reps k1 => by
    have fin : ∀ (i s : Int) (n : Nat) (q : Addr), H1 q = none → K (.ow (.lst (rangeD i s n))) env1 → Q (.ref q) (upd H1 q (.lst ((List.range n).map fun (k : Nat) => V.int (i + (k : Int) * s)))) := fun i s n q hq k => by
      obtain ⟨F2, R2, rr⟩ := R1.res (Res.newLst R1.lF hq rangeD_rep)
      exact c _ _ _ env1 F2 R2 rr k
    split at k1
    · rename_i j
      obtain ⟨n, rg, hn, k⟩ := k1
      cases reps with
      | cons r t =>
        cases t
        rw [rep_int r]
        exact ⟨0, 1, n, .inl ⟨j, rfl, rfl, rfl, rg⟩, hn, fun q hq => fin 0 1 n q hq k⟩
    · rename_i i j
      obtain ⟨n, rg, hn, k⟩ := k1
      cases reps with
      | cons r t =>
        cases t with
        | cons r2 t =>
          cases t
          rw [rep_int r, rep_int r2]
          exact ⟨i, 1, n, .inr (.inl ⟨j, rfl, rfl, rg⟩), hn, fun q hq => fin i 1 n q hq k⟩
    · rename_i i j s
      obtain ⟨n, rg, hn, k⟩ := k1
      cases reps with
      | cons r t =>
        cases t with
        | cons r2 t =>
          cases t with
          | cons r3 t =>
            cases t
            rw [rep_int r, rep_int r2, rep_int r3]
            exact ⟨i, s, n, .inr (.inr ⟨j, rfl, rg⟩), hn, fun q hq => fin i s n q hq k⟩
    · exact k1.elim⟩⟩
end
end PV
end
section
set_option autoImplicit false
set_option linter.all false
set_option maxRecDepth 100000
namespace PV
open PySem PySem.Spec PyProof.Rows L2

structure ZMade (xs ys : Array Value) (lo : Addr) (h : Heap) (as : List Addr) : Prop where
  rise : as.Pairwise (· < ·)
  above : ∀ a ∈ as, lo < a
  pairs : ∀ (j : Nat) (a : Addr), as[j]? = some a → ∃ x y, xs[j]? = some x ∧ ys[j]? = some y ∧ h.get? a = some { cls := .type "tuple", data := .seq #[x, y] }
theorem ZMade.there {xs ys : Array Value} {lo : Addr} {h : Heap} {as : List Addr} (g : ZMade xs ys lo h as) {a : Addr} (ha : a ∈ as) : a < h.objs.size := by
  obtain ⟨j, hj⟩ := List.mem_iff_getElem?.mp ha
  obtain ⟨_, _, _, _, e⟩ := g.pairs j a hj
  exact Heap.lt_size e
structure ZSt (z TI TO i1 i2 l1 l2 S : Addr) (xs ys : Array Value) (i : Nat) (h : Heap) : Prop where
  out : (IsZip h z TI TO .none ∧ ∃ a b, IsPair h TO a b) ∨ ∃ T f oT, IsZipHeld h z TI TO T f ∧ h.get? T = some oT ∧ T ≠ z ∧ T ≠ i1 ∧ T ≠ i2 ∧ T ≠ S
  ti : IsPair h TI (.ref i1) (.ref i2)
  h1 : h.IsListIter i1 l1 i
  h2 : h.IsListIter i2 l2 i
  hl1 : h.IsList l1 xs
  hl2 : h.IsList l2 ys
  to : ∃ o, h.get? TO = some o
section
variable {prog : Program} {w : World} {A : Around} {E : Value → Shared → Prop} {s : Shared} {z TI TO i1 i2 l1 l2 S : Addr} {xs ys : Array Value} {i : Nat}
theorem ZSt.lt {h : Heap} (st : ZSt z TI TO i1 i2 l1 l2 S xs ys i h) : z < h.objs.size ∧ i1 < h.objs.size ∧ i2 < h.objs.size := by
  obtain ⟨_, e1, _⟩ := st.h1
  obtain ⟨_, e2, _⟩ := st.h2
  refine ⟨?_, Heap.lt_size e1, Heap.lt_size e2⟩
  rcases st.out with ⟨hz, _⟩ | ⟨T, f, oT, hz, _⟩
  · exact Heap.lt_size hz
  · exact Heap.lt_size hz
theorem ZSt.keep {h h' : Heap} (st : ZSt z TI TO i1 i2 l1 l2 S xs ys i h) (hS : S ≠ z ∧ S ≠ TI ∧ S ≠ TO ∧ S ≠ i1 ∧ S ≠ i2 ∧ S ≠ l1 ∧ S ≠ l2) (k : ∀ b o, b ≠ S → h.get? b = some o → h'.get? b = some o) : ZSt z TI TO i1 i2 l1 l2 S xs ys i h' where
  out := by
    rcases st.out with ⟨hz, a, b, ht⟩ | ⟨T, f, oT, hz, hT, n1, n2, n3, n4⟩
    · exact .inl ⟨k _ _ hS.1.symm hz, a, b, k _ _ hS.2.2.1.symm ht⟩
    · exact .inr ⟨T, f, oT, k _ _ hS.1.symm hz, k _ _ n4 hT, n1, n2, n3, n4⟩
  ti := k _ _ hS.2.1.symm st.ti
  h1 := st.h1.at fun o e => k _ o hS.2.2.2.1.symm e
  h2 := st.h2.at fun o e => k _ o hS.2.2.2.2.1.symm e
  hl1 := st.hl1.at fun o e => k _ o hS.2.2.2.2.2.1.symm e
  hl2 := st.hl2.at fun o e => k _ o hS.2.2.2.2.2.2.symm e
  to := by
    obtain ⟨o, e⟩ := st.to
    exact ⟨o, k _ _ hS.2.2.1.symm e⟩
theorem nxtZ {x y : Value} {Q : Option Value → Shared → Prop} (D : ZipApart z TI TO i1 i2 l1 l2) (st : ZSt z TI TO i1 i2 l1 l2 S xs ys i s.heap) (hS : S < s.heap.objs.size) (hx : xs[i]? = some x) (hy : ys[i]? = some y)
    (hQ : ∀ h', ZSt z TI TO i1 i2 l1 l2 S xs ys (i + 1) h' → h'.get? s.heap.objs.size = some { cls := .type "tuple", data := .seq #[x, y] } → h'.objs.size = s.heap.objs.size + 1 →
      (∀ b o, b ≠ z → b ≠ TO → b ≠ i1 → b ≠ i2 → s.heap.get? b = some o → h'.get? b = some o) → Q (some (.ref s.heap.objs.size)) { s with heap := h' }) :
    wpAny (model prog w) A (pyNext (.ref z)) Q E s := by
  obtain ⟨lz, li1, li2⟩ := st.lt
  rcases st.out with ⟨hz, a, b, ht⟩ | ⟨T, f, oT, hz, hT, n1, n2, n3, n4⟩
  · refine wpAny_pyNext_zip_item D hz st.ti ht st.h1 st.h2 st.hl1 st.hl2 hx hy fun h' hz' ht' h1' h2' hp hsz hk => ?_
    refine hQ h' ⟨.inr ⟨_, false, _, hz', hp, Nat.ne_of_gt lz, Nat.ne_of_gt li1, Nat.ne_of_gt li2, Nat.ne_of_gt hS⟩, hk _ _ D.TIz D.TITO D.TIi1 D.TIi2 st.ti, h1', h2', st.hl1.at fun o e => hk _ o D.l1z D.l1TO D.l1i1 D.l1i2 e, st.hl2.at fun o e => hk _ o D.l2z D.l2TO D.l2i1 D.l2i2 e, ⟨_, ht'⟩⟩ hp hsz hk
  · obtain ⟨oTO, hTO⟩ := st.to
    refine wpAny_pyNext_zip_item_held D hz hT st.ti st.h1 st.h2 st.hl1 st.hl2 hx hy fun h' hz' h1' h2' hp hsz hk => ?_
    exact hQ h' ⟨.inr ⟨T, true, oT, hz', hk _ _ n1 n2 n3 hT, n1, n2, n3, n4⟩, hk _ _ D.TIz D.TIi1 D.TIi2 st.ti, h1', h2', st.hl1.at fun o e => hk _ o D.l1z D.l1i1 D.l1i2 e, st.hl2.at fun o e => hk _ o D.l2z D.l2i1 D.l2i2 e, ⟨oTO, hk _ _ D.TOz D.TOi1 D.TOi2 hTO⟩⟩ hp hsz fun b o c1 _ c3 c4 e => hk b o c1 c3 c4 e
theorem finZ {Q : Option Value → Shared → Prop} (hh : A.handled = none) (D : ZipApart z TI TO i1 i2 l1 l2) (st : ZSt z TI TO i1 i2 l1 l2 S xs ys i s.heap) (he : xs[i]? = none ∨ ys[i]? = none)
    (hQ : ∀ h', (∀ b o, b ≠ z → b ≠ TO → b ≠ i1 → b ≠ i2 → s.heap.get? b = some o → h'.get? b = some o) → Q none { s with heap := h' }) : wpAny (model prog w) A (pyNext (.ref z)) Q E s := by
  rcases st.out with ⟨hz, a, b, ht⟩ | ⟨T, f, oT, hz, hT, n1, n2, n3, n4⟩
  · exact wpAny_pyNext_zip_end hh D hz st.ti ht st.h1 st.h2 st.hl1 st.hl2 he hQ
  · exact wpAny_pyNext_zip_end_held hh D hz hT st.ti st.h1 st.h2 st.hl1 st.hl2 he fun h' hk => hQ h' fun b o c1 _ c3 c4 e => hk b o c1 c3 c4 e
variable {R : Result → Shared → Prop}
/-- the addresses that a zip turns -/
def zOff (b z TO i1 i2 : Addr) : Prop := b ≠ z ∧ b ≠ TO ∧ b ≠ i1 ∧ b ≠ i2
theorem loopZ (hh : A.handled = none) (D : ZipApart z TI TO i1 i2 l1 l2) (hS : S ≠ z ∧ S ≠ TI ∧ S ≠ TO ∧ S ≠ i1 ∧ S ≠ i2 ∧ S ≠ l1 ∧ S ≠ l2) (hb : z ≤ S ∧ TO ≤ S ∧ i1 ≤ S ∧ i2 ≤ S) (hn : min xs.size ys.size ≤ sizeLine) (res : Value) {h₁ : Heap}
    (hR : ∀ h' tk acc c as, (∀ b o, b ≠ S → zOff b z TO i1 i2 → h₁.get? b = some o → h'.get? b = some o) → h'.get? S = some { cls := .type "list", dict := none, data := .seq acc c, slots := #[] } → as.length = min xs.size ys.size → ZMade xs ys S h' as →
      acc.toList = as.map Value.ref → R (.ok (.ret res)) { s with heap := h', toks := tk }) :
    ∀ (k i : Nat) (h : Heap) (tk c : Nat) (acc : Array Value) (as : List Addr), min xs.size ys.size - i = k → i ≤ min xs.size ys.size → ZSt z TI TO i1 i2 l1 l2 S xs ys i h → (∀ b o, b ≠ S → zOff b z TO i1 i2 → h₁.get? b = some o → h.get? b = some o) →
      h.get? S = some { cls := .type "list", dict := none, data := .seq acc c, slots := #[] } → acc.toList = as.map Value.ref → as.length = i → ZMade xs ys S h as →
      codeAny (model prog w) A (.builtin "list.extend.loop" ⟨[.ref S, .ref z, res], []⟩) R { s with heap := h, toks := tk } := by
  have offS : zOff S z TO i1 i2 := ⟨hS.1, hS.2.2.1, hS.2.2.2.1, hS.2.2.2.2.1⟩
  have offA : ∀ a, S < a → zOff a z TO i1 i2 := fun a ha => ⟨Nat.ne_of_gt (Nat.lt_of_le_of_lt hb.1 ha), Nat.ne_of_gt (Nat.lt_of_le_of_lt hb.2.1 ha), Nat.ne_of_gt (Nat.lt_of_le_of_lt hb.2.2.1 ha), Nat.ne_of_gt (Nat.lt_of_le_of_lt hb.2.2.2 ha)⟩
  intro k
  induction k with
  | zero =>
    intro i h tk c acc as hk hi hst hkeep hSo hacc hal hG
    refine codeAny_builtin PySem.F.entry_extend_loop ?_
    rw [Around.under_plainId PySem.F.plain_extend_loop _]
    show wpAny _ A.in1 (pyNext (.ref z) >>= _) _ _ _
    have he : xs[i]? = none ∨ ys[i]? = none := by
      rcases Nat.le_total xs.size ys.size with hl | hl
      · exact .inl (Array.getElem?_eq_none (by omega))
      · exact .inr (Array.getElem?_eq_none (by omega))
    refine wpAny_bind (finZ (s := { s with heap := h, toks := tk }) (A := A.in1) hh D hst he fun h' hkp => ?_)
    refine wpAny_pure (hR h' tk acc c as (fun b o h1 h2 e => hkp b o h2.1 h2.2.1 h2.2.2.1 h2.2.2.2 (hkeep b o h1 h2 e)) (hkp S _ offS.1 offS.2.1 offS.2.2.1 offS.2.2.2 hSo) (by omega) ⟨hG.rise, hG.above, fun j a hj => ?_⟩ hacc)
    obtain ⟨x, y, e1, e2, e3⟩ := hG.pairs j a hj
    have o := offA a (hG.above a (List.mem_of_getElem? hj))
    exact ⟨x, y, e1, e2, hkp a _ o.1 o.2.1 o.2.2.1 o.2.2.2 e3⟩
  | succ k ih =>
    intro i h tk c acc as hk hi hst hkeep hSo hacc hal hG
    have hlt : i < min xs.size ys.size := by omega
    have hx : xs[i]? = some xs[i] := Array.getElem?_eq_getElem _
    have hy : ys[i]? = some ys[i] := Array.getElem?_eq_getElem _
    have hsz : acc.size = i := by rw [← Array.length_toList, hacc, List.length_map, hal]
    refine codeAny_builtin PySem.F.entry_extend_loop ?_
    rw [Around.under_plainId PySem.F.plain_extend_loop _]
    show wpAny _ A.in1 (pyNext (.ref z) >>= _) _ _ _
    refine wpAny_bind (nxtZ (s := { s with heap := h, toks := tk }) (S := S) D hst (Heap.lt_size hSo) hx hy fun h' hst' ht hz hkp => ?_)
    dsimp only at ht hz hkp ⊢
    have hS' := hkp S _ offS.1 offS.2.1 offS.2.2.1 offS.2.2.2 hSo
    have up : ∀ b o, b ≠ S → h'.get? b = some o → (h'.update S (Obj.mapSeq (·.push (Value.ref h.objs.size)))).get? b = some o := fun b o hb e => (Heap.get?_update_other _ _ (Ne.symm hb)).trans e
    have hSl : S < h.objs.size := Heap.lt_size hSo
    show wpAny _ A.in1 (updateSeq S (·.push (Value.ref h.objs.size)) >>= _) _ _ _
    refine wpAny_bind ?_
    refine wpAny_updateSeq hS' rfl (wpAny_pure ⟨plainId_quiet PySem.F.plain_extend_loop _, ih (i + 1) _ tk _ (acc.push (Value.ref h.objs.size)) (as ++ [h.objs.size]) (by omega) hlt (hst'.keep hS up)
      (fun b o h1 h2 e => up b o h1 (hkp b o h2.1 h2.2.1 h2.2.2.1 h2.2.2.2 (hkeep b o h1 h2 e))) (Heap.get?_update_self _ hS' rfl) (by rw [Array.toList_push, hacc, List.map_append]; rfl) (by rw [List.length_append, hal]; rfl) ⟨?_, ?_, ?_⟩⟩) (by rw [hsz]; omega) (by show (acc.push (Value.ref h.objs.size)).size ≤ sizeLine + 1; rw [Array.size_push, hsz]; omega)
    · refine List.pairwise_append.mpr ⟨hG.rise, List.pairwise_singleton _ _, fun a ha b hb => ?_⟩
      rw [List.mem_singleton.mp hb]
      exact hG.there ha
    · intro a ha
      rcases List.mem_append.mp ha with ha | ha
      · exact hG.above a ha
      · rw [List.mem_singleton.mp ha]; exact hSl
    · intro j b hj
      rcases Nat.lt_trichotomy j as.length with h1 | h1 | h1
      · rw [List.getElem?_append_left h1] at hj
        obtain ⟨x, y, e1, e2, e3⟩ := hG.pairs j b hj
        have hb := hG.above b (List.mem_of_getElem? hj)
        have o := offA b hb
        exact ⟨x, y, e1, e2, up b _ (Nat.ne_of_gt hb) (hkp b _ o.1 o.2.1 o.2.2.1 o.2.2.2 e3)⟩
      · subst h1
        have hb : h.objs.size = b := by simpa using hj
        subst hb
        subst hal
        exact ⟨_, _, hx, hy, up _ _ (Nat.ne_of_gt hSl) ht⟩
      · have hnone : (as ++ [h.objs.size])[j]? = none := List.getElem?_eq_none (by rw [List.length_append, List.length_singleton]; omega)
        rw [hnone] at hj; cases hj
theorem zip_no_len : typeLookup (.type "zip") "__len__" = pure none := am_miss_of_fast (by decide +kernel)
theorem zip_no_hint : typeLookup (.type "zip") "__length_hint__" = pure none := am_miss_of_fast (by decide +kernel)
theorem hintZ {Q : Bool → Shared → Prop} (hT : s.TypeIs (.ref z) "zip") (h : Q true s) : wpAny (model prog w) A (Builtin.List.listLengthHint (.ref z)) Q E s := by
  unfold Builtin.List.listLengthHint
  refine wpAny_bind (wpAny_specialOf hT zip_no_len ?_)
  refine wpAny_ite_split (fun hab => ?_) (fun _ => ?_)
  · exact absurd hab (by decide +kernel)
  · refine wpAny_ite_split (fun hab => absurd hab (by decide)) (fun _ => ?_)
    refine wpAny_bind (wpAny_specialOf hT zip_no_hint ?_)
    exact wpAny_pure h
theorem extZ (hh : A.handled = none) (D : ZipApart z TI TO i1 i2 l1 l2) (hS : S ≠ z ∧ S ≠ TI ∧ S ≠ TO ∧ S ≠ i1 ∧ S ≠ i2 ∧ S ≠ l1 ∧ S ≠ l2) (hb : z ≤ S ∧ TO ≤ S ∧ i1 ≤ S ∧ i2 ≤ S) (hn : min xs.size ys.size ≤ sizeLine) (res : Value)
    (hz : IsZip s.heap z TI TO .none) (st : ZSt z TI TO i1 i2 l1 l2 S xs ys 0 s.heap) (c₀ : Nat) (hS0 : s.heap.get? S = some { cls := .type "list", data := .seq #[] c₀ })
    (hR : ∀ h' tk acc c as, (∀ b o, b ≠ S → zOff b z TO i1 i2 → s.heap.get? b = some o → h'.get? b = some o) → h'.get? S = some { cls := .type "list", dict := none, data := .seq acc c, slots := #[] } → as.length = min xs.size ys.size → ZMade xs ys S h' as →
      acc.toList = as.map Value.ref → R (.ok (.ret res)) { s with heap := h', toks := tk }) :
    wpAny (model prog w) A.in1 (Builtin.List.listExtendWith (.ref S) (.ref z) res)
      (fun fin s' => match fin with | .done f => R (.ok f) s' | .again c' => c'.quiet = true ∧ codeAny (model prog w) A c' R s') (fun e s' => R (.error e) s') s := by
  have hT : s.TypeIs (.ref z) "zip" := ⟨_, hz, rfl⟩
  have key : ∀ (h : Heap) (c₁ tk : Nat), (∀ b o, b ≠ S → s.heap.get? b = some o → h.get? b = some o) → h.get? S = some { cls := .type "list", data := .seq #[] c₁ } →
      codeAny (model prog w) A (.builtin "list.extend.loop" ⟨[.ref S, .ref z, res], []⟩) R { s with heap := h, toks := tk } := by
    intro h c₁ tk hk hS₁
    exact loopZ (s := s) (h₁ := s.heap) hh D hS hb hn res hR _ 0 h tk c₁ #[] [] rfl (Nat.zero_le _) (st.keep hS hk) (fun b o h1 _ e => hk b o h1 e) hS₁ rfl rfl ⟨List.Pairwise.nil, (fun _ ha => nomatch ha), (fun j a hj => by simp at hj)⟩
  unfold Builtin.List.listExtendWith
  refine wpAny_bind (wpAny_typeOf (T := "zip") hT ?_)
  have h1 : Builtin.List.listSameRef (.ref S) (.ref z) = false := by simp [Builtin.List.listSameRef, hS.1]
  have h2 : (Value.type "zip" == Value.type "list") = false := by decide
  have h3 : (Value.type "zip" == Value.type "tuple") = false := by decide
  simp only [h1, h2, h3, Bool.or_false, Bool.false_eq_true, if_false]
  refine wpAny_bind (wpAny_pyIter_zip hz ?_)
  refine wpAny_bind (wpAny_holding (hintZ hT ?_))
  refine wpAny_ite_split (fun _ => ?_) (fun _ => wpAny_pure ⟨plainId_quiet PySem.F.plain_extend_loop _, key _ c₀ _ (fun b o _ e => e) hS0⟩)
  refine wpAny_bind (wpAny_rule ?_)
  refine wpAny_bind ?_
  show wpAny _ _ (updateSeq S (·.push .none) >>= fun _ => updateSeq S (·.pop)) _ _ _
  refine wpAny_bind (wpAny_updateSeq hS0 rfl ?_)
  have hS₂ := Heap.get?_update_self (Obj.mapSeq (·.push Value.none)) hS0 rfl
  refine wpAny_updateSeq (hz := by seq_fits) hS₂ rfl ?_
  have hS₃ := Heap.get?_update_self (Obj.mapSeq (·.pop)) hS₂ rfl
  refine wpAny_pure ⟨plainId_quiet PySem.F.plain_extend_loop _, key _ _ _ (fun b o hb e => ?_) hS₃⟩
  exact (Heap.get?_update_other _ _ (Ne.symm hb)).trans ((Heap.get?_update_other _ _ (Ne.symm hb)).trans e)
theorem initZ (hh : A.handled = none) (D : ZipApart z TI TO i1 i2 l1 l2) (hS : S ≠ z ∧ S ≠ TI ∧ S ≠ TO ∧ S ≠ i1 ∧ S ≠ i2 ∧ S ≠ l1 ∧ S ≠ l2) (hb : z ≤ S ∧ TO ≤ S ∧ i1 ≤ S ∧ i2 ≤ S) (hn : min xs.size ys.size ≤ sizeLine)
    (hz : IsZip s.heap z TI TO .none) (st : ZSt z TI TO i1 i2 l1 l2 S xs ys 0 s.heap) (hS0 : s.heap.get? S = some { cls := .type "list", data := .seq #[] })
    (hR : ∀ h' tk acc c as, (∀ b o, b ≠ S → zOff b z TO i1 i2 → s.heap.get? b = some o → h'.get? b = some o) → h'.get? S = some { cls := .type "list", dict := none, data := .seq acc c, slots := #[] } → as.length = min xs.size ys.size → ZMade xs ys S h' as →
      acc.toList = as.map Value.ref → R (.ok (.ret .none)) { s with heap := h', toks := tk }) :
    wpAny (model prog w) A.in1 (Builtin.«list.__init__» ⟨[.ref S, .ref z], []⟩)
      (fun fin s' => match fin with | .done f => R (.ok f) s' | .again c' => c'.quiet = true ∧ codeAny (model prog w) A c' R s') (fun e s' => R (.error e) s') s := by
  show wpAny _ _ (do let old ← Builtin.List.listItems (.ref S); Builtin.List.listUpdate (.ref S) (fun _ => #[]); letGo old.toList.reverse; Builtin.List.listExtendWith (.ref S) (.ref z) .none) _ _ s
  refine wpAny_bind ?_
  unfold Builtin.List.listItems
  refine wpAny_bind (wpAny_seqItems hS0 rfl (wpAny_pure ?_))
  show wpAny _ _ (updateSeq S (fun _ => #[]) >>= fun _ => letGo (#[] : Array Value).toList.reverse >>= fun _ => Builtin.List.listExtendWith (.ref S) (.ref z) .none) _ _ s
  refine wpAny_bind (wpAny_updateSeq hS0 rfl ?_)
  have hS₂ := Heap.get?_update_self (Obj.mapSeq (fun _ => (#[] : Array Value))) hS0 rfl
  have oth : ∀ b o, b ≠ S → s.heap.get? b = some o → (s.heap.update S (Obj.mapSeq (fun _ => (#[] : Array Value)))).get? b = some o :=
    fun b o hb e => (Heap.get?_update_other _ _ (Ne.symm hb)).trans e
  refine wpAny_bind (wpAny_letGo ?_)
  refine extZ (s := { s with heap := s.heap.update S (Obj.mapSeq (fun _ => (#[] : Array Value))) }) hh D hS hb hn .none (oth _ _ hS.1.symm hz) (st.keep hS oth) _ hS₂ (fun h' tk acc c as hk hS' hl hG hacc => ?_)
  exact hR h' tk acc c as (fun b o hb hof e => hk b o hb hof (oth b o hb e)) hS' hl hG hacc
theorem callZ {Q : Value → Shared → Prop} (hh : A.handled = none) (D : ZipApart z TI TO i1 i2 l1 l2) (hb : z < s.heap.objs.size ∧ TI < s.heap.objs.size ∧ TO < s.heap.objs.size ∧ i1 < s.heap.objs.size ∧ i2 < s.heap.objs.size ∧ l1 < s.heap.objs.size ∧ l2 < s.heap.objs.size) (hn : min xs.size ys.size ≤ sizeLine)
    (hz : IsZip s.heap z TI TO .none) (st : ∀ S, ZSt z TI TO i1 i2 l1 l2 S xs ys 0 s.heap)
    (hQ : ∀ h' tk acc c as, (∀ b o, zOff b z TO i1 i2 → s.heap.get? b = some o → h'.get? b = some o) → h'.get? s.heap.objs.size = some { cls := .type "list", dict := none, data := .seq acc c, slots := #[] } → as.length = min xs.size ys.size → ZMade xs ys s.heap.objs.size h' as →
      acc.toList = as.map Value.ref → Q (.ref s.heap.objs.size) { s with heap := h', toks := tk }) :
    wpAny (model prog w) A (call (.type "list") [.ref z]) Q E s := by
  obtain ⟨b1, b2, b3, b4, b5, b6, b7⟩ := hb
  refine callType_codes (Q₁ := fun obj s₁ => obj = .ref s.heap.objs.size ∧ s₁ = { s with heap := s.heap.push { cls := .type "list", data := .seq #[] } }) PySem.F.called_list (PySem.F.typeCall_list_1 _) PySem.F.entry_list_init
    (code_list_new _ ⟨rfl, rfl⟩) fun obj s₁ h₁ => ?_
  obtain ⟨rfl, rfl⟩ := h₁
  have hS : (s.heap.push { cls := .type "list", data := .seq #[] }).get? s.heap.objs.size = some { cls := .type "list", data := .seq #[] } := Heap.get?_push_size _ rfl
  have oth : ∀ b o, b ≠ s.heap.objs.size → s.heap.get? b = some o → (s.heap.push { cls := .type "list", data := .seq #[] }).get? b = some o := fun b o _ e => Heap.get?_push_of_some _ e
  have ne : s.heap.objs.size ≠ z ∧ s.heap.objs.size ≠ TI ∧ s.heap.objs.size ≠ TO ∧ s.heap.objs.size ≠ i1 ∧ s.heap.objs.size ≠ i2 ∧ s.heap.objs.size ≠ l1 ∧ s.heap.objs.size ≠ l2 := ⟨Nat.ne_of_gt b1, Nat.ne_of_gt b2, Nat.ne_of_gt b3, Nat.ne_of_gt b4, Nat.ne_of_gt b5, Nat.ne_of_gt b6, Nat.ne_of_gt b7⟩
  refine ⟨⟨_, hS, rfl⟩, PySem.F.args_list_init_2 _ _, initZ (A := A.in1) (s := { s with heap := s.heap.push { cls := .type "list", data := .seq #[] } }) hh D ne ⟨Nat.le_of_lt b1, Nat.le_of_lt b3, Nat.le_of_lt b4, Nat.le_of_lt b5⟩ hn (Heap.get?_push_of_some _ hz) ((st s.heap.objs.size).keep ne oth) hS (fun h' tk acc c as hk hS' hl hG hacc => ?_)⟩
  exact ⟨rfl, hQ h' tk acc c as (fun b o hof e => hk b o (Nat.ne_of_lt (Heap.lt_size e)) hof (Heap.get?_push_of_some _ e)) hS' hl hG hacc⟩
end
end PV
end
section
set_option autoImplicit false
set_option linter.all false
set_option maxRecDepth 100000
namespace PV
open PySem PySem.Spec PyProof.Rows L2

section
variable {X : Cx} {G : Gx} {B : Bs} {F F' : Addr → Prop} {env env' : Ev} {σ σ' : L2.St} {H H' : Hp} {v : V} {d : D} {a : Addr} {i : Nat} {e : Expr} {es : List Expr} {pos : Pos} {w : WE} {l : WL} {pins : List (Addr × Obj)} {s : Shared}

theorem takeZ {H0 : Hp} {h' : Heap} {tk : Nat} {P : Addr → HO → Prop} (I0 : L2.Inv X pins σ H0 s) : ∀ (L : List Addr) (H1 : Hp), L2.Inv X pins σ H1 { s with heap := h', toks := tk } → L.Nodup →
    (∀ a ∈ L, s.heap.objs.size ≤ a ∧ H1 a = none ∧ ∃ u, P a u ∧ ∀ H2, ObjOk X.prog X.w H2 h' a u) →
    ∃ H2, L2.Inv X pins σ H2 { s with heap := h', toks := tk } ∧ (∀ b, b ∉ L → H2 b = H1 b) ∧ ∀ a ∈ L, ∃ u, P a u ∧ H2 a = some u
  | [], H1, I1, _, _ => ⟨H1, I1, fun _ _ => rfl, fun _ h => nomatch h⟩
  | a :: L, H1, I1, hn, h => by
    obtain ⟨hb, hnone, u, hP, ok⟩ := h a List.mem_cons_self
    have I2 : L2.Inv X pins σ (upd H1 a u) { s with heap := h', toks := tk } := I1.take (h' := h') (t' := tk) (fun b ob _ e => e) (I0.fpOk hb hnone) (ok _)
    rw [List.nodup_cons] at hn
    obtain ⟨H2, I3, g, q⟩ := takeZ I0 L (upd H1 a u) I2 hn.2 fun c hc => by
      obtain ⟨c1, c2, c3⟩ := h c (List.mem_cons_of_mem _ hc)
      exact ⟨c1, by rw [upd_ne (fun z => hn.1 (by rw [← z]; exact hc))]; exact c2, c3⟩
    refine ⟨H2, I3, fun b hb => ?_, fun c hc => ?_⟩
    · rw [List.mem_cons, not_or] at hb
      rw [g b hb.2, upd_ne hb.1]
    · rcases List.mem_cons.mp hc with rfl | hc
      · exact ⟨u, hP, by rw [g _ hn.1, upd_same]⟩
      · exact q c hc
/-- what list(zip(xs, ys)) lays -/
structure ZRes (H1 H' : Hp) (l : Addr) (bs : List Addr) (xs ys : List V) : Prop where
  keep : ∀ b, b ≠ l → b ∉ bs → H' b = H1 b
  l0 : H1 l = none
  l1 : H' l = some (.lst (bs.map V.ref))
  lb : l ∉ bs
  len : bs.length = min xs.length ys.length
  prs : ∀ (j : Nat) (b : Addr), bs[j]? = some b → H1 b = none ∧ ∃ x y, xs[j]? = some x ∧ ys[j]? = some y ∧ TupH H' b [x, y]
theorem pe_listZip {ta : TA} {a b : Expr} {p p2 pos2 : Pos} (hc : X.calm = true) (hg : Gl X "list") (hm : X.mg "list" = none) (hg2 : Gl X "zip") (hm2 : X.mg "zip" = none) (ha : PA X [a, b] ta)
    (na : starEach [.Call (.Name "zip" p2) [a, b] [] pos2] X.env = (false, eval (.Call (.Name "zip" p2) [a, b] [] pos2) X.env) :: starEach [] X.env := by rfl)
    (hs : starEach [a, b] X.env = (false, eval a X.env) :: starEach [b] X.env := by rfl) (hpl : (backTo pos2 (starEach [b] X.env)).any (·.1) = false := by rfl) :
    PE X (.Call (.Name "list" p) [.Call (.Name "zip" p2) [a, b] [] pos2] [] pos) (fun σ H Q => ta σ H fun vs H1 => ∃ p q xs ys, vs = [.ref p, .ref q] ∧ H1 p = some (.lst xs) ∧ H1 q = some (.lst ys) ∧ ∀ H' l bs, ZRes H1 H' l bs xs ys → Q (.ref l) H') := by
  refine ⟨fun pins s σ H Q I h => ?_⟩
  refine Call_ (ld_blt I hg hm boot_list (PyProof.Rows.callWith_type1 (args_cons (Call_ (ld_blt I hg2 hm2 PyProof.Rows.boot_zip (PyProof.Rows.callWith_type1 (thn (ha.run pos2 pins s σ H _ I h) fun us s1 ⟨vs, H1, I1, r1, p', q', xs, ys, ev, hp, hq, q⟩ => ?_) hs hpl))) na) na))
  subst ev
  obtain ⟨u1, u2, rfl, e1, e2⟩ := Vals.two r1
  cases e1
  cases e2
  obtain ⟨its, rv, p1, hz1⟩ := I1.list (.inl (.inl hp))
  obtain ⟨its2, rv2, p2', hz2⟩ := I1.list (.inl (.inl hq))
  have l1 := rv.length
  have l2 := rv2.length
  refine call_zip_2 p1.isList p2'.isList fun h2 hz hTI hTO hi1 hi2 hsz hk => args_nil ?_
  have I2 : Inv X pins σ H1 { s1 with heap := h2 } := I1.kept (t' := s1.toks) hk
  have lp := p1.lt
  have lq := p2'.lt
  have D := PySem.W.ktu_apart s1.heap.objs.size p' q' lp lq
  have lp' : p' < s1.heap.objs.size := lp
  have lq' : q' < s1.heap.objs.size := lq
  refine callZ (s := { s1 with heap := h2 }) (xs := its.toArray) (ys := its2.toArray) (I2.ok.hd hc) D ?_ (by rw [List.size_toArray, List.size_toArray]; omega) hz (fun S => ⟨.inl ⟨hz, _, _, hTO⟩, hTI, hi1, hi2, p1.isList.at fun o e => hk _ o e, p2'.isList.at fun o e => hk _ o e, ⟨_, hTO⟩⟩) fun h' tk acc c as hk' hS' hl hG hacc => ?_
  · show _ < h2.objs.size ∧ _ < h2.objs.size ∧ _ < h2.objs.size ∧ _ < h2.objs.size ∧ _ < h2.objs.size ∧ _ < h2.objs.size ∧ _ < h2.objs.size
    rw [hsz]
    have f : ∀ n : Nat, n < s1.heap.objs.size → n < s1.heap.objs.size + 5 := fun n h => by omega
    refine ⟨?_, ?_, ?_, ?_, ?_, f _ lp', f _ lq'⟩
    · exact Nat.add_lt_add_left (by decide) _
    · exact Nat.add_lt_add_left (by decide) _
    · exact Nat.add_lt_add_left (by decide) _
    · exact Nat.lt_add_of_pos_right (by decide)
    · exact Nat.add_lt_add_left (by decide) _
  · have hk2 : ∀ b o, s1.heap.get? b = some o → h'.get? b = some o := fun b o e => by
      have lb := Heap.lt_size e
      refine hk' b o ?_ (hk b o e)
      refine ⟨?_, ?_, ?_, ?_⟩
      · exact Nat.ne_of_lt (Nat.lt_of_lt_of_le lb (Nat.le_add_right _ _))
      · exact Nat.ne_of_lt (Nat.lt_of_lt_of_le lb (Nat.le_add_right _ _))
      · exact Nat.ne_of_lt lb
      · exact Nat.ne_of_lt (Nat.lt_of_lt_of_le lb (Nat.le_add_right _ _))
    have I3 : Inv X pins σ H1 { s1 with heap := h', toks := tk } := I1.kept hk2
    have hge : ∀ n : Nat, h2.objs.size ≤ n → s1.heap.objs.size ≤ n := fun n h => by
      have : s1.heap.objs.size + 5 ≤ n := by rw [← hsz]; exact h
      omega
    have nd : as.Nodup := List.Pairwise.imp (fun h => Nat.ne_of_lt h) hG.rise
    have hpair : ∀ (j : Nat) (b : Addr), as[j]? = some b → ∃ x y u1 u2, xs[j]? = some x ∧ ys[j]? = some y ∧ RelV x u1 ∧ RelV y u2 ∧ h'.get? b = some { cls := .type "tuple", data := .seq #[u1, u2] } := fun j b hj => by
      obtain ⟨u1, u2, e1, e2, e3⟩ := hG.pairs j b hj
      rw [List.getElem?_toArray] at e1 e2
      have h1 : j < xs.length := by rw [l1]; exact (List.getElem?_eq_some_iff.mp e1).1
      have h2 : j < ys.length := by rw [l2]; exact (List.getElem?_eq_some_iff.mp e2).1
      obtain ⟨w1, f1, r1⟩ := rv.get (List.getElem?_eq_getElem h1)
      obtain ⟨w2, f2, r2⟩ := rv2.get (List.getElem?_eq_getElem h2)
      rw [e1] at f1
      rw [e2] at f2
      cases f1
      cases f2
      exact ⟨_, _, u1, u2, List.getElem?_eq_getElem h1, List.getElem?_eq_getElem h2, r1, r2, e3⟩
    obtain ⟨H2, I4, g1, g2⟩ := takeZ (P := fun b u => ∃ j x y ob, as[j]? = some b ∧ xs[j]? = some x ∧ ys[j]? = some y ∧ u = .frz ob (.tup [x, y]) ∧ ob.dict = none) I1 as H1 I3 nd fun b hb => by
      obtain ⟨j, hj⟩ := List.mem_iff_getElem?.mp hb
      obtain ⟨x, y, u1, u2, e1, e2, r1, r2, e3⟩ := hpair j b hj
      have hle := hge b (Nat.le_of_lt (hG.above b hb))
      refine ⟨hle, I1.hok.fresh hle, _, ⟨j, x, y, _, hj, e1, e2, rfl, rfl⟩, fun H2 => ⟨e3, by show 2 ≤ sizeLine; decide, [u1, u2], .cons r1 (.cons r2 .nil), ⟨_, e3, rfl, _, rfl⟩⟩⟩
    have hS0 : H1 h2.objs.size = none := I1.hok.fresh (hge _ (Nat.le_refl _))
    have hSn : h2.objs.size ∉ as := fun z => Nat.lt_irrefl _ (hG.above _ z)
    have hS2 : H2 h2.objs.size = none := by rw [g1 _ hSn]; exact hS0
    have hln : as.length ≤ sizeLine := by
      rw [hl, List.size_toArray, List.size_toArray]
      omega
    have hv : Vals (as.map V.ref) acc.toList := by rw [hacc]; exact vals_refs as
    have I5 : Inv X pins σ (upd H2 h2.objs.size (.lst (as.map V.ref))) { s1 with heap := h', toks := tk } := I4.take (h' := h') (t' := tk) (fun b ob _ e => e) (I1.fpOk (hge _ (Nat.le_refl _)) hS2) ⟨by rw [List.length_map]; exact hln, acc.toList, c, hv, by rw [Array.toArray_toList]; exact hS'⟩
    refine ⟨.ref h2.objs.size, _, I5, rfl, q _ _ as ⟨fun b n1 n2 => by rw [upd_ne n1, g1 b n2], hS0, upd_same, hSn, by rw [hl, List.size_toArray, List.size_toArray, l1, l2], fun j b hj => ?_⟩⟩
    have hb := List.mem_of_getElem? hj
    obtain ⟨u, ⟨j', x, y, ob, h1, h2', h3, rfl, h5⟩, h6⟩ := g2 b hb
    have ej : j' = j := by
      have := (List.getElem?_inj (lt_of_get h1) nd).mp (h1.trans hj.symm)
      exact this
    subst ej
    exact ⟨I1.hok.fresh (hge b (Nat.le_of_lt (hG.above b hb))), x, y, h2', h3, ob, by rw [upd_ne (fun z => hSn (by rw [← z]; exact hb))]; exact h6, h5⟩
def zipD : List D → List D → List D
  | x :: xs, y :: ys => .tup [x, y] :: zipD xs ys
  | _, _ => []
theorem zipD_get : ∀ {xs ys : List D} {j : Nat} {x y : D}, xs[j]? = some x → ys[j]? = some y → (zipD xs ys)[j]? = some (.tup [x, y])
  | [], _, _, _, _, h, _ => by simp at h
  | _ :: _, [], _, _, _, _, h => by simp at h
  | a :: xs, b :: ys, 0, x, y, h1, h2 => by
    simp at h1 h2
    subst h1 h2
    rfl
  | a :: xs, b :: ys, j + 1, x, y, h1, h2 => by
    have := zipD_get (xs := xs) (ys := ys) (j := j) (by simpa using h1) (by simpa using h2)
    simpa [zipD] using this
theorem zipD_len : ∀ {xs ys : List D}, (zipD xs ys).length = min xs.length ys.length
  | [], _ => by simp [zipD]
  | _ :: _, [] => by simp [zipD]
  | _ :: xs, _ :: ys => by simp [zipD, zipD_len (xs := xs) (ys := ys)]
theorem RepL.of_get : ∀ {vs : List V} {ds : List D}, vs.length = ds.length → (∀ (j : Nat) (v : V) (d : D), vs[j]? = some v → ds[j]? = some d → Rep G F H v d) → RepL G F H vs ds
  | [], [], _, _ => .nil
  | [], _ :: _, h, _ => by simp at h
  | _ :: _, [], h, _ => by simp at h
  | v :: vs, d :: ds, h, f => .cons (f 0 v d rfl rfl) (RepL.of_get (by simpa using h) fun j v d h1 h2 => f (j + 1) v d (by simpa using h1) (by simpa using h2))
theorem ZRes.res {vs us : List V} {xs ys : List D} {l : Addr} {bs : List Addr} (fo : FOk G F H) (z : ZRes H H' l bs vs us) (r1 : RepL G F H vs xs) (r2 : RepL G F H us ys) : Res G F H (.ref l) H' (.ow (.lst (zipD xs ys))) := by
  have kp : ∀ b, H b ≠ none → H' b = H b := fun b hb => z.keep b (fun e => hb (by rw [e]; exact z.l0)) fun hm => by
    obtain ⟨j, hj⟩ := List.mem_iff_getElem?.mp hm
    exact hb (z.prs j b hj).1
  have tr : Tr F H H' := .of fun b hb => kp b (fo b hb).1
  have sub : ∀ b, F b → F b ∨ b ∈ bs := fun b h => .inl h
  have hF : ∀ b ∈ bs, H b = none ∧ H' b ≠ none := fun b hm => by
    obtain ⟨j, hj⟩ := List.mem_iff_getElem?.mp hm
    obtain ⟨h1, x, y, _, _, ob, h4, _⟩ := z.prs j b hj
    exact ⟨h1, by rw [h4]; intro q; cases q⟩
  refine ⟨kp, fun b => F b ∨ b ∈ bs, sub, fun b h => h.elim .inl fun hm => .inr (hF b hm), l, rfl, z.l0, fun h => h.elim (fun f => (fo l f).1 z.l0) z.lb, by rw [z.l1]; trivial, .lst z.l1 ?_⟩
  refine RepL.of_get (by rw [List.length_map, z.len, zipD_len, r1.len, r2.len]) fun j v d h1 h2 => ?_
  rw [List.getElem?_map] at h1
  obtain ⟨b, hb, rfl⟩ := Option.map_eq_some_iff.mp h1
  obtain ⟨_, x, y, hx, hy, ht⟩ := z.prs j b hb
  have lx : j < xs.length := by rw [← r1.len]; exact lt_of_get hx
  have ly : j < ys.length := by rw [← r2.len]; exact lt_of_get hy
  obtain ⟨x', ex, rx⟩ := r1.get (List.getElem?_eq_getElem lx)
  obtain ⟨y', ey, ry⟩ := r2.get (List.getElem?_eq_getElem ly)
  rw [hx] at ex
  rw [hy] at ey
  cases ex
  cases ey
  rw [zipD_get (List.getElem?_eq_getElem lx) (List.getElem?_eq_getElem ly)] at h2
  cases h2
  exact .at (.inr (List.mem_of_getElem? hb)) (.tup ht (.cons (rx.mono sub tr) (.cons (ry.mono sub tr) .nil)))
def vListZip (l : WL) : WE := fun env K => l env fun ds e1 => match ds with
  | [.lst xs, .lst ys] => K (.ow (.lst (zipD xs ys))) e1
  | _ => False
theorem ev_listZip {a b : Expr} {p p2 pos2 : Pos} (hc : X.calm = true) (hg : Gl X "list") (hm : X.mg "list" = none) (hg2 : Gl X "zip") (hm2 : X.mg "zip" = none) (ha : LV X G [a, b] l)
    (na : starEach [.Call (.Name "zip" p2) [a, b] [] pos2] X.env = (false, eval (.Call (.Name "zip" p2) [a, b] [] pos2) X.env) :: starEach [] X.env := by rfl)
    (hs : starEach [a, b] X.env = (false, eval a X.env) :: starEach [b] X.env := by rfl) (hpl : (backTo pos2 (starEach [b] X.env)).any (·.1) = false := by rfl) :
    EV X G (.Call (.Name "list" p) [.Call (.Name "zip" p2) [a, b] [] pos2] [] pos) (vListZip l) :=
  ⟨(pe_listZip hc hg hm hg2 hm2 ha.run na hs hpl).imp fun σ H Q ⟨B, F, env, K, R, w0, c⟩ => ⟨B, F, env, _, R, w0, fun vs H1 ds env1 F1 R1 reps k1 => by
    split at k1
    · rename_i xs ys
      cases reps with
      | cons r t =>
        cases t with
        | cons r2 t =>
          cases t
          obtain ⟨p, vs1, rfl, h1, q1⟩ := RepP.lst (.inl r)
          obtain ⟨q, vs2, rfl, h2, q2⟩ := RepP.lst (.inl r2)
          refine ⟨p, q, vs1, vs2, rfl, h1, h2, fun H' l bs z => ?_⟩
          obtain ⟨F2, R2, rr⟩ := R1.res (z.res R1.lF q1 q2)
          exact c _ _ _ env1 F2 R2 rr k1
    · exact k1.elim⟩⟩
end
end PV
end
section
set_option autoImplicit false
set_option linter.all false
set_option maxRecDepth 100000
namespace PV
open PySem PySem.Spec PyProof.Rows L2

section
variable {X : Cx} {G : Gx} {B : Bs} {F F' : Addr → Prop} {env env' : Ev} {σ σ' : L2.St} {H H' : Hp} {v : V} {d : D} {a : Addr} {i : Nat} {e : Expr} {es : List Expr} {pos : Pos} {w : WE} {l : WL}

/-- the list comprehension from its iterator on -/
theorem lc_t {wi : WI} {g : WG} {is vs : List Nat} {t : WT} {wt : WE} {Q : VK} {h : tE G (vLc wi g t wt vs) σ H Q} (hsub : ∀ i ∈ is, i ∈ vs) : tLc (tI G wi) (tG G g is) (tTs G t) (tE G wt) vs σ H Q := by
  obtain ⟨B, F, env, K, R, w0, c⟩ := h
  refine ⟨B, F, env, _, R, w0, fun J H1 items env1 F1 R1 ok k1 => ?_⟩
  obtain ⟨hz, k1⟩ := k1
  intro D hD
  have R1w := R1.wiped vs
  let B1 := Bs.at F1 H1 (wipeE env1 vs) (wipe σ vs)
  have hDn : RR G B1 F1 (wipeE env1 vs) (wipe σ vs) (upd H1 D (.lst [])) (.ref D) (.ow (.lst [])) := R1w.here.freshRR hD trivial (.lst upd_same .nil)
  refine ⟨fun i m H' => ∃ F' env' acc, Rel G B1 F' env' (wipe σ vs) H' ∧ RR G B1 F' env' (wipe σ vs) H' (.ref D) (.ow (.lst acc)) ∧ acc.length ≤ i ∧ m = items.length - i ∧ i ≤ items.length ∧ lcL g t wt vs (items.drop i) acc env' (fun acc e2 => K (.ow (.lst acc)) (restE env1 vs e2)),
    ⟨_, F1, _, [], R1w.here.new hD _, hDn, Nat.le_refl _, rfl, Nat.zero_le _, k1⟩, ?_⟩
  rintro i m H2 ⟨F2, env2, acc, R2, D2, hacc, rfl, hi, k2⟩
  obtain ⟨stop, go⟩ := ok F2 H2 R2.mF (R1w.tr R2) R2.fok R2.tp
  by_cases hlt : i < items.length
  · refine .inr ⟨(go i hlt).1, fun H' => ∃ F' env' acc, Rel G B1 F' env' (wipe σ vs) H' ∧ RR G B1 F' env' (wipe σ vs) H' (.ref D) (.ow (.lst acc)) ∧ acc.length ≤ i + 1 ∧ lcL g t wt vs (items.drop (i + 1)) acc env' (fun acc e2 => K (.ow (.lst acc)) (restE env1 vs e2)),
      fun H' ⟨F', env', acc', R', D', h1, q⟩ => ⟨_, ?_, F', env', acc', R', D', h1, rfl, hlt, q⟩, fun x H' y => ?_⟩
    · omega
    obtain ⟨d, hd, re⟩ := (go i hlt).2 x H' y
    obtain ⟨F3, R3, rr⟩ := R2.here.res re
    have D3 := D2.keep R2 R3
    have R3 := R2.trans R3
    have ed : items.drop i = d :: items.drop (i + 1) := by
      rw [List.drop_eq_getElem_cons hlt]
      rw [List.getElem?_eq_getElem hlt] at hd
      rw [Option.some.inj hd]
    rw [ed] at k2
    refine ⟨_, F3, env2, d, _, R3.here, rr, k2, fun σ4 H4 env4 F4 R4 only k4 => ?_⟩
    have eσ : wipe σ4 vs = wipe σ vs := (wipe_eq only.1 fun j hj => only.2 j fun z => hj (hsub j z)).trans wipe_wipe
    have D4 := D3.keep R3 R4
    have R4 := R3.trans R4
    refine ⟨eσ, _, F4, env4, _, R4.here, k4, fun b H5 env5 F5 R5 k5 => ?_⟩
    have D5 := D4.keep R4 R5
    have R5 := R4.trans R5
    cases b with
    | false =>
      refine iteF ⟨F5, wipeE env5 vs, acc, ?_, ?_, Nat.le_succ_of_le hacc, k5⟩
      · rw [← eσ]
        exact R5.wiped vs
      · rw [← eσ]
        exact D5.wiped
    | true =>
      refine iteT ⟨_, F5, env5, _, R5.here, k5, fun y6 H6 r6 env6 F6 R6 rr6 k6 => ?_⟩
      have D6 := D5.keep R5 R6
      obtain ⟨F7, R7, rep7, sub7⟩ := R6.freeze rr6
      have D7 := D5.keep R5 R7
      have R7 := R5.trans R7
      obtain ⟨us, hD7, rl⟩ := D7.lst
      obtain ⟨n1, n2, n3, n4⟩ := D7.notF
      refine ⟨us, hD7, ?_, F7, wipeE env6 vs, acc ++ [r6.d], ?_, ?_, ?_, k6⟩
      · rw [rl.len, sizeLine_is]
        omega
      · rw [← eσ]
        exact (R7.pend n1 n2 n3 n4).wiped vs
      · rw [← eσ]
        refine RR.wiped ⟨D, rfl, n1, n2, by rw [upd_same]; trivial, .lst upd_same ?_, n3, n4⟩
        have tr : Tr F7 H6 (upd H6 D (.lst (us ++ [y6]))) := .of fun b h => upd_ne fun z => n1 (z ▸ h)
        exact (rl.mono (fun _ z => z) tr).append (.cons (rep7.mono (fun _ z => z) tr) .nil)
      · simp
        omega
  · have e : i = items.length := by omega
    subst e
    rw [List.drop_length] at k2
    refine .inl ⟨stop, c (.ref D) H2 (.ow (.lst acc)) (restE env1 vs env2) F2 (R1.trans (Rel.unwipe R1.here ?_)) ?_ k2⟩
    · exact R2
    · obtain ⟨b, eb, h1, h2, h3, h4, h5, h6⟩ := D2
      cases eb
      refine ⟨D, rfl, h1, h2, h3, h4, ?_, fun j o => ?_⟩
      · cases q : B.H0 D with
        | none => exact .inr rfl
        | some u => exact absurd hD (R1.al D (by rw [q]; intro y; cases y))
      · rcases own_rest (by rw [← wipeE_length env1 vs, R1w.len, R2.len]) o with o | o
        · exact mut_some (R1.ownF o).2.2.1 hD
        · exact h6 j o
theorem sv_setLc {y : Str} {py spos : Pos} {elt tg iter : Expr} {ifs : List Expr} {scope : Scope} {own : List (Str × Nat)} {wi : WI} {g : WG} {is : List Nat} {t : WT} {wt : WE} (hc : X.calm = true) (hN : X.N.Nodup) (hy : X.N[i]? = some y) (hyl : X.env.scope.names.lookup y = some .local)
    (hsw : swapsWith (.ListComp elt [⟨tg, iter, ifs, 0⟩] scope pos) (some (.Name y py)) spos.line X.env = pure true) (hi : IV X G tg iter wi) (ok : BlkOk X.N X.env.scope scope own) (hsub : ∀ i ∈ is, i ∈ own.map (·.2))
    (hg : ∀ (s : Shared) (H : Hp) (C : Addr) (cl : List (Str × Addr)) (fp : List Addr), GV (X.blk s H scope (compEnvC scope cl C X.env) fp) G tg g is) (ht : ∀ (s : Shared) (H : Hp) (C : Addr) (cl : List (Str × Addr)) (fp : List Addr), TsV (X.blk s H scope (compEnvC scope cl C X.env) fp) G ifs t)
    (he : ∀ (s : Shared) (H : Hp) (C : Addr) (cl : List (Str × Addr)) (fp : List Addr), EV (X.blk s H scope (compEnvC scope cl C X.env) fp) G elt wt) (hs : ∀ x, foldedSetIterable iter X.env x = pure x := by intro _; rfl) :
    SV X G (.Assign [.Name y py] (.ListComp elt [⟨tg, iter, ifs, 0⟩] scope pos) spos) (sSet i (vLc wi g t wt (own.map (·.2)))) :=
  ⟨(ps_setLc hc hN hy hyl hsw hi.run ok (fun s H C cl fp => (hg s H C cl fp).run) (fun s H C cl fp => (ht s H C cl fp).run) (fun s H C cl fp => (he s H C cl fp).run) hs).imp fun D σ H ⟨B, F, env, k, R, w0, E⟩ =>
    lc_t (is := is) (h := ⟨B, F, env, _, R, w0, fun v H' r env' F' R' rr q => E.nx _ _ _ _ (R'.store rr) q⟩) hsub⟩

/-! ### two clauses -/
def lcI (g : WG) (t : WT) (w : WE) (vs : List Nat) : List D → List D → Ev → (List D → Ev → Prop) → Prop
  | [], acc, env, K => K acc env
  | x :: xs, acc, env, K => g x env fun e1 => t e1 fun b e2 => match b with
    | true => w e2 fun r e3 => acc.length < 16777216 ∧ lcI g t w vs xs (acc ++ [r.d]) (wipeE e3 vs) K
    | false => lcI g t w vs xs acc (wipeE e2 vs) K
def lcO (g : WG) (t : WT) (wi1 : WI) (g1 : WG) (t1 : WT) (w : WE) (vs vs1 : List Nat) : List D → List D → Ev → (List D → Ev → Prop) → Prop
  | [], acc, env, K => K acc env
  | x :: xs, acc, env, K => g x env fun e1 => t e1 fun b e2 => match b with
    | true => wi1 e2 fun items e3 => lcI g1 t1 w vs1 items acc (wipeE e3 vs1) fun acc' e4 => lcO g t wi1 g1 t1 w vs vs1 xs acc' (wipeE e4 vs) K
    | false => lcO g t wi1 g1 t1 w vs vs1 xs acc (wipeE e2 vs) K
def vLc2 (wi : WI) (g : WG) (t : WT) (wi1 : WI) (g1 : WG) (t1 : WT) (w : WE) (vs vs1 : List Nat) : WE := fun env K => wi env fun items e1 => lcO g t wi1 g1 t1 w vs vs1 items [] (wipeE e1 vs) fun acc e2 => K (.ow (.lst acc)) (restE e1 vs e2)
theorem lc2_t {wi wi1 : WI} {g g1 : WG} {is is1 vs vs1 : List Nat} {t t1 : WT} {wt : WE} {Q : VK} {h : tE G (vLc2 wi g t wi1 g1 t1 wt vs vs1) σ H Q} (hsub : ∀ i ∈ is, i ∈ vs) (hsub1 : ∀ i ∈ is1, i ∈ vs1) (hv : ∀ i ∈ vs1, i ∈ vs) :
    tLc2 (tI G wi) (tG G g is) (tTs G t) (tI G wi1) (tG G g1 is1) (tTs G t1) (tE G wt) vs vs1 σ H Q := by
  obtain ⟨B, F, env, K, R, w0, c⟩ := h
  refine ⟨B, F, env, _, R, w0, fun J H1 items env1 F1 R1 ok k1 => ?_⟩
  intro D hD
  have R1w := R1.wiped vs
  let B1 := Bs.at F1 H1 (wipeE env1 vs) (wipe σ vs)
  have hDn : RR G B1 F1 (wipeE env1 vs) (wipe σ vs) (upd H1 D (.lst [])) (.ref D) (.ow (.lst [])) := R1w.here.freshRR hD trivial (.lst upd_same .nil)
  refine ⟨fun i m H' => ∃ F' env' acc, Rel G B1 F' env' (wipe σ vs) H' ∧ RR G B1 F' env' (wipe σ vs) H' (.ref D) (.ow (.lst acc)) ∧ m = items.length - i ∧ i ≤ items.length ∧ lcO g t wi1 g1 t1 wt vs vs1 (items.drop i) acc env' (fun acc e2 => K (.ow (.lst acc)) (restE env1 vs e2)),
    ⟨_, F1, _, [], R1w.here.new hD _, hDn, rfl, Nat.zero_le _, k1⟩, ?_⟩
  rintro i m H2 ⟨F2, env2, acc, R2, D2, rfl, hi, k2⟩
  obtain ⟨stop, go⟩ := ok F2 H2 R2.mF (R1w.tr R2) R2.fok R2.tp
  by_cases hlt : i < items.length
  · refine .inr ⟨(go i hlt).1, fun H' => ∃ F' env' acc, Rel G B1 F' env' (wipe σ vs) H' ∧ RR G B1 F' env' (wipe σ vs) H' (.ref D) (.ow (.lst acc)) ∧ lcO g t wi1 g1 t1 wt vs vs1 (items.drop (i + 1)) acc env' (fun acc e2 => K (.ow (.lst acc)) (restE env1 vs e2)),
      fun H' ⟨F', env', acc', R', D', q⟩ => ⟨_, ?_, F', env', acc', R', D', rfl, hlt, q⟩, fun x H' y => ?_⟩
    · omega
    obtain ⟨d, hd, re⟩ := (go i hlt).2 x H' y
    obtain ⟨F3, R3, rr⟩ := R2.here.res re
    have D3 := D2.keep R2 R3
    have R3 := R2.trans R3
    have ed : items.drop i = d :: items.drop (i + 1) := by
      rw [List.drop_eq_getElem_cons hlt]
      rw [List.getElem?_eq_getElem hlt] at hd
      rw [Option.some.inj hd]
    rw [ed] at k2
    refine ⟨_, F3, env2, d, _, R3.here, rr, k2, fun σ4 H4 env4 F4 R4 only k4 => ?_⟩
    have eσ : wipe σ4 vs = wipe σ vs := (wipe_eq only.1 fun j hj => only.2 j fun z => hj (hsub j z)).trans wipe_wipe
    have D4 := D3.keep R3 R4
    have R4 := R3.trans R4
    refine ⟨eσ, _, F4, env4, _, R4.here, k4, fun b H5 env5 F5 R5 k5 => ?_⟩
    have D5 := D4.keep R4 R5
    have R5 := R4.trans R5
    cases b with
    | false =>
      refine iteF ⟨F5, wipeE env5 vs, acc, ?_, ?_, k5⟩
      · rw [← eσ]
        exact R5.wiped vs
      · rw [← eσ]
        exact D5.wiped
    | true =>
      refine iteT ⟨_, F5, env5, _, R5.here, k5, fun J1 H6 items1 env6 F6 R6 ok1 k6 => ?_⟩
      have D6 := D5.keep R5 R6
      have R6 := R5.trans R6
      have R6w := R6.wiped vs1
      have D6w : RR G B1 F6 (wipeE env6 vs1) (wipe σ4 vs1) H6 (.ref D) (.ow (.lst acc)) := D6.wiped
      have eσ1 : ∀ σ5 : L2.St, wipe σ5 vs1 = wipe σ4 vs1 → wipe σ5 vs = wipe σ vs := fun σ5 e5 => by
        rw [← eσ]
        have h1 : wipe (wipe σ5 vs1) vs = wipe σ5 vs := wipe_eq (wipe_length σ5 vs1) fun j hj => wipeS_out fun z => hj (hv j z)
        have h2 : wipe (wipe σ4 vs1) vs = wipe σ4 vs := wipe_eq (wipe_length σ4 vs1) fun j hj => wipeS_out fun z => hj (hv j z)
        rw [← h1, ← h2, e5]
      refine ⟨fun j m H' => ∃ F' env' acc', Rel G B1 F' env' (wipe σ4 vs1) H' ∧ RR G B1 F' env' (wipe σ4 vs1) H' (.ref D) (.ow (.lst acc')) ∧ m = items1.length - j ∧ j ≤ items1.length ∧ (∃ F0, ItOk G F0 H6 J1 items1 ∧ (∀ a, F0 a → F' a) ∧ Tr F0 H6 H') ∧
          lcI g1 t1 wt vs1 (items1.drop j) acc' env' (fun acc' e4 => lcO g t wi1 g1 t1 wt vs vs1 (items.drop (i + 1)) acc' (wipeE e4 vs) (fun acc e2 => K (.ow (.lst acc)) (restE env1 vs e2))),
        ⟨_, F6, _, acc, R6w, D6w, rfl, Nat.zero_le _, ⟨F6, ok1, fun _ z => z, .rfl'⟩, k6⟩, ?_⟩
      rintro j m H7 ⟨F7, env7, acc7, R7, D7, rfl, hj, ⟨F0, ok0, sub0, tr0⟩, k7⟩
      obtain ⟨stop1, go1⟩ := ok0 F7 H7 sub0 tr0 R7.fok R7.tp
      by_cases hlt1 : j < items1.length
      · refine .inr ⟨(go1 j hlt1).1, fun H' => ∃ F' env' acc', Rel G B1 F' env' (wipe σ4 vs1) H' ∧ RR G B1 F' env' (wipe σ4 vs1) H' (.ref D) (.ow (.lst acc')) ∧ (∃ F0, ItOk G F0 H6 J1 items1 ∧ (∀ a, F0 a → F' a) ∧ Tr F0 H6 H') ∧
          lcI g1 t1 wt vs1 (items1.drop (j + 1)) acc' env' (fun acc' e4 => lcO g t wi1 g1 t1 wt vs vs1 (items.drop (i + 1)) acc' (wipeE e4 vs) (fun acc e2 => K (.ow (.lst acc)) (restE env1 vs e2))),
          fun H' ⟨F', env', acc', R', D', z, q⟩ => ⟨_, ?_, F', env', acc', R', D', rfl, hlt1, z, q⟩, fun x H' y => ?_⟩
        · omega
        obtain ⟨d1, hd1, re1⟩ := (go1 j hlt1).2 x H' y
        obtain ⟨F8, R8, rr8⟩ := R7.here.res re1
        have t8 := R7.tr R8
        have D8 := D7.keep R7 R8
        have s8 := R8.mF
        have R8 := R7.trans R8
        have ed1 : items1.drop j = d1 :: items1.drop (j + 1) := by
          rw [List.drop_eq_getElem_cons hlt1]
          rw [List.getElem?_eq_getElem hlt1] at hd1
          rw [Option.some.inj hd1]
        rw [ed1] at k7
        refine ⟨_, F8, env7, d1, _, R8.here, rr8, k7, fun σ9 H9 env9 F9 R9 only9 k9 => ?_⟩
        have e9 : wipe σ9 vs1 = wipe σ4 vs1 := (wipe_eq only9.1 fun j hj => only9.2 j fun z => hj (hsub1 j z)).trans wipe_wipe
        have t9 := R8.tr R9
        have D9 := D8.keep R8 R9
        have s9 := R9.mF
        have R9 := R8.trans R9
        refine ⟨e9, _, F9, env9, _, R9.here, k9, fun b Ha enva Fa Ra ka => ?_⟩
        have ta := R9.tr Ra
        have Da := D9.keep R9 Ra
        have sa := Ra.mF
        have Ra := R9.trans Ra
        have frame : ∀ (Fz : Addr → Prop) (Hz : Hp), (∀ a, Fa a → Fz a) → Tr Fa Ha Hz → (∃ F0, ItOk G F0 H6 J1 items1 ∧ (∀ a, F0 a → Fz a) ∧ Tr F0 H6 Hz) := fun Fz Hz sz tz => by
          refine ⟨F0, ok0, fun a h => sz a (sa a (s9 a (s8 a (sub0 a h)))), ?_⟩
          have c1 : Tr F0 H7 H' := ⟨fun a u h => t8.rd a u (sub0 a h), fun a u h => t8.eq a u (sub0 a h)⟩
          have c2 : Tr F0 H' H9 := ⟨fun a u h => t9.rd a u (s8 a (sub0 a h)), fun a u h => t9.eq a u (s8 a (sub0 a h))⟩
          have c3 : Tr F0 H9 Ha := ⟨fun a u h => ta.rd a u (s9 a (s8 a (sub0 a h))), fun a u h => ta.eq a u (s9 a (s8 a (sub0 a h)))⟩
          have c4 : Tr F0 Ha Hz := ⟨fun a u h => tz.rd a u (sa a (s9 a (s8 a (sub0 a h)))), fun a u h => tz.eq a u (sa a (s9 a (s8 a (sub0 a h))))⟩
          exact ⟨fun a u h z => c4.rd a u h (c3.rd a u h (c2.rd a u h (c1.rd a u h (tr0.rd a u h z)))), fun a u h n z => c4.eq a u h n (c3.eq a u h n (c2.eq a u h n (c1.eq a u h n (tr0.eq a u h n z))))⟩
        cases b with
        | false =>
          refine iteF ⟨Fa, wipeE enva vs1, acc7, ?_, ?_, frame Fa Ha (fun _ z => z) .rfl', ka⟩
          · rw [← e9]
            exact Ra.wiped vs1
          · rw [← e9]
            exact Da.wiped
        | true =>
          refine iteT ⟨_, Fa, enva, _, Ra.here, ka, fun yb Hb rb envb Fb Rb rrb kb => ?_⟩
          have tb := Ra.tr Rb
          obtain ⟨Fc, Rc, repc, subc⟩ := Rb.freeze rrb
          have Dc := Da.keep Ra Rc
          have sb := Rc.mF
          have Rc' := Ra.trans Rc
          obtain ⟨us, hDc, rl⟩ := Dc.lst
          obtain ⟨n1, n2, n3, n4⟩ := Dc.notF
          have tr : Tr Fc Hb (upd Hb D (.lst (us ++ [yb]))) := .of fun b h => upd_ne fun z => n1 (z ▸ h)
          refine ⟨us, hDc, ?_, Fc, wipeE envb vs1, acc7 ++ [rb.d], ?_, ?_, ?_, kb.2⟩
          · rw [rl.len, sizeLine_is]
            exact kb.1
          · rw [← e9]
            exact (Rc'.pend n1 n2 n3 n4).wiped vs1
          · rw [← e9]
            refine RR.wiped ⟨D, rfl, n1, n2, by rw [upd_same]; trivial, .lst upd_same ?_, n3, n4⟩
            exact (rl.mono (fun _ z => z) tr).append (.cons (repc.mono (fun _ z => z) tr) .nil)
          · refine frame Fc _ sb ⟨fun a u h z => tr.rd a u (sb a h) (tb.rd a u h z), fun a u h n z => tr.eq a u (sb a h) n (tb.eq a u h n z)⟩
      · have e : j = items1.length := by omega
        subst e
        rw [List.drop_length] at k7
        refine .inl ⟨stop1, F7, wipeE env7 vs, acc7, ?_, ?_, k7⟩
        · have := R7.wiped vs
          rw [wipe_eq (σ' := wipe σ4 vs1) (σ := σ4) (wipe_length σ4 vs1) fun j hj => wipeS_out fun z => hj (hv j z), eσ] at this
          exact this
        · have := D7.wiped (vs := vs)
          rw [wipe_eq (σ' := wipe σ4 vs1) (σ := σ4) (wipe_length σ4 vs1) fun j hj => wipeS_out fun z => hj (hv j z), eσ] at this
          exact this
  · have e : i = items.length := by omega
    subst e
    rw [List.drop_length] at k2
    refine .inl ⟨stop, c (.ref D) H2 (.ow (.lst acc)) (restE env1 vs env2) F2 (R1.trans (Rel.unwipe R1.here ?_)) ?_ k2⟩
    · exact R2
    · obtain ⟨b, eb, h1, h2, h3, h4, h5, h6⟩ := D2
      cases eb
      refine ⟨D, rfl, h1, h2, h3, h4, ?_, fun j o => ?_⟩
      · cases q : B.H0 D with
        | none => exact .inr rfl
        | some u => exact absurd hD (R1.al D (by rw [q]; intro y; cases y))
      · rcases own_rest (by rw [← wipeE_length env1 vs, R1w.len, R2.len]) o with o | o
        · exact mut_some (R1.ownF o).2.2.1 hD
        · exact h6 j o
theorem ev_lc2 {elt tg iter tg1 iter1 : Expr} {ifs ifs1 : List Expr} {scope : Scope} {own : List (Str × Nat)} {vs1 : List Nat} {wi wi1 : WI} {g g1 : WG} {is is1 : List Nat} {t t1 : WT} {wt : WE} (hc : X.calm = true) (hN : X.N.Nodup) (hi : IV X G tg iter wi) (ok : BlkOk X.N X.env.scope scope own) (hsub : ∀ i ∈ is, i ∈ own.map (·.2)) (hsub1 : ∀ i ∈ is1, i ∈ vs1) (hv : ∀ i ∈ vs1, i ∈ own.map (·.2))
    (hg : ∀ (s : Shared) (H : Hp) (C : Addr) (cl : List (Str × Addr)) (fp : List Addr), GV (X.blk s H scope (compEnvC scope cl C X.env) fp) G tg g is) (ht : ∀ (s : Shared) (H : Hp) (C : Addr) (cl : List (Str × Addr)) (fp : List Addr), TsV (X.blk s H scope (compEnvC scope cl C X.env) fp) G ifs t)
    (hi1 : ∀ (s : Shared) (H : Hp) (C : Addr) (cl : List (Str × Addr)) (fp : List Addr), IV (X.blk s H scope (compEnvC scope cl C X.env) fp) G tg1 iter1 wi1)
    (hg1 : ∀ (s : Shared) (H : Hp) (C : Addr) (cl : List (Str × Addr)) (fp : List Addr), GV (X.blk s H scope (compEnvC scope cl C X.env) fp) G tg1 g1 is1) (ht1 : ∀ (s : Shared) (H : Hp) (C : Addr) (cl : List (Str × Addr)) (fp : List Addr), TsV (X.blk s H scope (compEnvC scope cl C X.env) fp) G ifs1 t1)
    (he : ∀ (s : Shared) (H : Hp) (C : Addr) (cl : List (Str × Addr)) (fp : List Addr), EV (X.blk s H scope (compEnvC scope cl C X.env) fp) G elt wt) (hs : ∀ x, foldedSetIterable iter X.env x = pure x := by intro _; rfl) (hs1 : ∀ env x, foldedSetIterable iter1 env x = pure x := by intro _ _; rfl) :
    EV X G (.ListComp elt [⟨tg, iter, ifs, 0⟩, ⟨tg1, iter1, ifs1, 0⟩] scope pos) (vLc2 wi g t wi1 g1 t1 wt (own.map (·.2)) vs1) :=
  ⟨(pe_lc2 hc hN hi.run ok hv (fun s H C cl fp => (hg s H C cl fp).run) (fun s H C cl fp => (ht s H C cl fp).run) (fun s H C cl fp => (hi1 s H C cl fp).run) (fun s H C cl fp => (hg1 s H C cl fp).run) (fun s H C cl fp => (ht1 s H C cl fp).run) (fun s H C cl fp => (he s H C cl fp).run) hs hs1).imp fun σ H Q h => lc2_t (is := is) (is1 := is1) (h := h) hsub hsub1 hv⟩
theorem sv_setLc2 {y : Str} {py spos : Pos} {elt tg iter tg1 iter1 : Expr} {ifs ifs1 : List Expr} {scope : Scope} {own : List (Str × Nat)} {vs1 : List Nat} {wi wi1 : WI} {g g1 : WG} {is is1 : List Nat} {t t1 : WT} {wt : WE} (hc : X.calm = true) (hN : X.N.Nodup) (hy : X.N[i]? = some y) (hyl : X.env.scope.names.lookup y = some .local)
    (hsw : swapsWith (.ListComp elt [⟨tg, iter, ifs, 0⟩, ⟨tg1, iter1, ifs1, 0⟩] scope pos) (some (.Name y py)) spos.line X.env = pure true) (hi : IV X G tg iter wi) (ok : BlkOk X.N X.env.scope scope own) (hsub : ∀ i ∈ is, i ∈ own.map (·.2)) (hsub1 : ∀ i ∈ is1, i ∈ vs1) (hv : ∀ i ∈ vs1, i ∈ own.map (·.2))
    (hg : ∀ (s : Shared) (H : Hp) (C : Addr) (cl : List (Str × Addr)) (fp : List Addr), GV (X.blk s H scope (compEnvC scope cl C X.env) fp) G tg g is) (ht : ∀ (s : Shared) (H : Hp) (C : Addr) (cl : List (Str × Addr)) (fp : List Addr), TsV (X.blk s H scope (compEnvC scope cl C X.env) fp) G ifs t)
    (hi1 : ∀ (s : Shared) (H : Hp) (C : Addr) (cl : List (Str × Addr)) (fp : List Addr), IV (X.blk s H scope (compEnvC scope cl C X.env) fp) G tg1 iter1 wi1)
    (hg1 : ∀ (s : Shared) (H : Hp) (C : Addr) (cl : List (Str × Addr)) (fp : List Addr), GV (X.blk s H scope (compEnvC scope cl C X.env) fp) G tg1 g1 is1) (ht1 : ∀ (s : Shared) (H : Hp) (C : Addr) (cl : List (Str × Addr)) (fp : List Addr), TsV (X.blk s H scope (compEnvC scope cl C X.env) fp) G ifs1 t1)
    (he : ∀ (s : Shared) (H : Hp) (C : Addr) (cl : List (Str × Addr)) (fp : List Addr), EV (X.blk s H scope (compEnvC scope cl C X.env) fp) G elt wt) (hs : ∀ x, foldedSetIterable iter X.env x = pure x := by intro _; rfl) (hs1 : ∀ env x, foldedSetIterable iter1 env x = pure x := by intro _ _; rfl) :
    SV X G (.Assign [.Name y py] (.ListComp elt [⟨tg, iter, ifs, 0⟩, ⟨tg1, iter1, ifs1, 0⟩] scope pos) spos) (sSet i (vLc2 wi g t wi1 g1 t1 wt (own.map (·.2)) vs1)) :=
  ⟨(ps_setLc2 hc hN hy hyl hsw hi.run ok hv (fun s H C cl fp => (hg s H C cl fp).run) (fun s H C cl fp => (ht s H C cl fp).run) (fun s H C cl fp => (hi1 s H C cl fp).run) (fun s H C cl fp => (hg1 s H C cl fp).run) (fun s H C cl fp => (ht1 s H C cl fp).run) (fun s H C cl fp => (he s H C cl fp).run) hs hs1).imp fun D σ H ⟨B, F, env, k, R, w0, E⟩ =>
    lc2_t (is := is) (is1 := is1) (h := ⟨B, F, env, _, R, w0, fun v H' r env' F' R' rr q => E.nx _ _ _ _ (R'.store rr) q⟩) hsub hsub1 hv⟩
end
end PV
end
section
set_option autoImplicit false
set_option linter.all false
set_option maxRecDepth 100000
namespace PV
open PySem PySem.Spec PyProof.Rows L2

section
variable {X : Cx} {G : Gx} {B : Bs} {F F' : Addr → Prop} {env env' : Ev} {σ σ' : L2.St} {H H' : Hp} {v : V} {d : D} {a : Addr} {i : Nat} {e : Expr} {es : List Expr} {pos : Pos} {w : WE} {l : WL}

/-! ### comparisons as tests -/
theorem cmp_i {f : D → D → Option Rv} {oa ob : Opd} {Q : VK} (h : tE G (vP2 f oa ob) σ H Q) : tOp (rP2 G f) (tO G oa) (tO G ob) σ H Q := by
  obtain ⟨B, F, env, K, R, w, c⟩ := h
  refine ⟨B, F, env, _, R, w, fun x H1 ra env1 F1 R1 rep1 k1 => ⟨Bs.at F1 H1 env1 σ, F1, env1, _, R1.here, k1, fun y H2 rb env2 F2 R2 rep2 k2 => ?_⟩⟩
  split at k2
  · rename_i dx dy gx gy
    obtain ⟨r, fr, k⟩ := kP_some k2
    refine ⟨F2, dx, dy, r, R2.lF, R2.getR (R1.repR R2 rep1) gx, R2.getR rep2 gy, fr, fun v' H' q => ?_⟩
    obtain ⟨F3, R3, rr⟩ := (R1.trans R2).res q
    exact c v' H' r env2 F3 R3 rr k
  · exact k2.elim
theorem chain_i {f f' : D → D → Option Rv} {oa ob oc : Opd} {Q : VK} (h : tE G (vChain f f' oa ob oc) σ H Q) : tChain (rP2 G f) (rP2 G f') (tO G oa) (tO G ob) (tO G oc) σ H Q := by
  obtain ⟨B, F, env, K, R, w, c⟩ := h
  refine ⟨B, F, env, _, R, w, fun x H1 ra env1 F1 R1 rep1 k1 => ⟨Bs.at F1 H1 env1 σ, F1, env1, _, R1.here, k1, fun y H2 rb env2 F2 R2 rep2 k2 => ?_⟩⟩
  split at k2
  · rename_i dx dy gx gy
    split at k2
    · rename_i fr
      refine ⟨F2, dx, dy, _, R2.lF, R2.getR (R1.repR R2 rep1) gx, R2.getR rep2 gy, fr, fun v' H' q => ?_⟩
      refine ⟨true, q.blt, ?_⟩
      rw [if_pos rfl]
      obtain ⟨F3, R3, rr⟩ := R2.here.res q
      refine ⟨Bs.at F3 H' env2 σ, F3, env2, _, R3.here, k2, fun z H4 rc env4 F4 R4 rep4 k4 => ?_⟩
      have R24 := R3.trans R4
      split at k4
      · rename_i dy' dz gy' gz
        obtain ⟨r, fr', k⟩ := kP_some k4
        refine ⟨F4, dy', dz, r, R4.lF, R4.getR (R2.repR R24 rep2) gy', R4.getR rep4 gz, fr', fun v'' H'' q' => ?_⟩
        obtain ⟨F5, R5, rr5⟩ := ((R1.trans R2).trans R24).res q'
        exact c v'' H'' r env4 F5 R5 rr5 k
      · exact k4.elim
    · rename_i fr
      refine ⟨F2, dx, dy, _, R2.lF, R2.getR (R1.repR R2 rep1) gx, R2.getR rep2 gy, fr, fun v' H' q => ?_⟩
      refine ⟨false, q.blt, ?_⟩
      rw [if_neg (by decide)]
      obtain ⟨F3, R3, rr⟩ := (R1.trans R2).res q
      exact c _ H' (.sh (.bl false)) env2 F3 R3 (Rep.bl false) k2
    · exact k2.elim
  · exact k2.elim
theorem test_i {t : TE} (i : ∀ Q : VK, tE G w σ H Q → t σ H Q) {Q : Bool → Hp → Prop} (h : tT G (tvV w) σ H Q) : tTest t σ H Q := by
  obtain ⟨B, F, env, K, R, w0, c⟩ := h
  refine i _ ⟨B, F, env, _, R, w0, fun v H' r env' F' R' rr k => ?_⟩
  obtain ⟨b, rfl, k2⟩ := kB_some k
  exact ⟨b, rep_bl rr, c b H' env' F' R' k2⟩
theorem tv_cmp {op : CmpOp} {f : D → D → Option Rv} {a b : Expr} {oa ob : Opd} (hr : OpR X (compareOp op) (rP2 G f)) (ha : OV X G a oa) (hb : OV X G b ob) (hm : behindInMarks op b = false := by first | rfl | exact nobehind _ (by decide) (by decide)) : TV X G (.Compare a [op] [b] pos) (tvV (vP2 f oa ob)) :=
  ⟨(pt_cmpR hr ha.run hb.run hm).imp fun σ H Q h => test_i (fun Q => cmp_i) h⟩
theorem tv_chain {op op' : CmpOp} {f f' : D → D → Option Rv} {a b c : Expr} {oa ob oc : Opd} (hr : OpR X (compareOp op) (rP2 G f)) (hr' : OpR X (compareOp op') (rP2 G f')) (ha : OV X G a oa) (hb : OV X G b ob) (hc : OV X G c oc)
    (hm : lastMarks [op, op'] [b, c] = false := by with_unfolding_all rfl) : TV X G (.Compare a [op, op'] [b, c] pos) (tvV (vChain f f' oa ob oc)) :=
  ⟨(pt_chain hr hr' ha.run hb.run hc.run hm).imp fun σ H Q h => test_i (fun Q => chain_i) h⟩

/-! ### built-ins of two -/
def rP12 (G : Gx) (f : D → D → Option Rv) : List V → Hp → VK → Prop := fun vs H Q => ∃ F v u d e r, FOk G F H ∧ vs = [v, u] ∧ RepP G F H v d ∧ RepP G F H u e ∧ f d e = some r ∧ ∀ v' H', Res G F H v' H' r → Q v' H'
theorem ev_callB2 {f : D → D → Option Rv} {a b : Expr} {oa ob : Opd} {x : Str} {id : String} {p : Pos} (hr : CallR X (.builtin id) (rP12 G f)) (hg : Gl X x) (hm : X.mg x = none) (hv : bootBuiltins x = some (.builtin id)) (ha : OV X G a oa) (hb : OV X G b ob) (hn : x ≠ "__name__" := by decide) (hdb : (x == ("__debug__" : Str)) = false := by decide)
    (hs : starEach (a :: [b]) X.env = (false, eval a X.env) :: starEach [b] X.env := by rfl) (hs2 : starEach (b :: []) X.env = (false, eval b X.env) :: starEach [] X.env := by rfl) (hpl : (backTo pos (starEach [b] X.env)).any (·.1) = false := by rfl) : EV X G (.Call (.Name x p) [a, b] [] pos) (vP2 f oa ob) :=
  ⟨(pe_callB hr hg hm hv (av_cons ha (av_cons hb av_nil hs2) hs).run hn hdb hs hpl).imp fun σ H Q ⟨B, F, env, K, R, w, c⟩ => ⟨B, F, env, args2 f K, R, w, fun vs H1 rs env1 F1 R1 reps k1 => by
    cases reps with
    | nil => exact k1.elim
    | cons rep t =>
      cases t with
      | nil => exact k1.elim
      | cons rep2 t =>
        cases t with
        | cons _ _ => exact k1.elim
        | nil =>
          simp only [args2] at k1
          split at k1
          · rename_i dx dy gx gy
            obtain ⟨r, fr, k⟩ := kP_some k1
            refine ⟨F1, _, _, dx, dy, r, R1.lF, rfl, R1.getR rep gx, R1.getR rep2 gy, fr, fun v' H' q => ?_⟩
            obtain ⟨F3, R3, rr⟩ := R1.res q
            exact c v' H' r env1 F3 R3 rr k
          · exact k1.elim⟩⟩
def opMin2 : D → D → Option Rv
  | .int i, .int j => some (.sh (.int (if j < i then j else i)))
  | _, _ => none
theorem cr_min2 (hc : X.calm = true) : CallR X (.builtin "min") (rP12 G opMin2) := by
  intro pins s σ H vs us Q I r h
  obtain ⟨F, v, u, dx, dy, rr, fo, rfl, px, py', hf, c⟩ := h
  unfold opMin2 at hf
  split at hf
  · cases hf
    exact call_min2 hc pins s σ H _ us Q I r ⟨_, _, by rw [px.int, py'.int], c _ _ (Res.flat (.int _))⟩
  · cases hf
end

/-! ### defs, with FunD -/
section
variable {P : Program} {w : World} {K : PySem.W.Frag} {mg : Str → Option Value} {base : Heap} {x qual : Str} {st : Stmt} {f : Addr} {fd : FuncData} {N ps : List Str} {dvs : List V} {G : Gx}
abbrev FnP (K : PySem.W.Frag) (x qual : Str) (st : Stmt) (dvs : List V) (f : Addr) (fd : FuncData) : Prop := FunD K x qual (defArgs st) (defBody st) (defScope st) dvs [] f fd
theorem fn_okD {k n : Nat} {ws : WS} (Fu : FnP K x qual st dvs f fd) (S : FnScope N ps (defScope st)) (hn : ps.length = n)
    (hbody : ∀ (cdv : Value) (A : Around) (outer : List Env) (s : Shared) (H : Hp) (E : XK), Room k (A.deeper (envOfC qual (defScope st) s.heap.objs.size f cdv)) →
      SSV (cxOf CX0 P w K mg base N qual (defScope st) f cdv A outer s H E).nox G (defBody st) ws) : FnOk P w K mg base CX0 (k + 1) f fd ps (spV G n (fnV N.length ws)) := by
  refine Fu.ok S (fun vs H Q E h => by rw [h.1, hn]) fun cdv A outer s H vs Q E hr h => ?_
  obtain ⟨hl, F, ds, K', fok, tp, reps, hw, c⟩ := h
  refine ⟨_, PSs.nox (hbody cdv A outer s H E hr).run, ⟨F, H, fun _ => False⟩, F, _, _, rel0 fok tp reps, hw, ⟨fun σ' H' env' F' R h => ?_, fun v σ' H' r env' F' R rr h => ?_, fun _ _ _ _ _ h => h, fun _ _ _ _ _ h => h⟩⟩
  · refine c _ _ (.sh .non) ⟨fun a ha hn => R.kp a hn (fun z => z) ha, fun a ha => R.al a ha, R.tp, F', R.mF, fun a ha => (R.nF a ha).elim .inl fun z => z.elim .inr fun z => z.elim, R.lF, .non⟩ h
  · refine c _ _ r ⟨fun a ha hn => R.kp a hn (fun z => z) ha, fun a ha => R.al a ha, R.tp, F', R.mF, fun a ha => (R.nF a ha).elim .inl fun z => z.elim .inr fun z => z.elim, R.lF, ?_⟩ h
    cases r with
    | sh d => exact rr
    | ow d =>
      obtain ⟨a, e, h1, h2, h3, h4, h5, _⟩ := rr
      exact ⟨a, e, h5.elim (fun z => z.elim) id, h1, h2, h3, h4⟩
theorem fn_initD {c k n : Nat} {ws : WS} (Fu : FnP K x qual st dvs f fd) (S : FnScope N ps (defScope st)) (hn : ps.length = n + 1) (hN : n < N.length)
    (hbody : ∀ (cdv : Value) (A : Around) (outer : List Env) (s : Shared) (H : Hp) (E : XK), Room k (A.deeper (envOfC qual (defScope st) s.heap.objs.size f cdv)) →
      SSV (cxOf CX0 P w K mg base N qual (defScope st) f cdv A outer s H E).nox G (defBody st) ws) : FnOk P w K mg base CX0 (k + 1) f fd ps (spI G c n (fnI c N.length ws)) := by
  refine Fu.ok S (fun vs H Q E h => ?_) fun cdv A outer s H vs Q E hr h => ?_
  · obtain ⟨x, dx, us, rfl, hl, _⟩ := h
    simp [hl, hn]
  obtain ⟨x, dx, us, rfl, hl, hx, F, ds, K', fok, nf, na, tp, reps, hw, cc⟩ := h
  have hd : ds.length = n := by rw [← reps.len]; exact hl
  refine ⟨_, PSs.nox (hbody cdv A outer s H E hr).run, ⟨F, H, fun a => a = x⟩, F, _, _, relI (by omega) fok nf na hx tp reps, hw x, ⟨fun σ' H' env' F' R h => ?_, fun v σ' H' r env' F' R rr h => h.elim, fun _ _ _ _ _ h => h, fun _ _ _ _ _ h => h⟩⟩
  have h : self0 x K' env' := h
  unfold self0 at h
  split at h
  · rename_i y c' fs e0
    obtain ⟨rfl, hk⟩ := h
    obtain ⟨a, s0, h1, h2, h3, h4, h5⟩ := R.ow 0 _ e0
    cases h4 with
    | obj ha rf =>
      exact cc _ H' F' (fun a g1 g2 g3 => R.kp a g2 g3 g1) R.al R.tp R.mF (fun a g => (R.nF a g)) R.lF h1 h3 (.ins ha rf) hk
  · exact h.elim
theorem kw0_of (Fu : FnP K x qual st [] f fd) (h : ∀ (kV doc pm : Value) (an : Option Addr) (cdv ct : Value) (ws : List Value), ws.length = ps.length → bindArgs (PySem.W.fnOf x qual (defArgs st) (defBody st) (defScope st) .none kV doc pm an cdv ct) ⟨[], ps.zip ws⟩ = pure (ps.zip ws)) : Kw0 K fd ps := by
  obtain ⟨oc, od, dV, kV, doc, pm, an, cdv, ct, osl, rfl, lk, hcd, hD, hK⟩ := Fu.ex
  rcases hD with ⟨_, rfl⟩ | ⟨e, _⟩
  · exact .of (h kV doc pm an cdv ct)
  · exact absurd rfl e
end
end PV
end
section
set_option autoImplicit false
set_option linter.all false
set_option maxRecDepth 100000
namespace PV
open PySem PySem.Spec PyProof.Rows L2

section
variable {X : Cx} {G : Gx} {B : Bs} {F F' : Addr → Prop} {env env' : Ev} {σ σ' : L2.St} {H H' : Hp} {v : V} {d : D} {a : Addr} {i : Nat} {e : Expr} {es : List Expr} {pos : Pos} {w : WE} {l : WL}

/-! ### x == y by an own __eq__ -/
def isI (c : Nat) : D → Prop
  | .ins n _ => n = c
  | _ => False
def rEqO (G : Gx) (c : Nat) (wf : Fn) : R2 := fun x y H Q => ∃ F d1 d2 K', FOk G F H ∧ G.T.ok H ∧ Rep G F H x d1 ∧ Rep G F H y d2 ∧ isI c d1 ∧ isI c d2 ∧ wf [d1, d2] K' ∧ ∀ v H' r, Post G F H v H' r → K' r → Q v H'
theorem Rep.isIns {c : Nat} (r : Rep G F H v d) (h : isI c d) : ∃ a dx fs, v = .ref a ∧ H a = some (.ins (G.C c) dx fs) := by
  cases d with
  | ins n fs =>
    obtain rfl : n = c := h
    obtain ⟨a, dx, vs, e1, e2, _⟩ := RepP.ins (.inl r)
    exact ⟨a, dx, vs, e1, e2⟩
  | _ => exact h.elim
theorem or_eqO {c k : Nat} {f : Addr} {fd : FuncData} {ps : List Str} {wf : Fn} (Fn : FnOk X.prog X.w X.K X.mg X.base CX0 k f fd ps (spV G 2 wf)) (hr : Room k X.A)
    (hs : PySem.W.findIn X.K (.ref (G.C c)) "__eq__" = some (some (.ref f))) (hf : PySem.W.isFn X.K (.ref f) = true) (hb : Binds X.K fd ps []) : OpR X (compareOp .Eq) (rEqO G c wf) := by
  intro pins s σ H x y v u Q I rx ry ⟨F, d1, d2, K', fo, tp, p1, p2, i1, i2, hw, cc⟩
  obtain ⟨a, dx, fs, rfl, ha⟩ := p1.isIns i1
  obtain ⟨b, dy, gs, rfl, hb'⟩ := p2.isIns i2
  cases rx
  cases ry
  obtain ⟨mA, J, _⟩ := ins_get I.hok ha
  obtain ⟨mB, J', _⟩ := ins_get I.hok hb'
  obtain ⟨od, J, _⟩ := J.look
  obtain ⟨od', J', _⟩ := J'.look
  obtain ⟨m, hF⟩ := I.fr
  show wpAny (model X.prog X.w) X.A (richCompare .Eq (.ref a) (.ref b)) (EP X pins σ Q) X.xe s
  refine PySem.W.cmp_K (op := .Eq) (tb := .ref (G.C c)) hr.units0 hF I.ok.mod.kin J J'.type (by simp [PySem.W.notFirst]) hs hf ?_
  have hsp : spV G 2 wf [.ref a, .ref b] H Q E0 := ⟨rfl, F, [d1, d2], K', fo, tp, .cons p1 (.cons p2 .nil), hw, cc⟩
  have r2 : Vals [V.ref a, V.ref b] [Value.ref a, Value.ref b] := .cons rfl (.cons rfl .nil)
  refine wpAny_mono (run_fn (us := [.ref a, .ref b]) (vs := [.ref a, .ref b]) Fn hr hb .nil pass0 I r2 hsp) (fun u s' q => ?_) fun _ _ q => q
  obtain ⟨z, H', I', rz, q⟩ := q
  have full : EP X pins σ Q u s' := ⟨z, H', I', rz, q⟩
  cases u with
  | notImplemented => cases z <;> first | exact absurd rz (fun h => nomatch h) | (obtain ⟨t, h⟩ := rz; cases h)
  | _ => exact full
def vEqO (c : Nat) (wf : Fn) (wa wb : WE) : WE := fun env K => wa env fun r1 e1 => wb e1 fun r2 e2 => isI c r1.d ∧ isI c r2.d ∧ wf [r1.d, r2.d] fun r => K r e2
theorem ev_eqO {c k : Nat} {f : Addr} {fd : FuncData} {ps : List Str} {wf : Fn} {ae be : Expr} {wa wb : WE} (Fn : FnOk X.prog X.w X.K X.mg X.base CX0 k f fd ps (spV G 2 wf)) (hr : Room k X.A)
    (hs : PySem.W.findIn X.K (.ref (G.C c)) "__eq__" = some (some (.ref f))) (hf : PySem.W.isFn X.K (.ref f) = true) (hb : Binds X.K fd ps []) (ha : EV X G ae wa) (hbe : EV X G be wb) (hm : behindInMarks .Eq be = false := by first | rfl | exact nobehind _ (by decide) (by decide)) :
    EV X G (.Compare ae [.Eq] [be] pos) (vEqO c wf wa wb) :=
  ⟨(pe_cmpR (or_eqO Fn hr hs hf hb) ha.run hbe.run hm).imp fun σ H Q ⟨B, F, env, K, R, w, cc⟩ => ⟨B, F, env, _, R, w, fun x H1 r1 env1 F1 R1 rr1 k1 => by
    obtain ⟨F2, R2, rep1, _⟩ := R1.freeze rr1
    refine ⟨Bs.at F2 H1 env1 σ, F2, env1, _, R2.here, k1, fun y H2 r2 env2 F3 R3 rr2 k2 => ?_⟩
    obtain ⟨F4, R4, rep2, _⟩ := R3.freeze rr2
    obtain ⟨i1, i2, hw⟩ := k2
    have R5 := R2.trans R4
    refine ⟨F4, r1.d, r2.d, _, R5.fok, R5.tp, R2.rep R4 rep1, rep2, i1, i2, hw, fun v H' r po kr => ?_⟩
    obtain ⟨F6, R6, rr⟩ := R5.post po
    exact cc v H' r env2 F6 R6 rr kr⟩⟩

/-! ### facts of a class of one's own, by one Bool each -/
def eqOB (K : PySem.W.Frag) (C : Addr) : Bool := match PySem.W.findIn K (.ref C) "__eq__" with
  | some (some (.ref f)) => PySem.W.isFn K (.ref f)
  | _ => false
theorem opt_eq {a b : Option (Option Value)} (h : decide (a = b) = true) : a = b := of_decide_eq_true h
def ownB (K : PySem.W.Frag) (C : Addr) : Bool := decide (PySem.W.findIn K (.ref C) "__class__" = some (some (.builtin "object.__class__"))) && (decide (PySem.W.specialIn K (.builtin "object.__class__") "__get__" = some (some (.builtin "getset_descriptor.__get__"))) &&
  (decide (PySem.W.takesIn K (.builtin "object.__class__") = some true) && decide (PySem.W.mroIn K C (.type "object") = some true)))
theorem ownC_of {C : Addr} (cl : Cls X.K C) (h : ownB X.K C = true) : OwnC X C := by
  unfold ownB at h
  simp only [Bool.and_eq_true, decide_eq_true_eq] at h
  exact ⟨cl, h.1, h.2.1, h.2.2.1, h.2.2.2⟩
/-- the property's object -/
def propA (K : PySem.W.Frag) (C : Addr) (f : Str) : Addr := match PySem.W.findIn K (.ref C) f with
  | some (some (.ref p)) => p
  | _ => 0
def getA (K : PySem.W.Frag) (C : Addr) (f : Str) : Addr := match PySem.W.recIn K (propA K C f) "property" with
  | some (.ref g :: _) => g
  | _ => 0
def propB (K : PySem.W.Frag) (C : Addr) (f : Str) : Bool := decide (PySem.W.findIn K (.ref C) f = some (some (.ref (propA K C f)))) && (decide (PySem.W.specialIn K (.ref (propA K C f)) "__get__" = some (some (.builtin "property.__get__"))) &&
  (decide (PySem.W.takesIn K (.ref (propA K C f)) = some true) && match PySem.W.recIn K (propA K C f) "property" with
    | some (.ref g :: _) => true
    | _ => false))
theorem prop_of {K : PySem.W.Frag} {C : Addr} {f : Str} (h : propB K C f = true) : PropOf K C f (propA K C f) (getA K C f) := by
  unfold propB at h
  simp only [Bool.and_eq_true, decide_eq_true_eq] at h
  obtain ⟨h1, h2, h3, h4⟩ := h
  refine ⟨h1, h2, h3, ?_⟩
  unfold getA
  split at h4
  · rename_i g r e
    rw [e]
    exact ⟨r, rfl⟩
  · cases h4
end
end PV
end
section
set_option autoImplicit false
set_option linter.all false
set_option maxRecDepth 100000
namespace PV
open PySem PySem.Spec PyProof.Rows L2

/-! ### the tape of the draws -/
def tkvs (l c : Addr) (r t : Int) : List (L2.Key × V) := [(.inr "large", .ref l), (.inr "rest", .int r), (.inr "cells", .ref c), (.inr "turn", .int t)]
theorem tk_large {l c : Addr} {r t : Int} : valV (tkvs l c r t) (.inr "large") = some (.ref l) := by
  simp [tkvs, valV]
theorem tk_rest {l c : Addr} {r t : Int} : valV (tkvs l c r t) (.inr "rest") = some (.int r) := by
  simp [tkvs, valV]
  decide
theorem tk_cells {l c : Addr} {r t : Int} : valV (tkvs l c r t) (.inr "cells") = some (.ref c) := by
  simp only [tkvs]
  rw [valV_neg (by simp; decide), valV_neg (by simp; decide), valV_pos (by rfl)]
theorem tk_turn {l c : Addr} {r t : Int} : valV (tkvs l c r t) (.inr "turn") = some (.int t) := by
  simp only [tkvs]
  rw [valV_neg (by simp; decide), valV_neg (by simp; decide), valV_neg (by simp; decide), valV_pos (by rfl)]
theorem tp_rest {l c : Addr} {r t j : Int} : putK (tkvs l c r t) (.inr "rest") (.int j) = tkvs l c j t := by
  have e1 : ¬ ((.inr "large" : L2.Key) = .inr "rest") := by simp; decide
  have e2 : ¬ ((.inr "cells" : L2.Key) = .inr "rest") := by simp; decide
  have e3 : ¬ ((.inr "turn" : L2.Key) = .inr "rest") := by simp; decide
  simp [putK, tkvs, e1, e2, e3]
theorem tp_turn {l c : Addr} {r t j : Int} : putK (tkvs l c r t) (.inr "turn") (.int j) = tkvs l c r j := by
  have e1 : ¬ ((.inr "large" : L2.Key) = .inr "turn") := by simp; decide
  have e2 : ¬ ((.inr "cells" : L2.Key) = .inr "turn") := by simp; decide
  have e3 : ¬ ((.inr "rest" : L2.Key) = .inr "turn") := by simp; decide
  simp [putK, tkvs, e1, e2, e3]
structure TapeOk (root l c : Addr) (ms : List Int) (R : Prop) (S : Hp → Prop) (H : Hp) : Prop where
  kvs : ∃ r t, H root = some (.dK (tkvs l c r t))
  large : ∃ ns : List Int, H l = some (.lst (ns.map V.int))
  cells : H c = some (.lst (ms.map V.int))
  rl : root ≠ l
  rc : root ≠ c
  lc : l ≠ c
  scr : S H
  rs : R
/-- how the script is known -/
def ScrOk (K : PySem.W.Frag) (sa : Addr) (ss : List Int) (inH : Bool) (H : Hp) : Prop := match inH with
  | true => Rd H sa (.lst (ss.map V.int))
  | false => ∃ (o : Obj) (its : Array Value) (n : Nat), K.lookup sa = some o ∧ o.cls = .type "list" ∧ o.dict = none ∧ o.data = .seq its n ∧ its.size ≤ sizeLine ∧ Vals (ss.map V.int) its.toList
structure Tp where
  root : Addr
  l : Addr
  c : Addr
  ms : List Int
  K : PySem.W.Frag
  sa : Addr
  ss : List Int
  inH : Bool
def tapeT (t : Tp) : TapeI where
  ad a := a = t.root ∨ a = t.l ∨ a = t.c ∨ (a = t.sa ∧ t.inH = true)
  root := t.root
  sa := t.sa
  sn := t.ss.length
  ok := TapeOk t.root t.l t.c t.ms (t.inH = true → t.sa ≠ t.root ∧ t.sa ≠ t.l ∧ t.sa ≠ t.c) (ScrOk t.K t.sa t.ss t.inH)
  st H H' k h := ⟨by rw [k _ (.inl rfl)]; exact h.kvs, by rw [k _ (.inr (.inl rfl))]; exact h.large, by rw [k _ (.inr (.inr (.inl rfl)))]; exact h.cells, h.rl, h.rc, h.lc, by
    have := h.scr
    unfold ScrOk at this ⊢
    split at this
    · rename_i e
      unfold Rd at this ⊢
      rw [k _ (.inr (.inr (.inr ⟨rfl, e⟩)))]
      exact this
    · exact this, h.rs⟩
  live H h a ha := by
    rcases ha with rfl | rfl | rfl | ⟨rfl, e⟩
    · obtain ⟨r, t, e⟩ := h.kvs
      rw [e]
      exact fun z => nomatch z
    · obtain ⟨ns, e⟩ := h.large
      rw [e]
      exact fun z => nomatch z
    · rw [h.cells]
      exact fun z => nomatch z
    · have := h.scr
      rw [e] at this
      rcases this with q | ⟨o, q⟩
      · rw [q]
        exact fun z => nomatch z
      · rw [q]
        exact fun z => nomatch z
theorem TapeOk.scr_upd {t : Tp} {H : Hp} {a : Addr} {o : HO} (h : TapeOk t.root t.l t.c t.ms (t.inH = true → t.sa ≠ t.root ∧ t.sa ≠ t.l ∧ t.sa ≠ t.c) (ScrOk t.K t.sa t.ss t.inH) H) (ha : t.inH = true → t.sa ≠ a) : ScrOk t.K t.sa t.ss t.inH (upd H a o) := by
  have := h.scr
  unfold ScrOk at this ⊢
  split at this
  · rename_i e
    unfold Rd at this ⊢
    rw [upd_ne (ha e)]
    exact this
  · exact this

abbrev TK (t : Tp) (H : Hp) : Prop := TapeOk t.root t.l t.c t.ms (t.inH = true → t.sa ≠ t.root ∧ t.sa ≠ t.l ∧ t.sa ≠ t.c) (ScrOk t.K t.sa t.ss t.inH) H
section
variable {X : Cx} {G : Gx} {B : Bs} {F F' : Addr → Prop} {env env' : Ev} {σ σ' : L2.St} {H H' : Hp} {v : V} {d : D} {a : Addr} {i : Nat} {e : Expr} {es : List Expr} {pos : Pos} {w : WE} {l : WL} {t0 : Tp}

theorem Rel.tapeVar (R : Rel G B F env σ H) (h : env[i]? = some (.sh .tape)) : σ[i]? = some (some (.ref G.T.root)) := by
  obtain ⟨v, s, r⟩ := R.sh i _ h
  cases r with
  | tape => exact s
  | «at» f t => cases t
/-- the tape's own objects changed -/
theorem Rel.tapeUpd (R : Rel G B F env σ H) (k : ∀ a, ¬ G.T.ad a → H' a = H a) (ok : G.T.ok H') : Rel G B F env σ H' := by
  have hR : Tr F H H' := .of fun a h => k a (R.lF a h).2
  refine ⟨R.len, fun i d e => ?_, fun i d e => ?_, R.inj, R.mF, R.nF, fun a h1 h2 h3 => ?_, fun a h => ?_, fun a h => ?_, ok⟩
  · obtain ⟨v, s, r⟩ := R.sh i d e
    exact ⟨v, s, r.mono (fun _ z => z) hR⟩
  · obtain ⟨a, s, h1, h2, h3, h4, h5⟩ := R.ow i d e
    have ea := k a h2
    exact ⟨a, s, h1, h2, by rw [ea]; exact h3, h4.mono2 (fun _ z => z) hR (.of fun b e => by rw [e]; exact ea), h5⟩
  · rw [k a h1]
    exact R.kp a h1 h2 h3
  · by_cases q : G.T.ad a
    · exact G.T.live H' ok a q
    · rw [k a q]
      exact R.al a h
  · rw [k a (R.lF a h).2]
    exact R.lF a h
/-- tape["rest"], tape["turn"]: some int -/
def vTInt (i : Nat) : WE := fun env K => env[i]? = some (.sh .tape) ∧ ∀ r, K (.sh (.int r)) env
theorem ev_tInt {o : Expr} {x : Str} {j : Nat} {py : Pos} (hT : G.T = tapeT t0) (hu : X.A.units + 65 < cLine) (hx : x = "rest" ∨ x = "turn") (ho : PE X o (tVar i)) (hs : NoSl (.Constant (.str x) j py) := by intro _ _; rfl) :
    EV X G (.Subscript o (.Constant (.str x) j py) pos) (vTInt i) :=
  ⟨(pe_dget (by omega) ho pe_str hs).imp fun σ H Q ⟨B, F, env, K, R, w0, c⟩ => by
    have s := R.tapeVar w0.1
    have ok : TK t0 H := by
      have := R.tp
      rw [hT] at this
      exact this
    rw [hT] at s
    obtain ⟨r, t, e⟩ := ok.kvs
    rcases hx with rfl | rfl
    · exact ⟨_, s, t0.root, .int r, rfl, .inl ⟨_, .inr "rest", .inl e, rfl, tk_rest.symm⟩, c (.int r) H (.sh (.int r)) env F R (Rep.int r) (w0.2 r)⟩
    · exact ⟨_, s, t0.root, .int t, rfl, .inl ⟨_, .inr "turn", .inl e, rfl, tk_turn.symm⟩, c (.int t) H (.sh (.int t)) env F R (Rep.int t) (w0.2 t)⟩⟩
def sTPut (i : Nat) (w : WE) : WS := fun k env => w env fun r e1 => e1[i]? = some (.sh .tape) ∧ (∃ j, r.d = .int j) ∧ k.nx e1
theorem sv_tPut {o value : Expr} {x : Str} {j : Nat} {py pos' : Pos} (hT : G.T = tapeT t0) (hu : X.A.units + 65 < cLine) (hx : x = "rest" ∨ x = "turn") (ho : PE X o (tVar i)) (h : EV X G value w)
    (hs : swapsWith value (some (.Subscript o (.Constant (.str x) j py) pos')) pos.line X.env = pure false := by rfl) : SV X G (.Assign [.Subscript o (.Constant (.str x) j py) pos'] value pos) (sTPut i w) :=
  ⟨(ps_dput (by omega) ho pe_str h.run hs).imp fun D σ H ⟨B, F, env, k, R, w0, E⟩ => ⟨B, F, env, _, R, w0, fun v H1 r env1 F1 R1 rr k1 => by
    obtain ⟨F2, R2, rep, _⟩ := R1.freeze rr
    obtain ⟨h1, ⟨n, en⟩, h3⟩ := k1
    rw [en] at rep
    have ev := rep_int rep
    subst ev
    have s := R2.tapeVar h1
    have ok : TK t0 H1 := by
      have := R2.tp
      rw [hT] at this
      exact this
    rw [hT] at s
    obtain ⟨r, t, e⟩ := ok.kvs
    have fin : ∀ r' t', Rel G B F2 env1 σ (upd H1 t0.root (.dK (tkvs t0.l t0.c r' t'))) := fun r' t' => by
      refine R2.tapeUpd (fun a na => upd_ne fun z => na (by rw [hT]; exact .inl z)) ?_
      rw [hT]
      exact ⟨⟨r', t', upd_same⟩, by rw [upd_ne ok.rl.symm]; exact ok.large, by rw [upd_ne ok.rc.symm]; exact ok.cells, ok.rl, ok.rc, ok.lc, ok.scr_upd fun z => (ok.rs z).1, ok.rs⟩
    have hz : (tkvs t0.l t0.c r t).length < sizeLine := by rw [sizeLine_is]; show 4 < 16777216; decide
    rcases hx with rfl | rfl
    · refine ⟨_, s, t0.root, _, rfl, .inl ⟨_, .inr "rest", e, rfl, hz, rfl⟩, ?_⟩
      rw [tp_rest]
      exact E.nx _ _ _ _ (fin n t) h3
    · refine ⟨_, s, t0.root, _, rfl, .inl ⟨_, .inr "turn", e, rfl, hz, rfl⟩, ?_⟩
      rw [tp_turn]
      exact E.nx _ _ _ _ (fin r n) h3⟩⟩
/-- for x in tape["cells"] -/
def iTCells (ms : List Int) (i : Nat) : WI := fun env K => env[i]? = some (.sh .tape) ∧ K (ms.map D.int) env
theorem iv_tCells {tg o : Expr} {j : Nat} {py : Pos} (hT : G.T = tapeT t0) (hu : X.A.units + 65 < cLine) (ho : PE X o (tVar i)) (hs : NoSl (.Constant (.str "cells") j py) := by intro _ _; rfl) :
    IV X G tg (.Subscript o (.Constant (.str "cells") j py) pos) (iTCells t0.ms i) :=
  ⟨(pi_list (pe_dget (by omega) ho pe_str hs)).imp fun σ H Q ⟨B, F, env, K, R, w0, c⟩ => by
    have s := R.tapeVar w0.1
    have ok : TK t0 H := by
      have := R.tp
      rw [hT] at this
      exact this
    rw [hT] at s
    obtain ⟨r, t, e⟩ := ok.kvs
    refine ⟨_, s, t0.root, .ref t0.c, rfl, .inl ⟨_, .inr "cells", .inl e, rfl, tk_cells.symm⟩, t0.c, rfl, ⟨_, .inl (.inl ok.cells)⟩, c _ H _ env F R ?_ w0.2⟩
    intro F' H' hF hTr hok tp
    have ok' : TK t0 H' := by
      rw [hT] at tp
      exact tp
    refine ⟨⟨_, .inl (.inl ok'.cells), by simp⟩, fun n hn => ?_⟩
    rw [List.length_map] at hn
    have g : (t0.ms.map V.int)[n]? = some (.int t0.ms[n]) := by
      rw [List.getElem?_map, List.getElem?_eq_getElem hn]
      rfl
    refine ⟨⟨_, _, .inl (.inl ok'.cells), g⟩, fun x H2 ⟨e, y⟩ => ⟨.int t0.ms[n], by rw [List.getElem?_map, List.getElem?_eq_getElem hn]; rfl, ?_⟩⟩
    have q := y _ (.inl (.inl ok'.cells))
    rw [g] at q
    cases q
    subst e
    exact Res.flat (.int _)⟩
/-- tape["large"].pop(0) if tape["large"] != [] else e -/
def vTLarge (i : Nat) (w : WE) : WE := fun env K => env[i]? = some (.sh .tape) ∧ (∀ r, K (.sh (.int r)) env) ∧ w env K
theorem ints_dp {K : PySem.W.Frag} : ∀ ns : List Int, DpAll K H (ns.map V.int) (ns.map PyData.int)
  | [] => .nil
  | n :: ns => .cons (.int n) (ints_dp ns)
theorem ints_lay : ∀ ns : List Int, PyData.canLayAll0 (ns.map PyData.int) = true ∧ PyData.depthAll (ns.map PyData.int) = 0
  | [] => by simp [PyData.canLayAll0, PyData.depthAll]
  | n :: ns => by
    have := ints_lay ns
    simp [PyData.canLayAll0, PyData.depthAll, PyData.canLay0, PyData.depth, this]
theorem ev_tLarge {o o2 els : Expr} {j j2 j3 : Nat} {py py2 p2 p3 p4 p5 p6 apos cpos : Pos} (hT : G.T = tapeT t0) (hu : X.A.units + 65 < cLine) (ho : PE X o (tVar i)) (ho2 : PE X o2 (tVar i)) (h : EV X G els w)
    (hs : NoSl (.Constant (.str "large") j py) := by intro _ _; rfl) (hs2 : NoSl (.Constant (.str "large") j2 py2) := by intro _ _; rfl)
    (hm : behindInMarks .NotEq (.List [] p3) = false := by first | rfl | exact nobehind _ (by decide) (by decide))
    (hbase : attributeBase (.Subscript o2 (.Constant (.str "large") j2 py2) p4) "pop" X.env (eval (.Subscript o2 (.Constant (.str "large") j2 py2) p4) X.env) = eval (.Subscript o2 (.Constant (.str "large") j2 py2) p4) X.env := by rfl)
    (hfew : ((backTo cpos (starEach [.Constant (.int 0) j3 p5] X.env)).all (fun x => !x.1) && (backToKw cpos (keywordEach [] X.env)).all (fun x => x.1.isSome)
      && decide ([Expr.Constant (.int 0) j3 p5].length + ([] : List Keyword).length + (if ([] : List Keyword).isEmpty then 0 else 1) < 30)) = true := by rfl)
    (hline : (apos.endLine == cpos.line) = true := by rfl) (hst : starEach [.Constant (.int 0) j3 p5] X.env = (false, eval (.Constant (.int 0) j3 p5) X.env) :: starEach [] X.env := by rfl) (hplain : (backTo cpos (starEach [] X.env)).any (·.1) = false := by rfl) :
    EV X G (.IfExp (.Compare (.Subscript o (.Constant (.str "large") j py) p2) [.NotEq] [.List [] p3] p6) (.Call (.Attribute (.Subscript o2 (.Constant (.str "large") j2 py2) p4) "pop" apos) [.Constant (.int 0) j3 p5] [] cpos) els pos) (vTLarge i w) :=
  ⟨(pe_ifExp (pt_cmpR (op_neD (by omega)) (pe_dget (by omega) ho pe_str hs) (pe_lst pa_nil) hm)
    (pe_bm PySem.F.plainAttrs_list PySem.F.slot_list_pop PySem.F.type_list_pop mt_popAt (pe_dget (by omega) ho2 pe_str hs2) (pa_cons pe_int pa_nil hst) hbase hfew hline hst hplain) h.run).imp fun σ H Q ⟨B, F, env, K, R, w0, c⟩ => by
    obtain ⟨hv, h1, h2⟩ := w0
    have s := R.tapeVar hv
    have ok : TK t0 H := by
      have := R.tp
      rw [hT] at this
      exact this
    rw [hT] at s
    obtain ⟨r, t, e⟩ := ok.kvs
    obtain ⟨ns, el⟩ := ok.large
    refine ⟨_, s, t0.root, .ref t0.l, rfl, .inl ⟨_, .inr "large", .inl e, rfl, tk_large.symm⟩, Nat.zero_le _, fun p hp => ?_⟩
    have np : ∀ b u, H b = some u → upd H p (.lst []) b = some u := fun b u eb => by rw [upd_ne fun z => by rw [z] at eb; rw [eb] at hp; cases hp]; exact eb
    have R1 : Rel G B F env σ (upd H p (.lst [])) := R.new hp _
    have ok1 : TK t0 (upd H p (.lst [])) := by
      have := R1.tp
      rw [hT] at this
      exact this
    have el1 : upd H p (.lst []) t0.l = some (.lst (ns.map V.int)) := np _ _ el
    refine ⟨.list (ns.map PyData.int), .list [], .lst (.inl (.inl el1)) (ints_dp ns), .lst (.inl (.inl upd_same)) .nil, ?_, ?_, ?_⟩
    · have := ints_lay ns
      simp [SeqAt.shaped, PyData.canLay0, PyData.depth, this]
    · simp [SeqAt.shaped, PyData.canLay0, PyData.canLayAll0, PyData.depth, PyData.depthAll]
    · refine ⟨_, rfl, ?_⟩
      cases ns with
      | nil =>
        exact ite2 (fun z => by simp [PyData.eqv, PyData.eqvAll] at z) fun _ => ⟨B, F, env, K, R1, h2, c⟩
      | cons n ns =>
        refine ite2 (fun _ => ?_) fun z => absurd (by simp [PyData.eqv, PyData.eqvAll]) z
        refine ⟨_, s, t0.root, .ref t0.l, rfl, .inl ⟨_, .inr "large", .inl (np _ _ e), rfl, tk_large.symm⟩, .inl ⟨rfl, _, .inl (.inl el1)⟩, t0.l, _, 0, 0, .int n, rfl, rfl, el1, by omega, by omega, by simp [seqIndex?], rfl, ?_⟩
        have R2 : Rel G B F env σ (upd (upd H p (.lst [])) t0.l (.lst (ns.map V.int))) := by
          refine R1.tapeUpd (fun a na => upd_ne fun z => na (by rw [hT]; exact .inr (.inl z))) ?_
          rw [hT]
          exact ⟨⟨r, t, by rw [upd_ne ok.rl]; exact np _ _ e⟩, ⟨ns, upd_same⟩, by rw [upd_ne ok.lc.symm]; exact ok1.cells, ok.rl, ok.rc, ok.lc, ok1.scr_upd fun z => (ok.rs z).2.1, ok.rs⟩
        exact c (.int n) _ (.sh (.int n)) env F R2 (Rep.int n) (h1 n)⟩
/-- len(script) -/
def vScrLen (n i : Nat) : WE := fun env K => env[i]? = some (.sh (.scr n)) ∧ K (.sh (.int n)) env
theorem Rel.scrVar {n : Nat} (R : Rel G B F env σ H) (h : env[i]? = some (.sh (.scr n))) : σ[i]? = some (some (.ref G.T.sa)) := by
  obtain ⟨v, s, r⟩ := R.sh i _ h
  cases r with
  | scr => exact s
  | «at» f t => cases t
theorem ScrOk.sq {K : PySem.W.Frag} {sa : Addr} {ss : List Int} {inH : Bool} (h : ScrOk K sa ss inH H) : SqL K H sa (ss.map V.int) := by
  unfold ScrOk at h
  split at h
  · exact .inl h
  · exact .inr h
theorem ev_scrLen {o : Expr} {p : Pos} (hT : G.T = tapeT t0) (hK : t0.K = X.K) (hg : Gl X "len") (hm : X.mg "len" = none) (ho : PE X o (tVar i))
    (hs : starEach [o] X.env = (false, eval o X.env) :: starEach [] X.env := by rfl) (hpl : (backTo pos (starEach [] X.env)).any (·.1) = false := by rfl) : EV X G (.Call (.Name "len" p) [o] [] pos) (vScrLen t0.ss.length i) :=
  ⟨(pe_callB call_len_seq hg hm PySem.boot_len (pa_cons ho pa_nil hs) (by decide) (by decide) hs hpl).imp fun σ H Q ⟨B, F, env, K, R, w0, c⟩ => by
    have s := R.scrVar w0.1
    have ok : TK t0 H := by
      have := R.tp
      rw [hT] at this
      exact this
    rw [hT] at s
    have hq := ok.scr.sq
    rw [hK] at hq
    refine ⟨_, s, t0.sa, _, rfl, .inl hq, ?_⟩
    rw [List.length_map]
    exact c (.int t0.ss.length) H (.sh (.int t0.ss.length)) env F R (Rep.int _) w0.2⟩
end
end PV
namespace PV
open PySem PySem.Spec PyProof.Rows L2
theorem _root_.L2.FnOk.weak {P : Program} {w : World} {K : PySem.W.Frag} {mg : Str → Option Value} {base : Heap} {CX : CXT} {k n : Nat} {f : Addr} {fd : FuncData} {ps : List Str} {G : Gx} {wf wf' : Fn} (h : FnOk P w K mg base CX k f fd ps (spV G n wf)) (i : ∀ ds K, wf' ds K → wf ds K) :
    FnOk P w K mg base CX k f fd ps (spV G n wf') :=
  have j : ∀ vs H Q E, spV G n wf' vs H Q E → spV G n wf vs H Q E := fun vs H Q E ⟨h1, F, ds, K, h2, h3, h4, h5, h6⟩ => ⟨h1, F, ds, K, h2, h3, h4, i ds K h5, h6⟩
  ⟨fun vs H Q E z => h.len vs H Q E (j vs H Q E z), fun A outer s H args us vs Q E hr e0 hb r hsp => h.run A outer s H args us vs Q E hr e0 hb r (j _ _ _ _ hsp)⟩
end PV
end
section
set_option autoImplicit false
set_option linter.all false
namespace PV
open PySem PySem.Spec PyProof.Rows L2
def w__law_blend (ms : List Int) : WS := (sSeq (sTPut 0 (vP2 opAdd (.e (vTInt 0)) (.e (vC (.int 1)))))
    (sSeq (sPar2 1 2 (mCons (vP1 opInt (.e (vTInt 0))) (mCons (vC (.int 0)) mNil)))
    (sSeq (sFor (iSeq (vLst (lCons (vC (.int 2147483629)) (lCons (vC (.int 2147483587)) (lCons (vC (.int 2147483579)) lNil))))) (gN 3) (sSeq (sSet 4 (vP2 opMod (.e (vP2 opAdd (.e (vP2 opMul (.v 1) (.e (vC (.int 69621))))) (.e (vP2 opDiv (.v 3) (.e (vC (.int 7))))))) (.v 3)))
    (sSeq (sFor (iTCells ms 0) (gN 5) (sSet 4 (vP2 opMod (.e (vP2 opAdd (.e (vP2 opMul (.v 4) (.e (vC (.int 48271))))) (.e (vP1 opInt (.v 5))))) (.v 3))))
    (sSet 2 (vP2 opAdd (.e (vP2 opMul (.v 2) (.e (vC (.int 2147483647))))) (.e (vP2 opMod (.e (vP2 opPow (.v 4) (.e (vC (.int 5))))) (.v 3))))))))
    (sRet (vMove 2)))))
def f__law_blend : Fn := fun ds K => ds = [.tape] ∧ ∀ r, K (.sh (.int r))
def w__law_draw : WS := (sSeq (sIf (tvV (vP2 opEq (.e (vTInt 0)) (.e (vC (.int 0))))) (sTPut 0 (vTLarge 0 (vCall 1 f__law_blend (lCons (vVar 0) lNil)))) sNil)
    (sSeq (sSet 2 (vP2 opMod (.e (vP1 opInt (.e (vTInt 0)))) (.v 1)))
    (sSeq (sTPut 0 (vP2 opDiv (.e (vP1 opInt (.e (vTInt 0)))) (.v 1)))
    (sRet (vMove 2)))))
def f__law_draw : Fn := fun ds K => match ds with
  | [.tape, .int n] => 0 < n ∧ n < 1073741824 ∧ ∀ r, 0 ≤ r → r < n → K (.sh (.int r))
  | _ => False
theorem opEq_int {i j : Int} : opEq (.int i) (.int j) = some (.sh (.bl (i == j))) := by simp [opEq, pl2, pln, eqb]
theorem s__law_draw_spec (ds : List D) (K : Rv → Prop) (h : f__law_draw ds K) : fnV 3 w__law_draw ds K := by
  unfold f__law_draw at h
  split at h
  · rename_i n
    obtain ⟨h0, h1, h2⟩ := h
    have ne : n ≠ 0 := by omega
    have na : n.natAbs < 1073741824 := by omega
    have tail : ∀ (d2 : Sl) (k : K4), k.rt = K → (sSeq (sSet 2 (vP2 opMod (.e (vP1 opInt (.e (vTInt 0)))) (.v 1))) (sSeq (sTPut 0 (vP2 opDiv (.e (vP1 opInt (.e (vTInt 0)))) (.v 1))) (sRet (vMove 2)))) k [.sh .tape, .sh (.int n), d2] := by
      intro d2 k hk
      simp [sSeq, sSet, sTPut, sRet, vP2, vP1, evO, getR, vTInt, vMove, opMod, opDiv, opInt, kP, ne, na, Rv.d, Rv.sl, hk]
      intro r
      exact h2 _ (Int.fmod_nonneg_of_pos r h0) (Int.fmod_lt_of_pos r h0)
    simp only [fnV, w__law_draw, env0, List.map_cons, List.map_nil, List.length_cons, List.length_nil]
    show sSeq _ _ _ [.sh .tape, .sh (.int n), .no]
    rw [sSeq]
    refine ⟨rfl, fun r => ?_⟩
    simp only [evO, vC, getR, Rv.d, opEq_int, kP, kB]
    cases (r == 0) with
    | true => exact ⟨rfl, fun r' => ⟨rfl, ⟨r', rfl⟩, tail _ { nx := fun _ => K (.sh .non), rt := K } rfl⟩, rfl, rfl, fun r' => ⟨rfl, ⟨r', rfl⟩, tail _ { nx := fun _ => K (.sh .non), rt := K } rfl⟩⟩
    | false => exact tail _ { nx := fun _ => K (.sh .non), rt := K } rfl
  · exact h.elim
theorem opMulL_int {i j : Int} (h : -(2 ^ 64) < j ∧ j < 2 ^ 64) : opMul (.int i) (.int j) = some (.sh (.int (i * j))) := by simp only [opMul]; rw [if_pos (.inr h)]
theorem opMod_int {i j : Int} (h : j ≠ 0) : opMod (.int i) (.int j) = some (.sh (.int (i.fmod j))) := by simp only [opMod]; rw [if_pos h]
theorem opDiv_int {i j : Int} (h : j ≠ 0 ∧ j.natAbs < 1073741824) : opDiv (.int i) (.int j) = some (.sh (.int (i.fdiv j))) := by simp only [opDiv]; rw [if_pos h]
theorem opPow_int {i j : Int} (h : 0 ≤ j ∧ j ≤ 1000000 ∧ i.natAbs < 2 ^ 64) : opPow (.int i) (.int j) = some (.sh (.int (i ^ j.toNat))) := by simp only [opPow]; rw [if_pos h]
theorem opAdd_int {i j : Int} : opAdd (.int i) (.int j) = some (.sh (.int (i + j))) := rfl
theorem opSub_int {i j : Int} : opSub (.int i) (.int j) = some (.sh (.int (i - j))) := rfl
theorem opInt_int {i : Int} : opInt (.int i) = some (.sh (.int i)) := rfl
theorem blend_cells {great : Int} (h0 : 0 < great) (k : K4) (a1 a2 : Int) : ∀ (ns : List Int) (b : Int) (x5 : Sl), 0 ≤ b → b < great → (∀ (b' : Int) (x5' : Sl), 0 ≤ b' → b' < great → k.nx [.sh .tape, .sh (.int a1), .sh (.int a2), .sh (.int great), .sh (.int b'), x5']) →
    forL (gN 5) (sSet 4 (vP2 opMod (.e (vP2 opAdd (.e (vP2 opMul (.v 4) (.e (vC (.int 48271))))) (.e (vP1 opInt (.v 5))))) (.v 3))) (ns.map D.int) k [.sh .tape, .sh (.int a1), .sh (.int a2), .sh (.int great), .sh (.int b), x5]
  | [], b, x5, hb, hb', hk => hk b x5 hb hb'
  | n :: ns, b, x5, hb, hb', hk => by
    simp only [List.map_cons, forL, gN, List.set_cons_succ, List.set_cons_zero, sSet, vP2, vP1, evO, getR, List.getElem?_cons_succ, List.getElem?_cons_zero, vC, Rv.d, kP, opInt_int, opAdd_int, opMulL_int (show -(2 ^ 64) < (48271 : Int) ∧ (48271 : Int) < 2 ^ 64 by decide), opMod_int (Int.ne_of_gt h0), Rv.sl]
    exact blend_cells h0 k a1 a2 ns _ _ (Int.fmod_nonneg_of_pos _ h0) (Int.fmod_lt_of_pos _ h0) hk
theorem blend_one {ms : List Int} {great : Int} (h0 : 0 < great) (h1 : great < 2 ^ 31) (k : K4) (a1 a2 : Int) (x4 x5 : Sl) (hk : ∀ (f b : Int) (x5' : Sl), k.nx [.sh .tape, .sh (.int a1), .sh (.int f), .sh (.int great), .sh (.int b), x5']) :
    (sSeq (sSet 4 (vP2 opMod (.e (vP2 opAdd (.e (vP2 opMul (.v 1) (.e (vC (.int 69621))))) (.e (vP2 opDiv (.v 3) (.e (vC (.int 7))))))) (.v 3)))
    (sSeq (sFor (iTCells ms 0) (gN 5) (sSet 4 (vP2 opMod (.e (vP2 opAdd (.e (vP2 opMul (.v 4) (.e (vC (.int 48271))))) (.e (vP1 opInt (.v 5))))) (.v 3))))
    (sSet 2 (vP2 opAdd (.e (vP2 opMul (.v 2) (.e (vC (.int 2147483647))))) (.e (vP2 opMod (.e (vP2 opPow (.v 4) (.e (vC (.int 5))))) (.v 3))))))) k [.sh .tape, .sh (.int a1), .sh (.int a2), .sh (.int great), x4, x5] := by
  simp only [sSeq, sSet, vP2, vP1, evO, getR, List.set_cons_succ, List.set_cons_zero, List.getElem?_cons_succ, List.getElem?_cons_zero, vC, Rv.d, kP, opAdd_int, opMulL_int (show -(2 ^ 64) < (69621 : Int) ∧ (69621 : Int) < 2 ^ 64 by decide), opDiv_int (show (7 : Int) ≠ 0 ∧ (7 : Int).natAbs < 1073741824 by decide), opMod_int (Int.ne_of_gt h0), Rv.sl]
  refine ⟨rfl, blend_cells h0 _ a1 a2 ms _ _ (Int.fmod_nonneg_of_pos _ h0) (Int.fmod_lt_of_pos _ h0) fun b' x5' g0 g1 => ?_⟩
  have hp : 0 ≤ (5 : Int) ∧ (5 : Int) ≤ 1000000 ∧ b'.natAbs < 2 ^ 64 := by omega
  simp only [sSet, List.set_cons_succ, List.set_cons_zero, List.getElem?_cons_succ, List.getElem?_cons_zero, vP2, evO, getR, vC, Rv.d, kP, opPow_int hp, opAdd_int, opMulL_int (show -(2 ^ 64) < (2147483647 : Int) ∧ (2147483647 : Int) < 2 ^ 64 by decide), opMod_int (Int.ne_of_gt h0), Rv.sl]
  exact hk _ _ _
theorem s__law_blend_spec {ms : List Int} (ds : List D) (K : Rv → Prop) (h : f__law_blend ds K) : fnV 6 (w__law_blend ms) ds K := by
  obtain ⟨rfl, h⟩ := h
  refine ⟨rfl, fun t => ⟨rfl, ⟨t + 1, rfl⟩, rfl, fun turn => ?_⟩⟩
  refine ⟨by decide, ?_⟩
  refine blend_one (by decide) (by decide) _ turn _ _ _ fun f b x5 => ?_
  refine blend_one (by decide) (by decide) _ turn _ _ _ fun f b x5 => ?_
  refine blend_one (by decide) (by decide) _ turn _ _ _ fun f b x5 => ?_
  exact h _
end PV
end
section
set_option autoImplicit false
set_option linter.all false
set_option maxRecDepth 100000
set_option Elab.async false
namespace PV
open PySem PySem.Spec PyProof.Rows L2
/-! ### the head's hook: facts by names, defs at any address, one more Bool -/
abbrev AlP : Type := He.AlD × Bool
def obsP (fa : List He.Fa) (fn : List He5.DefA) (ex : PySem.W.Frag → Bool) (K : PySem.W.Frag) : AlP := (He5.obsA fa fn K, ex K)
def valP (fn : List He5.DefA) : AlP := (He5.valA fn, true)
structure SaysP (fa : List He.Fa) (fn : List He5.DefA) (ex : PySem.W.Frag → Bool) (K : PySem.W.Frag) : Prop where
  a : He5.SaysA fa fn K
  ex : ex K = true
def obsPG (n : Nat) (fa : List He.Fa) (fn : List He5.DefA) (ex : PySem.W.Frag → Bool) (g : Addr → Option Obj) : AlP := obsP fa fn ex (He.frG g (He5.asA g n))
def hookP (n : Nat) (fa : List He.Fa) (fn : List He5.DefA) (ex : PySem.W.Frag → Bool) : PySem.W.Hook where
  α := AlP
  obs := fun s => obsPG n fa fn ex s.heap.get?
  val := fun _ => valP fn
  says := fun _ h => ∃ K : PySem.W.Frag, K.In h ∧ SaysP fa fn ex K
  of := fun _ _ e => ⟨_, He.frG_in, ⟨congrArg (fun z : AlP => z.1) e, congrArg (fun z : AlP => z.2) e⟩⟩
  keeps := fun _ _ _ ⟨K, hK, c⟩ k => ⟨K, PySem.W.Frag.In.keeps hK k, c⟩
theorem obsPG_eq {n : Nat} {fa : List He.Fa} {fn : List He5.DefA} {ex : PySem.W.Frag → Bool} {g : Addr → Option Obj} {s : Shared} (h : ∀ a, g a = s.heap.get? a) : obsPG n fa fn ex g = (hookP n fa fn ex).obs s := by
  have e : g = s.heap.get? := funext h
  rw [e] <;> rfl
theorem c_of {K : PySem.W.Frag} {h : Heap} {mg : Str → Option Value} (X : K.In h) (G : h.Ns mainGlobals mg) {x : Str} {i : Int} (c : (He.Fa.int x i).ok K = true) : ∃ u, mg x = some u ∧ RelV (.int i) u := by
  obtain ⟨t, e⟩ := He.int_ok X G c
  exact ⟨_, e, t, rfl⟩
end PV
end
section
set_option autoImplicit false
set_option linter.all false
namespace PV
open PySem PySem.Spec PyProof.Rows L2
/-! ### plain facts: states as lists of iL -/
def iL (s : List Int) : List D := s.map D.int
def stD (s : List Int) : D := .tup (iL s)
def kst (s : List Int) : NestedKey := .tup (s.map NestedKey.num)
theorem plns_ints (n : Nat) : ∀ s : List Int, plns n (iL s) = true
  | [] => by simp [iL, plns]
  | x :: s => by
    have h := plns_ints n s
    simp only [iL] at h
    simp [iL, plns, pln, h]
theorem pln_st (n : Nat) (s : List Int) : pln (n + 1) (stD s) = true := by
  unfold stD; rw [pln]; exact plns_ints n s
theorem plns_sts (n : Nat) : ∀ L : List (List Int), plns (n + 1) (L.map stD) = true
  | [] => by simp [plns]
  | x :: L => by simp [plns, pln_st, plns_sts n L]
theorem eqbs_ints : ∀ a b : List Int, eqbs (iL a) (iL b) = (a == b)
  | [], [] => rfl
  | [], _ :: _ => rfl
  | _ :: _, [] => rfl
  | x :: a, y :: b => by
    have h := eqbs_ints a b
    simp only [iL] at h
    simp only [iL, List.map_cons, eqbs, eqb, h]
    rfl
theorem eqb_st (a b : List Int) : eqb (stD a) (stD b) = (a == b) := by
  unfold stD; rw [eqb]; exact eqbs_ints a b
theorem nks_ints : ∀ s : List Int, nks (iL s) = some (s.map NestedKey.num)
  | [] => rfl
  | x :: s => by
    have h := nks_ints s
    simp only [iL] at h
    simp [iL, nks, nk, h]
theorem depthAll_nums : ∀ s : List Int, NestedKey.depthAll (s.map NestedKey.num) = 0
  | [] => by simp [NestedKey.depthAll]
  | x :: s => by simp [NestedKey.depthAll, NestedKey.depth, depthAll_nums s]
theorem depth_kst (s : List Int) : (kst s).depth = 1 := by
  simp [kst, NestedKey.depth, depthAll_nums]
theorem dkey_st (s : List Int) : dkey (stD s) = some (kst s) := by
  have h : (NestedKey.tup (s.map NestedKey.num)).depth ≤ 8 := by
    have := depth_kst s
    unfold kst at this
    omega
  simp only [stD, dkey, nks_ints]
  rw [if_pos h]
  rfl
theorem nk_st (s : List Int) : nk (stD s) = some (kst s) := by
  simp only [stD, nk, nks_ints, kst]
theorem nks_sts : ∀ L : List (List Int), nks (L.map stD) = some (L.map kst)
  | [] => rfl
  | x :: L => by simp [nks, nk_st, nks_sts L]
theorem kst_inj {a b : List Int} (h : kst a = kst b) : a = b := by
  unfold kst at h
  injection h with h
  exact List.map_inj_right (fun x y e => by injection e) |>.mp h
theorem kst_iff {a b : List Int} : kst a = kst b ↔ a = b := ⟨kst_inj, fun h => by rw [h]⟩
/-! ### a dict with states as keys -/
def kvsD (L : List (List Int)) (g : List Int → D) : List (D × D) := L.map fun s => (stD s, g s)
theorem keq_st (a b : List Int) (d : D) : keq (kst a) (stD b, d) = decide (b = a) := by
  unfold keq
  rw [dkey_st]
  by_cases h : b = a
  · rw [h]; simp
  · have : ¬ (some (kst b) = some (kst a)) := fun e => h (kst_inj (Option.some.inj e))
    simp [h, this]
theorem dfind_kvs (g : List Int → D) : ∀ (L : List (List Int)) (s : List Int), s ∈ L → dfind (kvsD L g) (kst s) = some (g s)
  | [], s, h => by cases h
  | x :: L, s, h => by
    unfold kvsD dfind
    rw [List.map_cons, List.find?_cons, keq_st]
    by_cases e : x = s
    · subst e; simp
    · have hs : s ∈ L := by
        rcases List.mem_cons.mp h with h | h
        · exact absurd h.symm e
        · exact h
      have := dfind_kvs g L s hs
      unfold dfind kvsD at this
      rw [show decide (x = s) = false from by simpa using e]
      exact this
theorem dget_kvs (g : List Int → D) {L : List (List Int)} {s : List Int} (h : s ∈ L) : dget (kvsD L g) (stD s) = some (g s) := by
  unfold dget
  rw [dkey_st]
  exact dfind_kvs g L s h
theorem dhas_kvs (g : List Int → D) (L : List (List Int)) (s : List Int) : dhas (kvsD L g) (kst s) = decide (s ∈ L) := by
  unfold dhas kvsD
  rw [List.any_map]
  induction L with
  | nil => simp
  | cons x L ih =>
    rw [List.any_cons, ih]
    show (keq (kst s) (stD x, g x) || _) = _
    rw [keq_st]
    by_cases e : x = s
    · subst e; simp
    · have e' : ¬ s = x := fun h => e h.symm
      simp [e, e']
theorem opIdx_kvs (g : List Int → D) {L : List (List Int)} {s : List Int} (h : s ∈ L) : opIdx (.dct (kvsD L g)) (stD s) = some (.sh (g s)) := by
  show (dget (kvsD L g) (stD s)).map _ = _
  rw [dget_kvs g h]
  rfl
theorem opSet_new (g : List Int → D) {L : List (List Int)} {s : List Int} (h : s ∉ L) (hl : L.length < 16777216) : opSet (.dct (kvsD L g)) (stD s) (g s) = some (.dct (kvsD (L ++ [s]) g)) := by
  have hl' : (kvsD L g).length < 16777216 := by simpa [kvsD] using hl
  have e : dputN (kvsD L g) (kst s) (stD s) (g s) = kvsD (L ++ [s]) g := by
    unfold dputN
    rw [dhas_kvs]
    simp [h, kvsD]
  show (match dkey (stD s) with
    | some n => if (kvsD L g).length < 16777216 then some (D.dct (dputN (kvsD L g) n (stD s) (g s))) else none
    | none => none) = _
  rw [dkey_st]
  show (if (kvsD L g).length < 16777216 then some (D.dct (dputN (kvsD L g) (kst s) (stD s) (g s))) else none) = _
  rw [if_pos hl', e]
theorem isIn_kvs (g : List Int → D) (L : List (List Int)) (s : List Int) : isIn (stD s) (.dct (kvsD L g)) = some (decide (s ∈ L)) := by
  simp only [isIn, dkey_st, dhas_kvs]
theorem any_eqb (s : List Int) : ∀ L : List (List Int), ((L.map stD).any fun z => eqb z (stD s)) = decide (s ∈ L)
  | [] => by simp
  | x :: L => by
    rw [List.map_cons, List.any_cons, any_eqb s L, eqb_st]
    by_cases e : x = s
    · subst e; simp
    · have e' : ¬ s = x := fun h => e h.symm
      have : (x == s) = false := by simpa using e
      simp [this, e']
theorem isIn_lst (L : List (List Int)) (s : List Int) : isIn (stD s) (.lst (L.map stD)) = some (decide (s ∈ L)) := by
  simp only [isIn, pln_st 59, plns_sts 58, any_eqb]; rfl
theorem isIn_tup (L : List (List Int)) (s : List Int) : isIn (stD s) (.tup (L.map stD)) = some (decide (s ∈ L)) := by
  simp only [isIn, pln_st 59, plns_sts 58, any_eqb]; rfl
theorem idxOf_kst (s : List Int) : ∀ L : List (List Int), (L.map kst).idxOf (kst s) = L.idxOf s
  | [] => rfl
  | x :: L => by
    rw [List.map_cons, List.idxOf_cons, List.idxOf_cons, idxOf_kst s L]
    by_cases e : x = s
    · subst e; simp
    · have : kst x ≠ kst s := fun h => e (kst_inj h)
      have h1 : (kst x == kst s) = false := by simpa using this
      have h2 : (x == s) = false := by simpa using e
      rw [h1, h2]
theorem mem_kst {s : List Int} {L : List (List Int)} (h : s ∈ L) : kst s ∈ L.map kst := List.mem_map_of_mem h
theorem opIndex_lst {L : List (List Int)} {s : List Int} (h : s ∈ L) (hl : L.length ≤ 16777216) : opIndex "list" (.lst (L.map stD)) (stD s) = some (.sh (.int (L.idxOf s))) := by
  have hd : (kst s).depth ≤ 60 := by rw [depth_kst]; decide
  simp only [opIndex, nk_st, nks_sts, if_true]
  rw [if_pos ⟨mem_kst h, hd, by simpa using hl⟩, idxOf_kst]
theorem opIndex_tup {L : List (List Int)} {s : List Int} (h : s ∈ L) (hl : L.length ≤ 16777216) : opIndex "tuple" (.tup (L.map stD)) (stD s) = some (.sh (.int (L.idxOf s))) := by
  have hd : (kst s).depth ≤ 60 := by rw [depth_kst]; decide
  simp only [opIndex, nk_st, nks_sts, if_true]
  rw [if_pos ⟨mem_kst h, hd, by simpa using hl⟩, idxOf_kst]
/-! ### the states of n switches -/
def S : Nat → List (List Int)
  | 0 => [[]]
  | n + 1 => (S n).flatMap fun s => [s ++ [0], s ++ [1]]
theorem S_len : ∀ n, (S n).length = 2 ^ n
  | 0 => rfl
  | n + 1 => by
    have h : ∀ L : List (List Int), (L.flatMap fun s => [s ++ [(0 : Int)], s ++ [1]]).length = 2 * L.length := by
      intro L
      induction L with
      | nil => rfl
      | cons x L ih => simp [List.flatMap_cons, ih]; omega
    rw [S, h, S_len n, Nat.pow_succ]; omega
theorem S_mem : ∀ n s, s ∈ S n → s.length = n ∧ ∀ x ∈ s, x = 0 ∨ x = 1
  | 0, s, h => by
    simp [S] at h
    subst h
    simp
  | n + 1, s, h => by
    rw [S, List.mem_flatMap] at h
    obtain ⟨t, ht, h⟩ := h
    obtain ⟨h1, h2⟩ := S_mem n t ht
    simp at h
    rcases h with rfl | rfl
    · refine ⟨by simp [h1], fun x hx => ?_⟩
      rcases List.mem_append.mp hx with hx | hx
      · exact h2 x hx
      · simp at hx; exact .inl hx
    · refine ⟨by simp [h1], fun x hx => ?_⟩
      rcases List.mem_append.mp hx with hx | hx
      · exact h2 x hx
      · simp at hx; exact .inr hx
theorem S_nodup5 : ∀ n, n ≤ 5 → (S n).Nodup := by
  intro n h
  match n, h with
  | 0, _ => decide
  | 1, _ => decide
  | 2, _ => decide
  | 3, _ => decide
  | 4, _ => decide +kernel
  | 5, _ => decide +kernel
theorem S_of : ∀ n s, s.length = n → (∀ x ∈ s, x = 0 ∨ x = 1) → s ∈ S n
  | 0, s, h, _ => by
    have : s = [] := List.length_eq_zero_iff.mp h
    subst this
    simp [S]
  | n + 1, s, h, h2 => by
    rcases List.eq_nil_or_concat s with e | ⟨t, x, e⟩
    · subst e; cases h
    · subst e
      simp at h h2
      have ht : t ∈ S n := S_of n t h fun x hx => h2 x (.inl hx)
      rw [S, List.mem_flatMap]
      refine ⟨t, ht, ?_⟩
      rcases h2 x (.inr rfl) with rfl | rfl <;> simp
end PV
end
section
set_option autoImplicit false
set_option linter.all false
set_option maxRecDepth 100000
set_option Elab.async false
namespace K77
open PySem PySem.Spec PyProof.Rows L2 PV
def top (i : Nat) : Stmt := PySem.Challenge.pw_looksrests_k77_whole_beats_followed_far.main.body.getD i (.Pass ⟨0, 0, 0, 0⟩)
def cbody (s : Stmt) (i : Nat) : Stmt := match s with
  | .ClassDef (body := b) .. => b.getD i (.Pass ⟨0, 0, 0, 0⟩)
  | _ => .Pass ⟨0, 0, 0, 0⟩
theorem hu_of {k : Nat} {A : Around} (h : Room k A) : A.units + 65 < cLine := by
  have := h.un
  omega
theorem hu64 {k : Nat} {A : Around} (h : Room k A) : A.units + 64 < cLine := h.units
theorem loc_l {sc : Scope} {x : Str} (h : sc.names.lookup x = some .local) : Loc sc x := .inl h
theorem loc_c {sc : Scope} {x : Str} (h : sc.names.lookup x = some .cell) : Loc sc x := .inr h

abbrev s_is_number : Stmt := top 9
abbrev s_is_between : Stmt := top 10
abbrev s_is_list : Stmt := top 11
abbrev s_is_tuple_of : Stmt := top 12
abbrev s_all_states : Stmt := top 15
abbrev s_states_many : Stmt := top 16
abbrev s_need_rules : Stmt := top 17
abbrev s_Net_init : Stmt := cbody (top 18) 0
abbrev s_Net_switches : Stmt := cbody (top 18) 1
abbrev s_Net_rules : Stmt := cbody (top 18) 2
abbrev s_Net_eq : Stmt := cbody (top 18) 3
abbrev s_need_net : Stmt := top 19
abbrev s_is_state : Stmt := top 20
abbrev s_need_state : Stmt := top 21
abbrev s_need_net_state : Stmt := top 22
abbrev s_next_by : Stmt := top 23
abbrev s_next_state : Stmt := top 24
abbrev s_beat_track : Stmt := top 27
abbrev s_beat_run : Stmt := top 28
abbrev s_state_after : Stmt := top 29
abbrev s_need_times : Stmt := top 30
abbrev s_after : Stmt := top 31
abbrev s_need_two_states : Stmt := top 32
abbrev s_time_by : Stmt := top 33
abbrev s_beat_time : Stmt := top 34
abbrev s_longest_tail : Stmt := top 35
abbrev s__law_begun : Stmt := top 37
abbrev s__law_blend : Stmt := top 38
abbrev s__law_draw : Stmt := top 39
abbrev s__law_pick : Stmt := top 40
abbrev s__law_shuffled : Stmt := top 41
abbrev s__law_power : Stmt := top 42
abbrev s__law_states : Stmt := top 43
abbrev s__law_net : Stmt := top 44
abbrev s__law_made : Stmt := top 45
abbrev s__law_small_nets : Stmt := top 46
abbrev s__law_run : Stmt := top 47
abbrev s__law_four : Stmt := top 48
abbrev s__law_net_right : Stmt := top 49
abbrev s_law : Stmt := top 50
structure Md (K : PySem.W.Frag) (mg : Str → Option Value) where
  z_abs : mg "abs" = none
  z_all : mg "all" = none
  z_bool : mg "bool" = none
  z_dict : mg "dict" = none
  z_enumerate : mg "enumerate" = none
  z_int : mg "int" = none
  z_isinstance : mg "isinstance" = none
  z_len : mg "len" = none
  z_list : mg "list" = none
  z_min : mg "min" = none
  z_range : mg "range" = none
  z_sorted : mg "sorted" = none
  z_tuple : mg "tuple" = none
  z_zip : mg "zip" = none
  c_MOST_SWITCHES : ∃ u, mg "MOST_SWITCHES" = some u ∧ RelV (.int 5) u
  c_MOST_TIMES : ∃ u, mg "MOST_TIMES" = some u ∧ RelV (.int 1000000000000000000) u
  g_Net : mg "Net" = some (.ref (He.ga K "Net"))
  cl : Cls K (He.ga K "Net")
  n_own_nexts : NoAttr K (He.ga K "Net") "own_nexts"
  n_own_rules : NoAttr K (He.ga K "Net") "own_rules"
  p_switches : propB K (He.ga K "Net") "switches" = true
  p_rules : propB K (He.ga K "Net") "rules" = true
  mkc : Mk K (He.ga K "Net") (He.ma K (He.ga K "Net") "__init__")
  o_cls : ownB K (He.ga K "Net") = true
  e_eq : PySem.W.findIn K (.ref (He.ga K "Net")) "__eq__" = some (some (.ref (He.ma K (He.ga K "Net") "__eq__")))
  e_fn : PySem.W.isFn K (.ref (He.ma K (He.ga K "Net") "__eq__")) = true
  g_is_number : mg "is_number" = some (.ref (He.ga K "is_number"))
  d_is_number : FuncData
  F_is_number : FnP K "is_number" "is_number" s_is_number [] (He.ga K "is_number") d_is_number
  g_is_between : mg "is_between" = some (.ref (He.ga K "is_between"))
  d_is_between : FuncData
  F_is_between : FnP K "is_between" "is_between" s_is_between [] (He.ga K "is_between") d_is_between
  g_is_list : mg "is_list" = some (.ref (He.ga K "is_list"))
  d_is_list : FuncData
  F_is_list : FnP K "is_list" "is_list" s_is_list [] (He.ga K "is_list") d_is_list
  g_is_tuple_of : mg "is_tuple_of" = some (.ref (He.ga K "is_tuple_of"))
  d_is_tuple_of : FuncData
  F_is_tuple_of : FnP K "is_tuple_of" "is_tuple_of" s_is_tuple_of [] (He.ga K "is_tuple_of") d_is_tuple_of
  g_all_states : mg "all_states" = some (.ref (He.ga K "all_states"))
  d_all_states : FuncData
  F_all_states : FnP K "all_states" "all_states" s_all_states [] (He.ga K "all_states") d_all_states
  g_states_many : mg "states_many" = some (.ref (He.ga K "states_many"))
  d_states_many : FuncData
  F_states_many : FnP K "states_many" "states_many" s_states_many [] (He.ga K "states_many") d_states_many
  g_need_rules : mg "need_rules" = some (.ref (He.ga K "need_rules"))
  d_need_rules : FuncData
  F_need_rules : FnP K "need_rules" "need_rules" s_need_rules [] (He.ga K "need_rules") d_need_rules
  d_Net_init : FuncData
  F_Net_init : FnP K "__init__" "Net.__init__" s_Net_init [] (He.ma K (He.ga K "Net") "__init__") d_Net_init
  d_Net_switches : FuncData
  F_Net_switches : FnP K "switches" "Net.switches" s_Net_switches [] (getA K (He.ga K "Net") "switches") d_Net_switches
  d_Net_rules : FuncData
  F_Net_rules : FnP K "rules" "Net.rules" s_Net_rules [] (getA K (He.ga K "Net") "rules") d_Net_rules
  d_Net_eq : FuncData
  F_Net_eq : FnP K "__eq__" "Net.__eq__" s_Net_eq [] (He.ma K (He.ga K "Net") "__eq__") d_Net_eq
  g_need_net : mg "need_net" = some (.ref (He.ga K "need_net"))
  d_need_net : FuncData
  F_need_net : FnP K "need_net" "need_net" s_need_net [.non] (He.ga K "need_net") d_need_net
  g_is_state : mg "is_state" = some (.ref (He.ga K "is_state"))
  d_is_state : FuncData
  F_is_state : FnP K "is_state" "is_state" s_is_state [] (He.ga K "is_state") d_is_state
  g_need_state : mg "need_state" = some (.ref (He.ga K "need_state"))
  d_need_state : FuncData
  F_need_state : FnP K "need_state" "need_state" s_need_state [] (He.ga K "need_state") d_need_state
  g_need_net_state : mg "need_net_state" = some (.ref (He.ga K "need_net_state"))
  d_need_net_state : FuncData
  F_need_net_state : FnP K "need_net_state" "need_net_state" s_need_net_state [] (He.ga K "need_net_state") d_need_net_state
  g_next_by : mg "next_by" = some (.ref (He.ga K "next_by"))
  d_next_by : FuncData
  F_next_by : FnP K "next_by" "next_by" s_next_by [] (He.ga K "next_by") d_next_by
  g_next_state : mg "next_state" = some (.ref (He.ga K "next_state"))
  d_next_state : FuncData
  F_next_state : FnP K "next_state" "next_state" s_next_state [] (He.ga K "next_state") d_next_state
  g_beat_track : mg "beat_track" = some (.ref (He.ga K "beat_track"))
  d_beat_track : FuncData
  F_beat_track : FnP K "beat_track" "beat_track" s_beat_track [] (He.ga K "beat_track") d_beat_track
  g_beat_run : mg "beat_run" = some (.ref (He.ga K "beat_run"))
  d_beat_run : FuncData
  F_beat_run : FnP K "beat_run" "beat_run" s_beat_run [] (He.ga K "beat_run") d_beat_run
  g_state_after : mg "state_after" = some (.ref (He.ga K "state_after"))
  d_state_after : FuncData
  F_state_after : FnP K "state_after" "state_after" s_state_after [] (He.ga K "state_after") d_state_after
  g_need_times : mg "need_times" = some (.ref (He.ga K "need_times"))
  d_need_times : FuncData
  F_need_times : FnP K "need_times" "need_times" s_need_times [] (He.ga K "need_times") d_need_times
  g_after : mg "after" = some (.ref (He.ga K "after"))
  d_after : FuncData
  F_after : FnP K "after" "after" s_after [] (He.ga K "after") d_after
  g_need_two_states : mg "need_two_states" = some (.ref (He.ga K "need_two_states"))
  d_need_two_states : FuncData
  F_need_two_states : FnP K "need_two_states" "need_two_states" s_need_two_states [] (He.ga K "need_two_states") d_need_two_states
  g_time_by : mg "time_by" = some (.ref (He.ga K "time_by"))
  d_time_by : FuncData
  F_time_by : FnP K "time_by" "time_by" s_time_by [] (He.ga K "time_by") d_time_by
  g_beat_time : mg "beat_time" = some (.ref (He.ga K "beat_time"))
  d_beat_time : FuncData
  F_beat_time : FnP K "beat_time" "beat_time" s_beat_time [] (He.ga K "beat_time") d_beat_time
  g_longest_tail : mg "longest_tail" = some (.ref (He.ga K "longest_tail"))
  d_longest_tail : FuncData
  F_longest_tail : FnP K "longest_tail" "longest_tail" s_longest_tail [] (He.ga K "longest_tail") d_longest_tail
  g__law_begun : mg "_law_begun" = some (.ref (He.ga K "_law_begun"))
  d__law_begun : FuncData
  F__law_begun : FnP K "_law_begun" "_law_begun" s__law_begun [] (He.ga K "_law_begun") d__law_begun
  g__law_blend : mg "_law_blend" = some (.ref (He.ga K "_law_blend"))
  d__law_blend : FuncData
  F__law_blend : FnP K "_law_blend" "_law_blend" s__law_blend [] (He.ga K "_law_blend") d__law_blend
  g__law_draw : mg "_law_draw" = some (.ref (He.ga K "_law_draw"))
  d__law_draw : FuncData
  F__law_draw : FnP K "_law_draw" "_law_draw" s__law_draw [] (He.ga K "_law_draw") d__law_draw
  g__law_pick : mg "_law_pick" = some (.ref (He.ga K "_law_pick"))
  d__law_pick : FuncData
  F__law_pick : FnP K "_law_pick" "_law_pick" s__law_pick [] (He.ga K "_law_pick") d__law_pick
  g__law_shuffled : mg "_law_shuffled" = some (.ref (He.ga K "_law_shuffled"))
  d__law_shuffled : FuncData
  F__law_shuffled : FnP K "_law_shuffled" "_law_shuffled" s__law_shuffled [] (He.ga K "_law_shuffled") d__law_shuffled
  g__law_power : mg "_law_power" = some (.ref (He.ga K "_law_power"))
  d__law_power : FuncData
  F__law_power : FnP K "_law_power" "_law_power" s__law_power [] (He.ga K "_law_power") d__law_power
  g__law_states : mg "_law_states" = some (.ref (He.ga K "_law_states"))
  d__law_states : FuncData
  F__law_states : FnP K "_law_states" "_law_states" s__law_states [] (He.ga K "_law_states") d__law_states
  g__law_net : mg "_law_net" = some (.ref (He.ga K "_law_net"))
  d__law_net : FuncData
  F__law_net : FnP K "_law_net" "_law_net" s__law_net [] (He.ga K "_law_net") d__law_net
  g__law_made : mg "_law_made" = some (.ref (He.ga K "_law_made"))
  d__law_made : FuncData
  F__law_made : FnP K "_law_made" "_law_made" s__law_made [] (He.ga K "_law_made") d__law_made
  g__law_small_nets : mg "_law_small_nets" = some (.ref (He.ga K "_law_small_nets"))
  d__law_small_nets : FuncData
  F__law_small_nets : FnP K "_law_small_nets" "_law_small_nets" s__law_small_nets [] (He.ga K "_law_small_nets") d__law_small_nets
  g__law_run : mg "_law_run" = some (.ref (He.ga K "_law_run"))
  d__law_run : FuncData
  F__law_run : FnP K "_law_run" "_law_run" s__law_run [] (He.ga K "_law_run") d__law_run
  g__law_four : mg "_law_four" = some (.ref (He.ga K "_law_four"))
  d__law_four : FuncData
  F__law_four : FnP K "_law_four" "_law_four" s__law_four [] (He.ga K "_law_four") d__law_four
  g__law_net_right : mg "_law_net_right" = some (.ref (He.ga K "_law_net_right"))
  d__law_net_right : FuncData
  F__law_net_right : FnP K "_law_net_right" "_law_net_right" s__law_net_right [] (He.ga K "_law_net_right") d__law_net_right
  g_law : mg "law" = some (.ref (He.ga K "law"))
  d_law : FuncData
  F_law : FnP K "law" "law" s_law [] (He.ga K "law") d_law
def GG (K : PySem.W.Frag) (w : World) (T : TapeI) : Gx := ⟨w, fun _ => He.ga K "Net", T⟩
section
variable {P : Program} {w : World} {K : PySem.W.Frag} {mg : Str → Option Value} {base : Heap} {tp : Tp}
theorem sc_is_number : FnScope ["thing"] ["thing"] (defScope s_is_number) := ⟨rfl, rfl, rfl, by decide +kernel, rfl, by decide +kernel, by decide +kernel⟩
theorem b_is_number (M : Md K mg) : Binds K M.d_is_number ["thing"] [] := M.F_is_number.bindsN fun _ _ _ _ _ _ us hl => match us, hl with | [_], _ => rfl
theorem kw_is_number (M : Md K mg) : Kw0 K M.d_is_number ["thing"] := kw0_of M.F_is_number fun _ _ _ _ _ _ us hl => match us, hl with | [_], _ => rfl
def w_is_number : WS := (sRet (vAnd (vP1 (opIsi ["int"]) (.v 0)) (vNot (vP1 (opIsi ["bool"]) (.v 0)))))
def f_is_number : Fn := fnV 1 w_is_number
theorem ok_is_number (M : Md K mg) : FnOk P w K mg base CX0 1 (He.ga K "is_number") M.d_is_number ["thing"] (spV (GG K w (tapeT tp)) 1 f_is_number) := by
  refine fn_okD (N := ["thing"]) (ws := w_is_number) M.F_is_number sc_is_number rfl fun cdv A outer s H E hr => ?_
  exact (ssv_one (sv_ret (ev_and (ev_isi1 rfl M.z_isinstance (ov_v (pv 0)) (bv rfl M.z_int (by decide +kernel))) (ev_one (ev_not (ev_isi1 rfl M.z_isinstance (ov_v (pv 0)) (bv rfl M.z_bool (by decide +kernel))))))))
theorem sc_is_between : FnScope ["thing", "low", "high"] ["thing", "low", "high"] (defScope s_is_between) := ⟨rfl, rfl, rfl, by decide +kernel, rfl, by decide +kernel, by decide +kernel⟩
theorem b_is_between (M : Md K mg) : Binds K M.d_is_between ["thing", "low", "high"] [] := M.F_is_between.bindsN fun _ _ _ _ _ _ us hl => match us, hl with | [_, _, _], _ => rfl
theorem kw_is_between (M : Md K mg) : Kw0 K M.d_is_between ["thing", "low", "high"] := kw0_of M.F_is_between fun _ _ _ _ _ _ us hl => match us, hl with | [_, _, _], _ => rfl
def w_is_between : WS := (sRet (vAnd (vCall 1 f_is_number (lCons (vVar 0) lNil)) (vChain opLe opLe (.v 1) (.v 0) (.v 2))))
def f_is_between : Fn := fnV 3 w_is_between
theorem ok_is_between (M : Md K mg) : FnOk P w K mg base CX0 2 (He.ga K "is_between") M.d_is_between ["thing", "low", "high"] (spV (GG K w (tapeT tp)) 3 f_is_between) := by
  refine fn_okD (N := ["thing", "low", "high"]) (ws := w_is_between) M.F_is_between sc_is_between rfl fun cdv A outer s H E hr => ?_
  exact (ssv_one (sv_ret (ev_and (ev_call (ok_is_number M) (hr.mono (by decide)) rfl M.g_is_number M.F_is_number.kp (b_is_number M) (lv_cons (ev_var (pv 0)) lv_nil)) (ev_one (ev_chain (or_le) (or_le) (ov_v (pv 1)) (ov_v (pv 0)) (ov_v (pv 2)))))))
theorem sc_is_list : FnScope ["thing"] ["thing"] (defScope s_is_list) := ⟨rfl, rfl, rfl, by decide +kernel, rfl, by decide +kernel, by decide +kernel⟩
theorem b_is_list (M : Md K mg) : Binds K M.d_is_list ["thing"] [] := M.F_is_list.bindsN fun _ _ _ _ _ _ us hl => match us, hl with | [_], _ => rfl
theorem kw_is_list (M : Md K mg) : Kw0 K M.d_is_list ["thing"] := kw0_of M.F_is_list fun _ _ _ _ _ _ us hl => match us, hl with | [_], _ => rfl
def w_is_list : WS := (sRet (vP1 (opIsi ["list", "tuple"]) (.v 0)))
def f_is_list : Fn := fnV 1 w_is_list
theorem ok_is_list (M : Md K mg) : FnOk P w K mg base CX0 1 (He.ga K "is_list") M.d_is_list ["thing"] (spV (GG K w (tapeT tp)) 1 f_is_list) := by
  refine fn_okD (N := ["thing"]) (ws := w_is_list) M.F_is_list sc_is_list rfl fun cdv A outer s H E hr => ?_
  exact (ssv_one (sv_ret (ev_isi2 rfl M.z_isinstance (ov_v (pv 0)) (bv rfl M.z_list (by decide +kernel)) (bv rfl M.z_tuple (by decide +kernel)))))
theorem sc_is_tuple_of : FnScope ["thing", "many", "low", "high", "item"] ["thing", "many", "low", "high"] (defScope s_is_tuple_of) := ⟨rfl, rfl, rfl, by decide +kernel, rfl, by decide +kernel, by decide +kernel⟩
theorem b_is_tuple_of (M : Md K mg) : Binds K M.d_is_tuple_of ["thing", "many", "low", "high"] [] := M.F_is_tuple_of.bindsN fun _ _ _ _ _ _ us hl => match us, hl with | [_, _, _, _], _ => rfl
theorem kw_is_tuple_of (M : Md K mg) : Kw0 K M.d_is_tuple_of ["thing", "many", "low", "high"] := kw0_of M.F_is_tuple_of fun _ _ _ _ _ _ us hl => match us, hl with | [_, _, _, _], _ => rfl
def w_is_tuple_of : WS := (sRet (vAnd (vP1 (opIsi ["tuple"]) (.v 0)) (vAnd (vP2 opEq (.e (vP1 opLen (.v 0))) (.v 1)) (vP1 opAll (.e (vLc (iTp (vVar 0)) (gN 4) tvYes (vCall 3 f_is_between (lCons (vVar 4) (lCons (vVar 2) (lCons (vVar 3) lNil)))) [4]))))))
def f_is_tuple_of : Fn := fnV 5 w_is_tuple_of
theorem ok_is_tuple_of (M : Md K mg) : FnOk P w K mg base CX0 3 (He.ga K "is_tuple_of") M.d_is_tuple_of ["thing", "many", "low", "high"] (spV (GG K w (tapeT tp)) 4 f_is_tuple_of) := by
  refine fn_okD (N := ["thing", "many", "low", "high", "item"]) (ws := w_is_tuple_of) M.F_is_tuple_of sc_is_tuple_of rfl fun cdv A outer s H E hr => ?_
  exact (ssv_one (sv_ret (ev_and (ev_isi1 rfl M.z_isinstance (ov_v (pv 0)) (bv rfl M.z_tuple (by decide +kernel))) (ev_and (ev_cmp (or_eq (hu64 hr)) (ov_e (ev_callB1 (cr_len rfl) rfl M.z_len PySem.boot_len (ov_v (pv 0)))) (ov_v (pv 1))) (ev_one (ev_callB1 (PV.cr_all rfl) rfl M.z_all PyProof.Rows.boot_all (ov_e (ev_lc (own := [("item", 4)]) (is := [4]) rfl sc_is_tuple_of.nd (iv_tup (ev_var (pv 0))) (blkOk_by (by kernel_rfl)) (by decide) (fun _ _ _ _ _ => (gv_name (i := 4) sc_is_tuple_of.nd rfl (by first | exact .inl rfl | exact .inr rfl))) (fun _ _ _ _ _ => tsv_nil) (fun _ _ _ _ _ => (ev_call (ok_is_between M) (hr.mono (by decide)) rfl M.g_is_between M.F_is_between.kp (b_is_between M) (lv_cons (ev_var (pv 4)) (lv_cons (ev_var (pv 2)) (lv_cons (ev_var (pv 3)) lv_nil)))))))))))))
theorem sc_all_states : FnScope ["many", "found", "switch", "state", "answer"] ["many"] (defScope s_all_states) := ⟨rfl, rfl, rfl, by decide +kernel, rfl, by decide +kernel, by decide +kernel⟩
theorem b_all_states (M : Md K mg) : Binds K M.d_all_states ["many"] [] := M.F_all_states.bindsN fun _ _ _ _ _ _ us hl => match us, hl with | [_], _ => rfl
theorem kw_all_states (M : Md K mg) : Kw0 K M.d_all_states ["many"] := kw0_of M.F_all_states fun _ _ _ _ _ _ us hl => match us, hl with | [_], _ => rfl
def w_all_states : WS := (sSeq (sSet 1 (vLst (lCons (vTup lNil) lNil)))
    (sSeq (sFor (iRange1 (lCons (vVar 0) lNil)) (gN 2) (sSet 1 (vLc2 (iSeq (vVar 1)) (gN 3) tvYes (iTp (vTup (lCons (vC (.int 0)) (lCons (vC (.int 1)) lNil)))) (gN 4) tvYes (vTup (lStar (.v 3) (lCons (vVar 4) lNil))) [3, 4] [4])))
    (sRet (vMove 1))))
def f_all_states : Fn := fnV 5 w_all_states
theorem ok_all_states (M : Md K mg) : FnOk P w K mg base CX0 1 (He.ga K "all_states") M.d_all_states ["many"] (spV (GG K w (tapeT tp)) 1 f_all_states) := by
  refine fn_okD (N := ["many", "found", "switch", "state", "answer"]) (ws := w_all_states) M.F_all_states sc_all_states rfl fun cdv A outer s H E hr => ?_
  exact (ssv_cons (sv_set (i := 1) sc_all_states.nd rfl (by first | exact .inl rfl | exact .inr rfl) (ev_lst (lv_cons (ev_tup lv_nil) lv_nil)))
    (ssv_cons (sv_for PassesOwn.never rfl (iv_range1 rfl M.z_range (lv_cons (ev_var (pv 0)) lv_nil)) (gv_name (i := 2) sc_all_states.nd rfl (by first | exact .inl rfl | exact .inr rfl)) (ssv_one (sv_setLc2 (i := 1) (own := [("state", 3), ("answer", 4)]) (vs1 := [4]) (is := [3]) (is1 := [4]) rfl sc_all_states.nd rfl rfl (sw_true rfl rfl rfl (by decide +kernel)) (iv_list (ev_var (pv 1))) (blkOk_by (by kernel_rfl)) (by decide) (by decide) (by decide) (fun _ _ _ _ _ => (gv_name (i := 3) sc_all_states.nd rfl (by first | exact .inl rfl | exact .inr rfl))) (fun _ _ _ _ _ => tsv_nil) (fun _ _ _ _ _ => (iv_tup (ev_tup (lv_cons ev_int (lv_cons ev_int lv_nil))))) (fun _ _ _ _ _ => (gv_name (i := 4) sc_all_states.nd rfl (by first | exact .inl rfl | exact .inr rfl))) (fun _ _ _ _ _ => tsv_nil) (fun _ _ _ _ _ => (ev_tup (lv_star (ov_v (pv 3)) (lv_cons (ev_var (pv 4)) lv_nil)))))))
    (ssv_one (sv_ret (ev_move (pv 1))))))
theorem sc_states_many : FnScope ["many"] ["many"] (defScope s_states_many) := ⟨rfl, rfl, rfl, by decide +kernel, rfl, by decide +kernel, by decide +kernel⟩
theorem b_states_many (M : Md K mg) : Binds K M.d_states_many ["many"] [] := M.F_states_many.bindsN fun _ _ _ _ _ _ us hl => match us, hl with | [_], _ => rfl
theorem kw_states_many (M : Md K mg) : Kw0 K M.d_states_many ["many"] := kw0_of M.F_states_many fun _ _ _ _ _ _ us hl => match us, hl with | [_], _ => rfl
def w_states_many : WS := (sRet (vP1 opLen (.e (vCall 1 f_all_states (lCons (vVar 0) lNil)))))
def f_states_many : Fn := fnV 1 w_states_many
theorem ok_states_many (M : Md K mg) : FnOk P w K mg base CX0 2 (He.ga K "states_many") M.d_states_many ["many"] (spV (GG K w (tapeT tp)) 1 f_states_many) := by
  refine fn_okD (N := ["many"]) (ws := w_states_many) M.F_states_many sc_states_many rfl fun cdv A outer s H E hr => ?_
  exact (ssv_one (sv_ret (ev_callB1 (cr_len rfl) rfl M.z_len PySem.boot_len (ov_e (ev_call (ok_all_states M) (hr.mono (by decide)) rfl M.g_all_states M.F_all_states.kp (b_all_states M) (lv_cons (ev_var (pv 0)) lv_nil))))))
theorem sc_need_rules : FnScope ["rules", "size", "index", "rule"] ["rules"] (defScope s_need_rules) := ⟨rfl, rfl, rfl, by decide +kernel, rfl, by decide +kernel, by decide +kernel⟩
theorem b_need_rules (M : Md K mg) : Binds K M.d_need_rules ["rules"] [] := M.F_need_rules.bindsN fun _ _ _ _ _ _ us hl => match us, hl with | [_], _ => rfl
theorem kw_need_rules (M : Md K mg) : Kw0 K M.d_need_rules ["rules"] := kw0_of M.F_need_rules fun _ _ _ _ _ _ us hl => match us, hl with | [_], _ => rfl
def w_need_rules : WS := (sSeq (sIf (tvOr (tvNot (tvV (vCall 1 f_is_list (lCons (vVar 0) lNil)))) (tvNot (tvV (vChain opLe opLe (.e (vC (.int 1))) (.e (vP1 opLen (.v 0))) (.e (vC (.int 5))))))) sNever sNil)
    (sSeq (sSet 1 (vCall 1 f_states_many (lCons (vP1 opLen (.v 0)) lNil)))
    (sFor (iEnumL (lCons (vVar 0) lNil)) (gT [2, 3]) (sIf (tvNot (tvV (vCall 4 f_is_tuple_of (lCons (vVar 3) (lCons (vVar 1) (lCons (vC (.int 0)) (lCons (vC (.int 1)) lNil))))))) sNever sNil))))
def f_need_rules : Fn := fnV 4 w_need_rules
theorem ok_need_rules (M : Md K mg) : FnOk P w K mg base CX0 4 (He.ga K "need_rules") M.d_need_rules ["rules"] (spV (GG K w (tapeT tp)) 1 f_need_rules) := by
  refine fn_okD (N := ["rules", "size", "index", "rule"]) (ws := w_need_rules) M.F_need_rules sc_need_rules rfl fun cdv A outer s H E hr => ?_
  exact (ssv_cons (sv_if (tw_pt (tw_or (tv_not (tv_val (ev_call (ok_is_list M) (hr.mono (by decide)) rfl M.g_is_list M.F_is_list.kp (b_is_list M) (lv_cons (ev_var (pv 0)) lv_nil)))) (tw_or1 (tv_not (tv_chain (or_le) (or_le) (ov_e ev_int) (ov_e (ev_callB1 (cr_len rfl) rfl M.z_len PySem.boot_len (ov_v (pv 0)))) (ov_e (ev_c (C8.pe_gc rfl M.c_MOST_SWITCHES) fun _ _ => .int _))))))) (ssv_one sv_never) ssv_nil)
    (ssv_cons (sv_set (i := 1) sc_need_rules.nd rfl (by first | exact .inl rfl | exact .inr rfl) (ev_call (ok_states_many M) (hr.mono (by decide)) rfl M.g_states_many M.F_states_many.kp (b_states_many M) (lv_cons (ev_callB1 (cr_len rfl) rfl M.z_len PySem.boot_len (ov_v (pv 0))) lv_nil)))
    (ssv_one (sv_for PassesOwn.never rfl (iv_enumL rfl M.z_enumerate (lv_cons (ev_var (pv 0)) lv_nil)) (gv_tup rfl (gsv_cons (i := 2) sc_need_rules.nd rfl (by first | exact .inl rfl | exact .inr rfl) (gsv_cons (i := 3) sc_need_rules.nd rfl (by first | exact .inl rfl | exact .inr rfl) gsv_nil))) (ssv_one (sv_if (tv_not (tv_val (ev_call (ok_is_tuple_of M) (hr.mono (by decide)) rfl M.g_is_tuple_of M.F_is_tuple_of.kp (b_is_tuple_of M) (lv_cons (ev_var (pv 3)) (lv_cons (ev_var (pv 1)) (lv_cons ev_int (lv_cons ev_int lv_nil))))))) (ssv_one sv_never) ssv_nil))))))
theorem sc_Net_init : FnScope ["self", "rules", "nexts", "index", "state", "rule"] ["self", "rules"] (defScope s_Net_init) := ⟨rfl, rfl, rfl, by decide +kernel, rfl, by decide +kernel, by decide +kernel⟩
theorem b_Net_init (M : Md K mg) : Binds K M.d_Net_init ["self", "rules"] [] := M.F_Net_init.bindsN fun _ _ _ _ _ _ us hl => match us, hl with | [_, _], _ => rfl
theorem kw_Net_init (M : Md K mg) : Kw0 K M.d_Net_init ["self", "rules"] := kw0_of M.F_Net_init fun _ _ _ _ _ _ us hl => match us, hl with | [_, _], _ => rfl
def w_Net_init : WS := (sSeq (sExpr (vCall 1 f_need_rules (lCons (vVar 1) lNil)))
    (sSeq (sSetFld 0 0 "own_rules" (vP1 opTuple (.v 1)))
    (sSeq (sSet 2 vDnew)
    (sSeq (sFor (iEnumL (lCons (vCall 1 f_all_states (lCons (vP1 opLen (.v 1)) lNil)) lNil)) (gT [3, 4]) (sSetIdx 2 (.v 4) (vP1 opTuple (.e (vLc (iSeq (vVar 1)) (gN 5) tvYes (vP2 opIdx (.v 5) (.v 3)) [5])))))
    (sSetFld 0 0 "own_nexts" (vVar 2))))))
def f_Net_init : Fi := fnI 0 6 w_Net_init
theorem ok_Net_init (M : Md K mg) : FnOk P w K mg base CX0 5 (He.ma K (He.ga K "Net") "__init__") M.d_Net_init ["self", "rules"] (spI (GG K w (tapeT tp)) 0 1 f_Net_init) := by
  refine fn_initD (N := ["self", "rules", "nexts", "index", "state", "rule"]) (ws := w_Net_init) M.F_Net_init sc_Net_init rfl (by decide) fun cdv A outer s H E hr => ?_
  exact (ssv_cons (sv_expr (ev_call (ok_need_rules M) (hr.mono (by decide)) rfl M.g_need_rules M.F_need_rules.kp (b_need_rules M) (lv_cons (ev_var (pv 1)) lv_nil)))
    (ssv_cons (sv_setFld (pv 0) (ev_callTy1 (cr_tuple) rfl M.z_tuple (by decide +kernel) (ov_v (pv 1))) M.cl M.n_own_rules)
    (ssv_cons (sv_set (i := 2) sc_Net_init.nd rfl (by first | exact .inl rfl | exact .inr rfl) ev_dnew)
    (ssv_cons (sv_for PassesOwn.never rfl (iv_enumL rfl M.z_enumerate (lv_cons (ev_call (ok_all_states M) (hr.mono (by decide)) rfl M.g_all_states M.F_all_states.kp (b_all_states M) (lv_cons (ev_callB1 (cr_len rfl) rfl M.z_len PySem.boot_len (ov_v (pv 1))) lv_nil)) lv_nil)) (gv_tup rfl (gsv_cons (i := 3) sc_Net_init.nd rfl (by first | exact .inl rfl | exact .inr rfl) (gsv_cons (i := 4) sc_Net_init.nd rfl (by first | exact .inl rfl | exact .inr rfl) gsv_nil))) (ssv_one (sv_setIdx rfl (hu_of hr) (pv 2) (ov_v (pv 4)) (ev_callTy1 (cr_tuple) rfl M.z_tuple (by decide +kernel) (ov_e (ev_lc (own := [("rule", 5)]) (is := [5]) rfl sc_Net_init.nd (iv_list (ev_var (pv 1))) (blkOk_by (by kernel_rfl)) (by decide) (fun _ _ _ _ _ => (gv_name (i := 5) sc_Net_init.nd rfl (by first | exact .inl rfl | exact .inr rfl))) (fun _ _ _ _ _ => tsv_nil) (fun _ _ _ _ _ => (ev_idx rfl (hu_of hr) (ov_v (pv 5)) (ov_v (pv 3))))))))))
    (ssv_one (sv_setFld (pv 0) (ev_var (pv 2)) M.cl M.n_own_nexts))))))
theorem sc_Net_switches : FnScope ["self"] ["self"] (defScope s_Net_switches) := ⟨rfl, rfl, rfl, by decide +kernel, rfl, by decide +kernel, by decide +kernel⟩
theorem b_Net_switches (M : Md K mg) : Binds K M.d_Net_switches ["self"] [] := M.F_Net_switches.bindsN fun _ _ _ _ _ _ us hl => match us, hl with | [_], _ => rfl
theorem kw_Net_switches (M : Md K mg) : Kw0 K M.d_Net_switches ["self"] := kw0_of M.F_Net_switches fun _ _ _ _ _ _ us hl => match us, hl with | [_], _ => rfl
def w_Net_switches : WS := (sRet (vP1 opLen (.e (vFld 0 "own_rules" (.v 0)))))
def f_Net_switches : Fn := fnV 1 w_Net_switches
theorem ok_Net_switches (M : Md K mg) : FnOk P w K mg base CX0 1 (getA K (He.ga K "Net") "switches") M.d_Net_switches ["self"] (spV (GG K w (tapeT tp)) 1 f_Net_switches) := by
  refine fn_okD (N := ["self"]) (ws := w_Net_switches) M.F_Net_switches sc_Net_switches rfl fun cdv A outer s H E hr => ?_
  exact (ssv_one (sv_ret (ev_callB1 (cr_len rfl) rfl M.z_len PySem.boot_len (ov_e (ev_fld (ov_v (pv 0)) M.cl M.n_own_rules)))))
theorem sc_Net_rules : FnScope ["self"] ["self"] (defScope s_Net_rules) := ⟨rfl, rfl, rfl, by decide +kernel, rfl, by decide +kernel, by decide +kernel⟩
theorem b_Net_rules (M : Md K mg) : Binds K M.d_Net_rules ["self"] [] := M.F_Net_rules.bindsN fun _ _ _ _ _ _ us hl => match us, hl with | [_], _ => rfl
theorem kw_Net_rules (M : Md K mg) : Kw0 K M.d_Net_rules ["self"] := kw0_of M.F_Net_rules fun _ _ _ _ _ _ us hl => match us, hl with | [_], _ => rfl
def w_Net_rules : WS := (sRet (vFld 0 "own_rules" (.v 0)))
def f_Net_rules : Fn := fnV 1 w_Net_rules
theorem ok_Net_rules (M : Md K mg) : FnOk P w K mg base CX0 1 (getA K (He.ga K "Net") "rules") M.d_Net_rules ["self"] (spV (GG K w (tapeT tp)) 1 f_Net_rules) := by
  refine fn_okD (N := ["self"]) (ws := w_Net_rules) M.F_Net_rules sc_Net_rules rfl fun cdv A outer s H E hr => ?_
  exact (ssv_one (sv_ret (ev_fld (ov_v (pv 0)) M.cl M.n_own_rules)))
theorem sc_Net_eq : FnScope ["self", "other"] ["self", "other"] (defScope s_Net_eq) := ⟨rfl, rfl, rfl, by decide +kernel, rfl, by decide +kernel, by decide +kernel⟩
theorem b_Net_eq (M : Md K mg) : Binds K M.d_Net_eq ["self", "other"] [] := M.F_Net_eq.bindsN fun _ _ _ _ _ _ us hl => match us, hl with | [_, _], _ => rfl
theorem kw_Net_eq (M : Md K mg) : Kw0 K M.d_Net_eq ["self", "other"] := kw0_of M.F_Net_eq fun _ _ _ _ _ _ us hl => match us, hl with | [_, _], _ => rfl
def w_Net_eq : WS := (sRet (vAnd (vP1 (opIsiO 0) (.v 1)) (vP2 opEq (.e (vFld 0 "own_rules" (.v 0))) (.e (vFld 0 "own_rules" (.v 1))))))
def f_Net_eq : Fn := fnV 2 w_Net_eq
theorem ok_Net_eq (M : Md K mg) : FnOk P w K mg base CX0 1 (He.ma K (He.ga K "Net") "__eq__") M.d_Net_eq ["self", "other"] (spV (GG K w (tapeT tp)) 2 f_Net_eq) := by
  refine fn_okD (N := ["self", "other"]) (ws := w_Net_eq) M.F_Net_eq sc_Net_eq rfl fun cdv A outer s H E hr => ?_
  exact (ssv_one (sv_ret (ev_and (ev_isiO rfl M.z_isinstance (PV.ownC_of M.cl M.o_cls) (ov_v (pv 1)) (pe_glob rfl M.g_Net rfl)) (ev_one (ev_cmp (or_eq (hu64 hr)) (ov_e (ev_fld (ov_v (pv 0)) M.cl M.n_own_rules)) (ov_e (ev_fld (ov_v (pv 1)) M.cl M.n_own_rules)))))))
theorem sc_need_net : FnScope ["net", "part"] ["net", "part"] (defScope s_need_net) := ⟨rfl, rfl, rfl, by decide +kernel, rfl, by decide +kernel, by decide +kernel⟩
theorem bd_need_net (M : Md K mg) : ∃ ds, Vals [.non] ds ∧ Binds K M.d_need_net ["net", "part"] ds := M.F_need_net.binds1 1 0 (by simp) rfl fun _ _ _ _ _ _ _ us its hl h2 => match us, its, hl, h2 with | [_], [_], _, _ => ⟨_, rfl, rfl⟩
def w_need_net : WS := (sIf (tvNot (tvV (vP1 (opIsiO 0) (.v 0)))) sNever sNil)
def f_need_net : Fn := fnV 2 w_need_net
theorem ok_need_net (M : Md K mg) : FnOk P w K mg base CX0 1 (He.ga K "need_net") M.d_need_net ["net", "part"] (spV (GG K w (tapeT tp)) 2 f_need_net) := by
  refine fn_okD (N := ["net", "part"]) (ws := w_need_net) M.F_need_net sc_need_net rfl fun cdv A outer s H E hr => ?_
  exact (ssv_one (sv_if (tv_not (tv_val (ev_isiO rfl M.z_isinstance (PV.ownC_of M.cl M.o_cls) (ov_v (pv 0)) (pe_glob rfl M.g_Net rfl)))) (ssv_one sv_never) ssv_nil))
theorem sc_is_state : FnScope ["many", "thing"] ["many", "thing"] (defScope s_is_state) := ⟨rfl, rfl, rfl, by decide +kernel, rfl, by decide +kernel, by decide +kernel⟩
theorem b_is_state (M : Md K mg) : Binds K M.d_is_state ["many", "thing"] [] := M.F_is_state.bindsN fun _ _ _ _ _ _ us hl => match us, hl with | [_, _], _ => rfl
theorem kw_is_state (M : Md K mg) : Kw0 K M.d_is_state ["many", "thing"] := kw0_of M.F_is_state fun _ _ _ _ _ _ us hl => match us, hl with | [_, _], _ => rfl
def w_is_state : WS := (sRet (vCall 4 f_is_tuple_of (lCons (vVar 1) (lCons (vVar 0) (lCons (vC (.int 0)) (lCons (vC (.int 1)) lNil))))))
def f_is_state : Fn := fnV 2 w_is_state
theorem ok_is_state (M : Md K mg) : FnOk P w K mg base CX0 4 (He.ga K "is_state") M.d_is_state ["many", "thing"] (spV (GG K w (tapeT tp)) 2 f_is_state) := by
  refine fn_okD (N := ["many", "thing"]) (ws := w_is_state) M.F_is_state sc_is_state rfl fun cdv A outer s H E hr => ?_
  exact (ssv_one (sv_ret (ev_call (ok_is_tuple_of M) (hr.mono (by decide)) rfl M.g_is_tuple_of M.F_is_tuple_of.kp (b_is_tuple_of M) (lv_cons (ev_var (pv 1)) (lv_cons (ev_var (pv 0)) (lv_cons ev_int (lv_cons ev_int lv_nil)))))))
theorem sc_need_state : FnScope ["net", "state"] ["net", "state"] (defScope s_need_state) := ⟨rfl, rfl, rfl, by decide +kernel, rfl, by decide +kernel, by decide +kernel⟩
theorem b_need_state (M : Md K mg) : Binds K M.d_need_state ["net", "state"] [] := M.F_need_state.bindsN fun _ _ _ _ _ _ us hl => match us, hl with | [_, _], _ => rfl
theorem kw_need_state (M : Md K mg) : Kw0 K M.d_need_state ["net", "state"] := kw0_of M.F_need_state fun _ _ _ _ _ _ us hl => match us, hl with | [_, _], _ => rfl
def w_need_state : WS := (sIf (tvNot (tvV (vCall 2 f_is_state (lCons (vProp 0 f_Net_switches (vVar 0)) (lCons (vVar 1) lNil))))) sNever sNil)
def f_need_state : Fn := fnV 2 w_need_state
theorem ok_need_state (M : Md K mg) : FnOk P w K mg base CX0 5 (He.ga K "need_state") M.d_need_state ["net", "state"] (spV (GG K w (tapeT tp)) 2 f_need_state) := by
  refine fn_okD (N := ["net", "state"]) (ws := w_need_state) M.F_need_state sc_need_state rfl fun cdv A outer s H E hr => ?_
  exact (ssv_one (sv_if (tv_not (tv_val (ev_call (ok_is_state M) (hr.mono (by decide)) rfl M.g_is_state M.F_is_state.kp (b_is_state M) (lv_cons (ev_prop (ev_var (pv 0)) M.cl (PV.prop_of M.p_switches) (ok_Net_switches M) (hr.mono (by decide)) (b_Net_switches M)) (lv_cons (ev_var (pv 1)) lv_nil))))) (ssv_one sv_never) ssv_nil))
theorem sc_need_net_state : FnScope ["net", "state"] ["net", "state"] (defScope s_need_net_state) := ⟨rfl, rfl, rfl, by decide +kernel, rfl, by decide +kernel, by decide +kernel⟩
theorem b_need_net_state (M : Md K mg) : Binds K M.d_need_net_state ["net", "state"] [] := M.F_need_net_state.bindsN fun _ _ _ _ _ _ us hl => match us, hl with | [_, _], _ => rfl
theorem kw_need_net_state (M : Md K mg) : Kw0 K M.d_need_net_state ["net", "state"] := kw0_of M.F_need_net_state fun _ _ _ _ _ _ us hl => match us, hl with | [_, _], _ => rfl
def w_need_net_state : WS := (sSeq (sExpr (vCallD 2 f_need_net [.non] (lCons (vVar 0) lNil)))
    (sExpr (vCall 2 f_need_state (lCons (vVar 0) (lCons (vVar 1) lNil)))))
def f_need_net_state : Fn := fnV 2 w_need_net_state
theorem ok_need_net_state (M : Md K mg) : FnOk P w K mg base CX0 6 (He.ga K "need_net_state") M.d_need_net_state ["net", "state"] (spV (GG K w (tapeT tp)) 2 f_need_net_state) := by
  refine fn_okD (N := ["net", "state"]) (ws := w_need_net_state) M.F_need_net_state sc_need_net_state rfl fun cdv A outer s H E hr => ?_
  exact (ssv_cons (sv_expr (ev_callD (ok_need_net M) (hr.mono (by decide)) rfl M.g_need_net M.F_need_net.kp (bd_need_net M).choose_spec.2 (bd_need_net M).choose_spec.1 (fun _ _ => .cons .non .nil) (lv_cons (ev_var (pv 0)) lv_nil)))
    (ssv_one (sv_expr (ev_call (ok_need_state M) (hr.mono (by decide)) rfl M.g_need_state M.F_need_state.kp (b_need_state M) (lv_cons (ev_var (pv 0)) (lv_cons (ev_var (pv 1)) lv_nil))))))
theorem sc_next_by : FnScope ["net", "state"] ["net", "state"] (defScope s_next_by) := ⟨rfl, rfl, rfl, by decide +kernel, rfl, by decide +kernel, by decide +kernel⟩
theorem b_next_by (M : Md K mg) : Binds K M.d_next_by ["net", "state"] [] := M.F_next_by.bindsN fun _ _ _ _ _ _ us hl => match us, hl with | [_, _], _ => rfl
theorem kw_next_by (M : Md K mg) : Kw0 K M.d_next_by ["net", "state"] := kw0_of M.F_next_by fun _ _ _ _ _ _ us hl => match us, hl with | [_, _], _ => rfl
def w_next_by : WS := (sRet (vP2 opIdx (.e (vFld 0 "own_nexts" (.v 0))) (.v 1)))
def f_next_by : Fn := fnV 2 w_next_by
theorem ok_next_by (M : Md K mg) : FnOk P w K mg base CX0 1 (He.ga K "next_by") M.d_next_by ["net", "state"] (spV (GG K w (tapeT tp)) 2 f_next_by) := by
  refine fn_okD (N := ["net", "state"]) (ws := w_next_by) M.F_next_by sc_next_by rfl fun cdv A outer s H E hr => ?_
  exact (ssv_one (sv_ret (ev_idx rfl (hu_of hr) (ov_e (ev_fld (ov_v (pv 0)) M.cl M.n_own_nexts)) (ov_v (pv 1)))))
theorem sc_next_state : FnScope ["net", "state"] ["net", "state"] (defScope s_next_state) := ⟨rfl, rfl, rfl, by decide +kernel, rfl, by decide +kernel, by decide +kernel⟩
theorem b_next_state (M : Md K mg) : Binds K M.d_next_state ["net", "state"] [] := M.F_next_state.bindsN fun _ _ _ _ _ _ us hl => match us, hl with | [_, _], _ => rfl
theorem kw_next_state (M : Md K mg) : Kw0 K M.d_next_state ["net", "state"] := kw0_of M.F_next_state fun _ _ _ _ _ _ us hl => match us, hl with | [_, _], _ => rfl
def w_next_state : WS := (sSeq (sExpr (vCall 2 f_need_net_state (lCons (vVar 0) (lCons (vVar 1) lNil))))
    (sRet (vCall 2 f_next_by (lCons (vVar 0) (lCons (vVar 1) lNil)))))
def f_next_state : Fn := fnV 2 w_next_state
theorem ok_next_state (M : Md K mg) : FnOk P w K mg base CX0 7 (He.ga K "next_state") M.d_next_state ["net", "state"] (spV (GG K w (tapeT tp)) 2 f_next_state) := by
  refine fn_okD (N := ["net", "state"]) (ws := w_next_state) M.F_next_state sc_next_state rfl fun cdv A outer s H E hr => ?_
  exact (ssv_cons (sv_expr (ev_call (ok_need_net_state M) (hr.mono (by decide)) rfl M.g_need_net_state M.F_need_net_state.kp (b_need_net_state M) (lv_cons (ev_var (pv 0)) (lv_cons (ev_var (pv 1)) lv_nil))))
    (ssv_one (sv_ret (ev_call (ok_next_by M) (hr.mono (by decide)) rfl M.g_next_by M.F_next_by.kp (b_next_by M) (lv_cons (ev_var (pv 0)) (lv_cons (ev_var (pv 1)) lv_nil))))))
theorem sc_beat_track : FnScope ["net", "state", "found", "line"] ["net", "state"] (defScope s_beat_track) := ⟨rfl, rfl, rfl, by decide +kernel, rfl, by decide +kernel, by decide +kernel⟩
theorem b_beat_track (M : Md K mg) : Binds K M.d_beat_track ["net", "state"] [] := M.F_beat_track.bindsN fun _ _ _ _ _ _ us hl => match us, hl with | [_, _], _ => rfl
theorem kw_beat_track (M : Md K mg) : Kw0 K M.d_beat_track ["net", "state"] := kw0_of M.F_beat_track fun _ _ _ _ _ _ us hl => match us, hl with | [_, _], _ => rfl
def w_beat_track : WS := (sSeq (sPar2 2 3 (mCons vDnew (mCons (vLst lNil) mNil)))
    (sSeq (sWhile (tvV (vP2 opNotIn (.v 1) (.v 2))) (sSeq (sSetIdx 2 (.v 1) (vP1 opLen (.v 3)))
    (sSeq (sExpr (vAppend 3 (vVar 1)))
    (sSet 1 (vCall 2 f_next_by (lCons (vVar 0) (lCons (vVar 1) lNil)))))))
    (sRet (vTup (lCons (vP1 opTuple (.e (vCut (.v 3) .no (.e (vP2 opIdx (.v 2) (.v 1)))))) (lCons (vP1 opTuple (.e (vCut (.v 3) (.e (vP2 opIdx (.v 2) (.v 1))) .no))) lNil))))))
def f_beat_track : Fn := fnV 4 w_beat_track
theorem ok_beat_track (M : Md K mg) : FnOk P w K mg base CX0 2 (He.ga K "beat_track") M.d_beat_track ["net", "state"] (spV (GG K w (tapeT tp)) 2 f_beat_track) := by
  refine fn_okD (N := ["net", "state", "found", "line"]) (ws := w_beat_track) M.F_beat_track sc_beat_track rfl fun cdv A outer s H E hr => ?_
  exact (ssv_cons (sv_par2 (i := 2) (j := 3) rfl sc_beat_track.nd rfl rfl (by decide) rfl rfl (mv_cons ev_dnew (mv_cons (ev_lst lv_nil) mv_nil)))
    (ssv_cons (sv_while PassesOwn.never (tv_cmp (or_notIn rfl (hu_of hr)) (ov_v (pv 1)) (ov_v (pv 2))) (ssv_cons (sv_setIdx rfl (hu_of hr) (pv 2) (ov_v (pv 1)) (ev_callB1 (cr_len rfl) rfl M.z_len PySem.boot_len (ov_v (pv 3))))
    (ssv_cons (sv_expr (ev_append (pv 3) (ev_var (pv 1))))
    (ssv_one (sv_set (i := 1) sc_beat_track.nd rfl (by first | exact .inl rfl | exact .inr rfl) (ev_call (ok_next_by M) (hr.mono (by decide)) rfl M.g_next_by M.F_next_by.kp (b_next_by M) (lv_cons (ev_var (pv 0)) (lv_cons (ev_var (pv 1)) lv_nil))))))))
    (ssv_one (sv_ret (ev_tup (lv_cons (ev_callTy1 (cr_tuple) rfl M.z_tuple (by decide +kernel) (ov_e (ev_cut (ov_v (pv 3)) pv_no (pv_e (ev_idx rfl (hu_of hr) (ov_v (pv 2)) (ov_v (pv 1))))))) (lv_cons (ev_callTy1 (cr_tuple) rfl M.z_tuple (by decide +kernel) (ov_e (ev_cut (ov_v (pv 3)) (pv_e (ev_idx rfl (hu_of hr) (ov_v (pv 2)) (ov_v (pv 1)))) pv_no))) lv_nil)))))))
theorem sc_beat_run : FnScope ["net", "state"] ["net", "state"] (defScope s_beat_run) := ⟨rfl, rfl, rfl, by decide +kernel, rfl, by decide +kernel, by decide +kernel⟩
theorem b_beat_run (M : Md K mg) : Binds K M.d_beat_run ["net", "state"] [] := M.F_beat_run.bindsN fun _ _ _ _ _ _ us hl => match us, hl with | [_, _], _ => rfl
theorem kw_beat_run (M : Md K mg) : Kw0 K M.d_beat_run ["net", "state"] := kw0_of M.F_beat_run fun _ _ _ _ _ _ us hl => match us, hl with | [_, _], _ => rfl
def w_beat_run : WS := (sSeq (sExpr (vCall 2 f_need_net_state (lCons (vVar 0) (lCons (vVar 1) lNil))))
    (sRet (vCall 2 f_beat_track (lCons (vVar 0) (lCons (vVar 1) lNil)))))
def f_beat_run : Fn := fnV 2 w_beat_run
theorem ok_beat_run (M : Md K mg) : FnOk P w K mg base CX0 7 (He.ga K "beat_run") M.d_beat_run ["net", "state"] (spV (GG K w (tapeT tp)) 2 f_beat_run) := by
  refine fn_okD (N := ["net", "state"]) (ws := w_beat_run) M.F_beat_run sc_beat_run rfl fun cdv A outer s H E hr => ?_
  exact (ssv_cons (sv_expr (ev_call (ok_need_net_state M) (hr.mono (by decide)) rfl M.g_need_net_state M.F_need_net_state.kp (b_need_net_state M) (lv_cons (ev_var (pv 0)) (lv_cons (ev_var (pv 1)) lv_nil))))
    (ssv_one (sv_ret (ev_call (ok_beat_track M) (hr.mono (by decide)) rfl M.g_beat_track M.F_beat_track.kp (b_beat_track M) (lv_cons (ev_var (pv 0)) (lv_cons (ev_var (pv 1)) lv_nil))))))
theorem sc_state_after : FnScope ["net", "state", "times", "tail", "ring"] ["net", "state", "times"] (defScope s_state_after) := ⟨rfl, rfl, rfl, by decide +kernel, rfl, by decide +kernel, by decide +kernel⟩
theorem b_state_after (M : Md K mg) : Binds K M.d_state_after ["net", "state", "times"] [] := M.F_state_after.bindsN fun _ _ _ _ _ _ us hl => match us, hl with | [_, _, _], _ => rfl
theorem kw_state_after (M : Md K mg) : Kw0 K M.d_state_after ["net", "state", "times"] := kw0_of M.F_state_after fun _ _ _ _ _ _ us hl => match us, hl with | [_, _, _], _ => rfl
def w_state_after : WS := (sSeq (sAsg (gT [3, 4]) (vCall 2 f_beat_track (lCons (vVar 0) (lCons (vVar 1) lNil))))
    (sRet (vIf (tvV (vP2 opLt (.v 2) (.e (vP1 opLen (.v 3))))) (vP2 opIdx (.v 3) (.v 2)) (vP2 opIdx (.v 4) (.e (vP2 opMod (.e (vP2 opSub (.v 2) (.e (vP1 opLen (.v 3))))) (.e (vP1 opLen (.v 4)))))))))
def f_state_after : Fn := fnV 5 w_state_after
theorem ok_state_after (M : Md K mg) : FnOk P w K mg base CX0 3 (He.ga K "state_after") M.d_state_after ["net", "state", "times"] (spV (GG K w (tapeT tp)) 3 f_state_after) := by
  refine fn_okD (N := ["net", "state", "times", "tail", "ring"]) (ws := w_state_after) M.F_state_after sc_state_after rfl fun cdv A outer s H E hr => ?_
  exact (ssv_cons (sv_asg (ev_call (ok_beat_track M) (hr.mono (by decide)) rfl M.g_beat_track M.F_beat_track.kp (b_beat_track M) (lv_cons (ev_var (pv 0)) (lv_cons (ev_var (pv 1)) lv_nil))) (gv_tup rfl (gsv_cons (i := 3) sc_state_after.nd rfl (by first | exact .inl rfl | exact .inr rfl) (gsv_cons (i := 4) sc_state_after.nd rfl (by first | exact .inl rfl | exact .inr rfl) gsv_nil))))
    (ssv_one (sv_ret (ev_if (tv_cmp (or_lt) (ov_v (pv 2)) (ov_e (ev_callB1 (cr_len rfl) rfl M.z_len PySem.boot_len (ov_v (pv 3))))) (ev_idx rfl (hu_of hr) (ov_v (pv 3)) (ov_v (pv 2))) (ev_idx rfl (hu_of hr) (ov_v (pv 4)) (ov_e (ev_op or_mod (ov_e (ev_op or_sub (ov_v (pv 2)) (ov_e (ev_callB1 (cr_len rfl) rfl M.z_len PySem.boot_len (ov_v (pv 3)))))) (ov_e (ev_callB1 (cr_len rfl) rfl M.z_len PySem.boot_len (ov_v (pv 4)))))))))))
theorem sc_need_times : FnScope ["times"] ["times"] (defScope s_need_times) := ⟨rfl, rfl, rfl, by decide +kernel, rfl, by decide +kernel, by decide +kernel⟩
theorem b_need_times (M : Md K mg) : Binds K M.d_need_times ["times"] [] := M.F_need_times.bindsN fun _ _ _ _ _ _ us hl => match us, hl with | [_], _ => rfl
theorem kw_need_times (M : Md K mg) : Kw0 K M.d_need_times ["times"] := kw0_of M.F_need_times fun _ _ _ _ _ _ us hl => match us, hl with | [_], _ => rfl
def w_need_times : WS := (sIf (tvNot (tvV (vCall 3 f_is_between (lCons (vVar 0) (lCons (vC (.int 0)) (lCons (vC (.int 1000000000000000000)) lNil)))))) sNever sNil)
def f_need_times : Fn := fnV 1 w_need_times
theorem ok_need_times (M : Md K mg) : FnOk P w K mg base CX0 3 (He.ga K "need_times") M.d_need_times ["times"] (spV (GG K w (tapeT tp)) 1 f_need_times) := by
  refine fn_okD (N := ["times"]) (ws := w_need_times) M.F_need_times sc_need_times rfl fun cdv A outer s H E hr => ?_
  exact (ssv_one (sv_if (tv_not (tv_val (ev_call (ok_is_between M) (hr.mono (by decide)) rfl M.g_is_between M.F_is_between.kp (b_is_between M) (lv_cons (ev_var (pv 0)) (lv_cons ev_int (lv_cons (ev_c (C8.pe_gc rfl M.c_MOST_TIMES) fun _ _ => .int _) lv_nil)))))) (ssv_one sv_never) ssv_nil))
theorem sc_after : FnScope ["net", "state", "times"] ["net", "state", "times"] (defScope s_after) := ⟨rfl, rfl, rfl, by decide +kernel, rfl, by decide +kernel, by decide +kernel⟩
theorem b_after (M : Md K mg) : Binds K M.d_after ["net", "state", "times"] [] := M.F_after.bindsN fun _ _ _ _ _ _ us hl => match us, hl with | [_, _, _], _ => rfl
theorem kw_after (M : Md K mg) : Kw0 K M.d_after ["net", "state", "times"] := kw0_of M.F_after fun _ _ _ _ _ _ us hl => match us, hl with | [_, _, _], _ => rfl
def w_after : WS := (sSeq (sExpr (vCall 2 f_need_net_state (lCons (vVar 0) (lCons (vVar 1) lNil))))
    (sSeq (sExpr (vCall 1 f_need_times (lCons (vVar 2) lNil)))
    (sRet (vCall 3 f_state_after (lCons (vVar 0) (lCons (vVar 1) (lCons (vVar 2) lNil)))))))
def f_after : Fn := fnV 3 w_after
theorem ok_after (M : Md K mg) : FnOk P w K mg base CX0 7 (He.ga K "after") M.d_after ["net", "state", "times"] (spV (GG K w (tapeT tp)) 3 f_after) := by
  refine fn_okD (N := ["net", "state", "times"]) (ws := w_after) M.F_after sc_after rfl fun cdv A outer s H E hr => ?_
  exact (ssv_cons (sv_expr (ev_call (ok_need_net_state M) (hr.mono (by decide)) rfl M.g_need_net_state M.F_need_net_state.kp (b_need_net_state M) (lv_cons (ev_var (pv 0)) (lv_cons (ev_var (pv 1)) lv_nil))))
    (ssv_cons (sv_expr (ev_call (ok_need_times M) (hr.mono (by decide)) rfl M.g_need_times M.F_need_times.kp (b_need_times M) (lv_cons (ev_var (pv 2)) lv_nil)))
    (ssv_one (sv_ret (ev_call (ok_state_after M) (hr.mono (by decide)) rfl M.g_state_after M.F_state_after.kp (b_state_after M) (lv_cons (ev_var (pv 0)) (lv_cons (ev_var (pv 1)) (lv_cons (ev_var (pv 2)) lv_nil))))))))
theorem sc_need_two_states : FnScope ["net", "one", "other"] ["net", "one", "other"] (defScope s_need_two_states) := ⟨rfl, rfl, rfl, by decide +kernel, rfl, by decide +kernel, by decide +kernel⟩
theorem b_need_two_states (M : Md K mg) : Binds K M.d_need_two_states ["net", "one", "other"] [] := M.F_need_two_states.bindsN fun _ _ _ _ _ _ us hl => match us, hl with | [_, _, _], _ => rfl
theorem kw_need_two_states (M : Md K mg) : Kw0 K M.d_need_two_states ["net", "one", "other"] := kw0_of M.F_need_two_states fun _ _ _ _ _ _ us hl => match us, hl with | [_, _, _], _ => rfl
def w_need_two_states : WS := (sSeq (sExpr (vCallD 2 f_need_net [.non] (lCons (vVar 0) lNil)))
    (sSeq (sExpr (vCall 2 f_need_state (lCons (vVar 0) (lCons (vVar 1) lNil))))
    (sExpr (vCall 2 f_need_state (lCons (vVar 0) (lCons (vVar 2) lNil))))))
def f_need_two_states : Fn := fnV 3 w_need_two_states
theorem ok_need_two_states (M : Md K mg) : FnOk P w K mg base CX0 6 (He.ga K "need_two_states") M.d_need_two_states ["net", "one", "other"] (spV (GG K w (tapeT tp)) 3 f_need_two_states) := by
  refine fn_okD (N := ["net", "one", "other"]) (ws := w_need_two_states) M.F_need_two_states sc_need_two_states rfl fun cdv A outer s H E hr => ?_
  exact (ssv_cons (sv_expr (ev_callD (ok_need_net M) (hr.mono (by decide)) rfl M.g_need_net M.F_need_net.kp (bd_need_net M).choose_spec.2 (bd_need_net M).choose_spec.1 (fun _ _ => .cons .non .nil) (lv_cons (ev_var (pv 0)) lv_nil)))
    (ssv_cons (sv_expr (ev_call (ok_need_state M) (hr.mono (by decide)) rfl M.g_need_state M.F_need_state.kp (b_need_state M) (lv_cons (ev_var (pv 0)) (lv_cons (ev_var (pv 1)) lv_nil))))
    (ssv_one (sv_expr (ev_call (ok_need_state M) (hr.mono (by decide)) rfl M.g_need_state M.F_need_state.kp (b_need_state M) (lv_cons (ev_var (pv 0)) (lv_cons (ev_var (pv 2)) lv_nil)))))))
theorem sc_time_by : FnScope ["net", "one", "other", "tail", "ring", "line"] ["net", "one", "other"] (defScope s_time_by) := ⟨rfl, rfl, rfl, by decide +kernel, rfl, by decide +kernel, by decide +kernel⟩
theorem b_time_by (M : Md K mg) : Binds K M.d_time_by ["net", "one", "other"] [] := M.F_time_by.bindsN fun _ _ _ _ _ _ us hl => match us, hl with | [_, _, _], _ => rfl
theorem kw_time_by (M : Md K mg) : Kw0 K M.d_time_by ["net", "one", "other"] := kw0_of M.F_time_by fun _ _ _ _ _ _ us hl => match us, hl with | [_, _, _], _ => rfl
def w_time_by : WS := (sSeq (sAsg (gT [3, 4]) (vCall 2 f_beat_track (lCons (vVar 0) (lCons (vVar 1) lNil))))
    (sSeq (sSet 5 (vTup (lStar (.v 3) (lStar (.v 4) lNil))))
    (sRet (vIf (tvV (vP2 opIn (.v 2) (.v 5))) (vIndexT "tuple" (.v 5) (vVar 2)) (vC .non)))))
def f_time_by : Fn := fnV 6 w_time_by
theorem ok_time_by (M : Md K mg) : FnOk P w K mg base CX0 3 (He.ga K "time_by") M.d_time_by ["net", "one", "other"] (spV (GG K w (tapeT tp)) 3 f_time_by) := by
  refine fn_okD (N := ["net", "one", "other", "tail", "ring", "line"]) (ws := w_time_by) M.F_time_by sc_time_by rfl fun cdv A outer s H E hr => ?_
  exact (ssv_cons (sv_asg (ev_call (ok_beat_track M) (hr.mono (by decide)) rfl M.g_beat_track M.F_beat_track.kp (b_beat_track M) (lv_cons (ev_var (pv 0)) (lv_cons (ev_var (pv 1)) lv_nil))) (gv_tup rfl (gsv_cons (i := 3) sc_time_by.nd rfl (by first | exact .inl rfl | exact .inr rfl) (gsv_cons (i := 4) sc_time_by.nd rfl (by first | exact .inl rfl | exact .inr rfl) gsv_nil))))
    (ssv_cons (sv_set (i := 5) sc_time_by.nd rfl (by first | exact .inl rfl | exact .inr rfl) (ev_tup (lv_star (ov_v (pv 3)) (lv_star (ov_v (pv 4)) lv_nil))))
    (ssv_one (sv_ret (ev_if (tv_cmp (or_in rfl (hu_of hr)) (ov_v (pv 2)) (ov_v (pv 5))) (ev_index (.inr ⟨rfl, rfl⟩) PySem.F.plainAttrs_tuple PySem.F.slot_tuple_index PySem.F.type_tuple_index (hu_of hr) (ov_v (pv 5)) (ev_var (pv 2))) ev_non)))))
theorem sc_beat_time : FnScope ["net", "one", "other"] ["net", "one", "other"] (defScope s_beat_time) := ⟨rfl, rfl, rfl, by decide +kernel, rfl, by decide +kernel, by decide +kernel⟩
theorem b_beat_time (M : Md K mg) : Binds K M.d_beat_time ["net", "one", "other"] [] := M.F_beat_time.bindsN fun _ _ _ _ _ _ us hl => match us, hl with | [_, _, _], _ => rfl
theorem kw_beat_time (M : Md K mg) : Kw0 K M.d_beat_time ["net", "one", "other"] := kw0_of M.F_beat_time fun _ _ _ _ _ _ us hl => match us, hl with | [_, _, _], _ => rfl
def w_beat_time : WS := (sSeq (sExpr (vCall 3 f_need_two_states (lCons (vVar 0) (lCons (vVar 1) (lCons (vVar 2) lNil)))))
    (sRet (vCall 3 f_time_by (lCons (vVar 0) (lCons (vVar 1) (lCons (vVar 2) lNil))))))
def f_beat_time : Fn := fnV 3 w_beat_time
theorem ok_beat_time (M : Md K mg) : FnOk P w K mg base CX0 7 (He.ga K "beat_time") M.d_beat_time ["net", "one", "other"] (spV (GG K w (tapeT tp)) 3 f_beat_time) := by
  refine fn_okD (N := ["net", "one", "other"]) (ws := w_beat_time) M.F_beat_time sc_beat_time rfl fun cdv A outer s H E hr => ?_
  exact (ssv_cons (sv_expr (ev_call (ok_need_two_states M) (hr.mono (by decide)) rfl M.g_need_two_states M.F_need_two_states.kp (b_need_two_states M) (lv_cons (ev_var (pv 0)) (lv_cons (ev_var (pv 1)) (lv_cons (ev_var (pv 2)) lv_nil)))))
    (ssv_one (sv_ret (ev_call (ok_time_by M) (hr.mono (by decide)) rfl M.g_time_by M.F_time_by.kp (b_time_by M) (lv_cons (ev_var (pv 0)) (lv_cons (ev_var (pv 1)) (lv_cons (ev_var (pv 2)) lv_nil)))))))
theorem sc_longest_tail : FnScope ["net", "found", "state"] ["net"] (defScope s_longest_tail) := ⟨rfl, rfl, rfl, by decide +kernel, rfl, by decide +kernel, by decide +kernel⟩
theorem b_longest_tail (M : Md K mg) : Binds K M.d_longest_tail ["net"] [] := M.F_longest_tail.bindsN fun _ _ _ _ _ _ us hl => match us, hl with | [_], _ => rfl
theorem kw_longest_tail (M : Md K mg) : Kw0 K M.d_longest_tail ["net"] := kw0_of M.F_longest_tail fun _ _ _ _ _ _ us hl => match us, hl with | [_], _ => rfl
def w_longest_tail : WS := (sSeq (sExpr (vCallD 2 f_need_net [.non] (lCons (vVar 0) lNil)))
    (sSeq (sSet 1 (vLc (iSeq (vCall 1 f_all_states (lCons (vProp 0 f_Net_switches (vVar 0)) lNil))) (gN 2) tvYes (vTup (lCons (vP2 opSub (.e (vC (.int 0))) (.e (vP1 opLen (.e (vP2 opIdx (.e (vCall 2 f_beat_track (lCons (vVar 0) (lCons (vVar 2) lNil)))) (.e (vC (.int 0)))))))) (lCons (vVar 2) lNil))) [2]))
    (sRet (vTup (lCons (vP2 opSub (.e (vC (.int 0))) (.e (vP2 opIdx (.e (vP1 opMin (.v 1))) (.e (vC (.int 0)))))) (lCons (vP2 opIdx (.e (vP1 opMin (.v 1))) (.e (vC (.int 1)))) lNil))))))
def f_longest_tail : Fn := fnV 3 w_longest_tail
theorem ok_longest_tail (M : Md K mg) : FnOk P w K mg base CX0 3 (He.ga K "longest_tail") M.d_longest_tail ["net"] (spV (GG K w (tapeT tp)) 1 f_longest_tail) := by
  refine fn_okD (N := ["net", "found", "state"]) (ws := w_longest_tail) M.F_longest_tail sc_longest_tail rfl fun cdv A outer s H E hr => ?_
  exact (ssv_cons (sv_expr (ev_callD (ok_need_net M) (hr.mono (by decide)) rfl M.g_need_net M.F_need_net.kp (bd_need_net M).choose_spec.2 (bd_need_net M).choose_spec.1 (fun _ _ => .cons .non .nil) (lv_cons (ev_var (pv 0)) lv_nil)))
    (ssv_cons (sv_setLc (i := 1) (own := [("state", 2)]) (is := [2]) rfl sc_longest_tail.nd rfl rfl (sw_true rfl rfl rfl (by decide +kernel)) (iv_list (ev_call (ok_all_states M) (hr.mono (by decide)) rfl M.g_all_states M.F_all_states.kp (b_all_states M) (lv_cons (ev_prop (ev_var (pv 0)) M.cl (PV.prop_of M.p_switches) (ok_Net_switches M) (hr.mono (by decide)) (b_Net_switches M)) lv_nil))) (blkOk_by (by kernel_rfl)) (by decide) (fun _ _ _ _ _ => (gv_name (i := 2) sc_longest_tail.nd rfl (by first | exact .inl rfl | exact .inr rfl))) (fun _ _ _ _ _ => tsv_nil) (fun _ _ _ _ _ => (ev_tup (lv_cons (ev_op or_sub (ov_e ev_int) (ov_e (ev_callB1 (cr_len rfl) rfl M.z_len PySem.boot_len (ov_e (ev_idx rfl (hu_of hr) (ov_e (ev_call (ok_beat_track M) (hr.mono (by decide)) rfl M.g_beat_track M.F_beat_track.kp (b_beat_track M) (lv_cons (ev_var (pv 0)) (lv_cons (ev_var (pv 2)) lv_nil)))) (ov_e ev_int)))))) (lv_cons (ev_var (pv 2)) lv_nil)))))
    (ssv_one (sv_ret (ev_tup (lv_cons (ev_op or_sub (ov_e ev_int) (ov_e (ev_idx rfl (hu_of hr) (ov_e (ev_callB1 (PV.cr_min rfl (hu_of hr)) rfl M.z_min PyProof.Rows.boot_min (ov_v (pv 1)))) (ov_e ev_int)))) (lv_cons (ev_idx rfl (hu_of hr) (ov_e (ev_callB1 (PV.cr_min rfl (hu_of hr)) rfl M.z_min PyProof.Rows.boot_min (ov_v (pv 1)))) (ov_e ev_int)) lv_nil)))))))
theorem sc__law_blend : FnScope ["tape", "turn", "found", "great", "blended", "grain"] ["tape"] (defScope s__law_blend) := ⟨rfl, rfl, rfl, by decide +kernel, rfl, by decide +kernel, by decide +kernel⟩
theorem b__law_blend (M : Md K mg) : Binds K M.d__law_blend ["tape"] [] := M.F__law_blend.bindsN fun _ _ _ _ _ _ us hl => match us, hl with | [_], _ => rfl
theorem kw__law_blend (M : Md K mg) : Kw0 K M.d__law_blend ["tape"] := kw0_of M.F__law_blend fun _ _ _ _ _ _ us hl => match us, hl with | [_], _ => rfl
theorem ok__law_blend (M : Md K mg) : FnOk P w K mg base CX0 1 (He.ga K "_law_blend") M.d__law_blend ["tape"] (spV (GG K w (tapeT tp)) 1 f__law_blend) := by
  refine FnOk.weak (fn_okD (N := ["tape", "turn", "found", "great", "blended", "grain"]) (ws := (w__law_blend tp.ms)) M.F__law_blend sc__law_blend rfl fun cdv A outer s H E hr => ?_) s__law_blend_spec
  exact (ssv_cons (sv_tPut rfl (hu_of hr) (.inr rfl) (pv 0) (ev_op or_add (ov_e (ev_tInt rfl (hu_of hr) (.inr rfl) (pv 0))) (ov_e ev_int)))
    (ssv_cons (sv_par2 (i := 1) (j := 2) rfl sc__law_blend.nd rfl rfl (by decide) rfl rfl (mv_cons (ev_callTy1 (cr_int) rfl M.z_int (by decide +kernel) (ov_e (ev_tInt rfl (hu_of hr) (.inr rfl) (pv 0)))) (mv_cons ev_int mv_nil)))
    (ssv_cons (sv_for PassesOwn.never rfl (iv_list (ev_lst (lv_cons ev_int (lv_cons ev_int (lv_cons ev_int lv_nil))))) (gv_name (i := 3) sc__law_blend.nd rfl (by first | exact .inl rfl | exact .inr rfl)) (ssv_cons (sv_set (i := 4) sc__law_blend.nd rfl (by first | exact .inl rfl | exact .inr rfl) (ev_op or_mod (ov_e (ev_op or_add (ov_e (ev_op or_mul (ov_v (pv 1)) (ov_e ev_int))) (ov_e (ev_op or_div (ov_v (pv 3)) (ov_e ev_int))))) (ov_v (pv 3))))
    (ssv_cons (sv_for PassesOwn.never rfl (iv_tCells rfl (hu_of hr) (pv 0)) (gv_name (i := 5) sc__law_blend.nd rfl (by first | exact .inl rfl | exact .inr rfl)) (ssv_one (sv_set (i := 4) sc__law_blend.nd rfl (by first | exact .inl rfl | exact .inr rfl) (ev_op or_mod (ov_e (ev_op or_add (ov_e (ev_op or_mul (ov_v (pv 4)) (ov_e ev_int))) (ov_e (ev_callTy1 (cr_int) rfl M.z_int (by decide +kernel) (ov_v (pv 5)))))) (ov_v (pv 3))))))
    (ssv_one (sv_set (i := 2) sc__law_blend.nd rfl (by first | exact .inl rfl | exact .inr rfl) (ev_op or_add (ov_e (ev_op or_mul (ov_v (pv 2)) (ov_e ev_int))) (ov_e (ev_op or_mod (ov_e (ev_op or_pow (ov_v (pv 4)) (ov_e ev_int))) (ov_v (pv 3))))))))))
    (ssv_one (sv_ret (ev_move (pv 2)))))))
theorem sc__law_draw : FnScope ["tape", "size", "found"] ["tape", "size"] (defScope s__law_draw) := ⟨rfl, rfl, rfl, by decide +kernel, rfl, by decide +kernel, by decide +kernel⟩
theorem b__law_draw (M : Md K mg) : Binds K M.d__law_draw ["tape", "size"] [] := M.F__law_draw.bindsN fun _ _ _ _ _ _ us hl => match us, hl with | [_, _], _ => rfl
theorem kw__law_draw (M : Md K mg) : Kw0 K M.d__law_draw ["tape", "size"] := kw0_of M.F__law_draw fun _ _ _ _ _ _ us hl => match us, hl with | [_, _], _ => rfl
theorem ok__law_draw (M : Md K mg) : FnOk P w K mg base CX0 2 (He.ga K "_law_draw") M.d__law_draw ["tape", "size"] (spV (GG K w (tapeT tp)) 2 f__law_draw) := by
  refine FnOk.weak (fn_okD (N := ["tape", "size", "found"]) (ws := w__law_draw) M.F__law_draw sc__law_draw rfl fun cdv A outer s H E hr => ?_) s__law_draw_spec
  exact (ssv_cons (sv_if (tv_cmp (or_eq (hu64 hr)) (ov_e (ev_tInt rfl (hu_of hr) (.inl rfl) (pv 0))) (ov_e ev_int)) (ssv_one (sv_tPut rfl (hu_of hr) (.inl rfl) (pv 0) (ev_tLarge rfl (hu_of hr) (pv 0) (pv 0) (ev_call (ok__law_blend M) (hr.mono (by decide)) rfl M.g__law_blend M.F__law_blend.kp (b__law_blend M) (lv_cons (ev_var (pv 0)) lv_nil))))) ssv_nil)
    (ssv_cons (sv_set (i := 2) sc__law_draw.nd rfl (by first | exact .inl rfl | exact .inr rfl) (ev_op or_mod (ov_e (ev_callTy1 (cr_int) rfl M.z_int (by decide +kernel) (ov_e (ev_tInt rfl (hu_of hr) (.inl rfl) (pv 0))))) (ov_v (pv 1))))
    (ssv_cons (sv_tPut rfl (hu_of hr) (.inl rfl) (pv 0) (ev_op or_div (ov_e (ev_callTy1 (cr_int) rfl M.z_int (by decide +kernel) (ov_e (ev_tInt rfl (hu_of hr) (.inl rfl) (pv 0))))) (ov_v (pv 1))))
    (ssv_one (sv_ret (ev_move (pv 2)))))))
theorem sc__law_pick : FnScope ["tape", "several"] ["tape", "several"] (defScope s__law_pick) := ⟨rfl, rfl, rfl, by decide +kernel, rfl, by decide +kernel, by decide +kernel⟩
theorem b__law_pick (M : Md K mg) : Binds K M.d__law_pick ["tape", "several"] [] := M.F__law_pick.bindsN fun _ _ _ _ _ _ us hl => match us, hl with | [_, _], _ => rfl
theorem kw__law_pick (M : Md K mg) : Kw0 K M.d__law_pick ["tape", "several"] := kw0_of M.F__law_pick fun _ _ _ _ _ _ us hl => match us, hl with | [_, _], _ => rfl
def w__law_pick : WS := (sRet (vP2 opIdx (.v 1) (.e (vCall 2 f__law_draw (lCons (vVar 0) (lCons (vP1 opLen (.v 1)) lNil))))))
def f__law_pick : Fn := fnV 2 w__law_pick
theorem ok__law_pick (M : Md K mg) : FnOk P w K mg base CX0 3 (He.ga K "_law_pick") M.d__law_pick ["tape", "several"] (spV (GG K w (tapeT tp)) 2 f__law_pick) := by
  refine fn_okD (N := ["tape", "several"]) (ws := w__law_pick) M.F__law_pick sc__law_pick rfl fun cdv A outer s H E hr => ?_
  exact (ssv_one (sv_ret (ev_idx rfl (hu_of hr) (ov_v (pv 1)) (ov_e (ev_call (ok__law_draw M) (hr.mono (by decide)) rfl M.g__law_draw M.F__law_draw.kp (b__law_draw M) (lv_cons (ev_var (pv 0)) (lv_cons (ev_callB1 (cr_len rfl) rfl M.z_len PySem.boot_len (ov_v (pv 1))) lv_nil)))))))
theorem sc__law_shuffled : FnScope ["tape", "several", "left", "found"] ["tape", "several"] (defScope s__law_shuffled) := ⟨rfl, rfl, rfl, by decide +kernel, rfl, by decide +kernel, by decide +kernel⟩
theorem b__law_shuffled (M : Md K mg) : Binds K M.d__law_shuffled ["tape", "several"] [] := M.F__law_shuffled.bindsN fun _ _ _ _ _ _ us hl => match us, hl with | [_, _], _ => rfl
theorem kw__law_shuffled (M : Md K mg) : Kw0 K M.d__law_shuffled ["tape", "several"] := kw0_of M.F__law_shuffled fun _ _ _ _ _ _ us hl => match us, hl with | [_, _], _ => rfl
def w__law_shuffled : WS := (sSeq (sPar2 2 3 (mCons (vP1 opListD (.v 1)) (mCons (vLst lNil) mNil)))
    (sSeq (sWhile (tvV (vP2 opNe (.v 2) (.e (vLst lNil)))) (sExpr (vAppend 3 (vPopAt 2 (vCall 2 f__law_draw (lCons (vVar 0) (lCons (vP1 opLen (.v 2)) lNil)))))))
    (sRet (vMove 3))))
def f__law_shuffled : Fn := fnV 4 w__law_shuffled
theorem ok__law_shuffled (M : Md K mg) : FnOk P w K mg base CX0 3 (He.ga K "_law_shuffled") M.d__law_shuffled ["tape", "several"] (spV (GG K w (tapeT tp)) 2 f__law_shuffled) := by
  refine fn_okD (N := ["tape", "several", "left", "found"]) (ws := w__law_shuffled) M.F__law_shuffled sc__law_shuffled rfl fun cdv A outer s H E hr => ?_
  exact (ssv_cons (sv_par2 (i := 2) (j := 3) rfl sc__law_shuffled.nd rfl rfl (by decide) rfl rfl (mv_cons (ev_callTy1 (cr_listD rfl) rfl M.z_list (by decide +kernel) (ov_v (pv 1))) (mv_cons (ev_lst lv_nil) mv_nil)))
    (ssv_cons (sv_while PassesOwn.never (tv_cmp (or_ne (hu64 hr)) (ov_v (pv 2)) (ov_e (ev_lst lv_nil))) (ssv_one (sv_expr (ev_append (pv 3) (ev_popAt (pv 2) (ev_call (ok__law_draw M) (hr.mono (by decide)) rfl M.g__law_draw M.F__law_draw.kp (b__law_draw M) (lv_cons (ev_var (pv 0)) (lv_cons (ev_callB1 (cr_len rfl) rfl M.z_len PySem.boot_len (ov_v (pv 2))) lv_nil))))))))
    (ssv_one (sv_ret (ev_move (pv 3))))))
theorem sc__law_power : FnScope ["base", "times", "found", "lap"] ["base", "times"] (defScope s__law_power) := ⟨rfl, rfl, rfl, by decide +kernel, rfl, by decide +kernel, by decide +kernel⟩
theorem b__law_power (M : Md K mg) : Binds K M.d__law_power ["base", "times"] [] := M.F__law_power.bindsN fun _ _ _ _ _ _ us hl => match us, hl with | [_, _], _ => rfl
theorem kw__law_power (M : Md K mg) : Kw0 K M.d__law_power ["base", "times"] := kw0_of M.F__law_power fun _ _ _ _ _ _ us hl => match us, hl with | [_, _], _ => rfl
def w__law_power : WS := (sSeq (sSet 2 (vC (.int 1)))
    (sSeq (sFor (iRange1 (lCons (vVar 1) lNil)) (gN 3) (sSet 2 (vP2 opMul (.v 2) (.v 0))))
    (sRet (vMove 2))))
def f__law_power : Fn := fnV 4 w__law_power
theorem ok__law_power (M : Md K mg) : FnOk P w K mg base CX0 1 (He.ga K "_law_power") M.d__law_power ["base", "times"] (spV (GG K w (tapeT tp)) 2 f__law_power) := by
  refine fn_okD (N := ["base", "times", "found", "lap"]) (ws := w__law_power) M.F__law_power sc__law_power rfl fun cdv A outer s H E hr => ?_
  exact (ssv_cons (sv_set (i := 2) sc__law_power.nd rfl (by first | exact .inl rfl | exact .inr rfl) ev_int)
    (ssv_cons (sv_for PassesOwn.never rfl (iv_range1 rfl M.z_range (lv_cons (ev_var (pv 1)) lv_nil)) (gv_name (i := 3) sc__law_power.nd rfl (by first | exact .inl rfl | exact .inr rfl)) (ssv_one (sv_set (i := 2) sc__law_power.nd rfl (by first | exact .inl rfl | exact .inr rfl) (ev_op or_mul (ov_v (pv 2)) (ov_v (pv 0))))))
    (ssv_one (sv_ret (ev_move (pv 2))))))
theorem sc__law_states : FnScope ["many", "found", "switch", "later", "state"] ["many"] (defScope s__law_states) := ⟨rfl, rfl, rfl, by decide +kernel, rfl, by decide +kernel, by decide +kernel⟩
theorem b__law_states (M : Md K mg) : Binds K M.d__law_states ["many"] [] := M.F__law_states.bindsN fun _ _ _ _ _ _ us hl => match us, hl with | [_], _ => rfl
theorem kw__law_states (M : Md K mg) : Kw0 K M.d__law_states ["many"] := kw0_of M.F__law_states fun _ _ _ _ _ _ us hl => match us, hl with | [_], _ => rfl
def w__law_states : WS := (sSeq (sSet 1 (vLst (lCons (vTup lNil) lNil)))
    (sSeq (sFor (iRange1 (lCons (vVar 0) lNil)) (gN 2) (sSeq (sSet 3 (vLst lNil))
    (sSeq (sFor (iSeq (vVar 1)) (gN 4) (sSet 3 (vP2 opAdd (.v 3) (.e (vLst (lCons (vP2 opAdd (.v 4) (.e (vTup (lCons (vC (.int 0)) lNil)))) (lCons (vP2 opAdd (.v 4) (.e (vTup (lCons (vC (.int 1)) lNil)))) lNil)))))))
    (sSet 1 (vVar 3)))))
    (sRet (vMove 1))))
def f__law_states : Fn := fnV 5 w__law_states
theorem ok__law_states (M : Md K mg) : FnOk P w K mg base CX0 1 (He.ga K "_law_states") M.d__law_states ["many"] (spV (GG K w (tapeT tp)) 1 f__law_states) := by
  refine fn_okD (N := ["many", "found", "switch", "later", "state"]) (ws := w__law_states) M.F__law_states sc__law_states rfl fun cdv A outer s H E hr => ?_
  exact (ssv_cons (sv_set (i := 1) sc__law_states.nd rfl (by first | exact .inl rfl | exact .inr rfl) (ev_lst (lv_cons (ev_tup lv_nil) lv_nil)))
    (ssv_cons (sv_for PassesOwn.never rfl (iv_range1 rfl M.z_range (lv_cons (ev_var (pv 0)) lv_nil)) (gv_name (i := 2) sc__law_states.nd rfl (by first | exact .inl rfl | exact .inr rfl)) (ssv_cons (sv_set (i := 3) sc__law_states.nd rfl (by first | exact .inl rfl | exact .inr rfl) (ev_lst lv_nil))
    (ssv_cons (sv_for PassesOwn.never rfl (iv_list (ev_var (pv 1))) (gv_name (i := 4) sc__law_states.nd rfl (by first | exact .inl rfl | exact .inr rfl)) (ssv_one (sv_set (i := 3) sc__law_states.nd rfl (by first | exact .inl rfl | exact .inr rfl) (ev_op or_add (ov_v (pv 3)) (ov_e (ev_lst (lv_cons (ev_op or_add (ov_v (pv 4)) (ov_e (ev_tup (lv_cons ev_int lv_nil)))) (lv_cons (ev_op or_add (ov_v (pv 4)) (ov_e (ev_tup (lv_cons ev_int lv_nil)))) lv_nil))))))))
    (ssv_one (sv_set (i := 1) sc__law_states.nd rfl (by first | exact .inl rfl | exact .inr rfl) (ev_var (pv 3)))))))
    (ssv_one (sv_ret (ev_move (pv 1))))))
theorem sc__law_net : FnScope ["tape", "most", "many", "turn", "states", "nexts", "rules", "switch", "state", "asked", "item", "table"] ["tape", "most"] (defScope s__law_net) := ⟨rfl, rfl, rfl, by decide +kernel, rfl, by decide +kernel, by decide +kernel⟩
theorem b__law_net (M : Md K mg) : Binds K M.d__law_net ["tape", "most"] [] := M.F__law_net.bindsN fun _ _ _ _ _ _ us hl => match us, hl with | [_, _], _ => rfl
theorem kw__law_net (M : Md K mg) : Kw0 K M.d__law_net ["tape", "most"] := kw0_of M.F__law_net fun _ _ _ _ _ _ us hl => match us, hl with | [_, _], _ => rfl
def w__law_net : WS := (sSeq (sAsg (gT [2, 3]) (vTup (lCons (vP2 opAdd (.e (vC (.int 1))) (.e (vCall 2 f__law_draw (lCons (vVar 0) (lCons (vVar 1) lNil))))) (lCons (vCall 2 f__law_draw (lCons (vVar 0) (lCons (vC (.int 6)) lNil))) lNil))))
    (sSeq (sPar2 4 5 (mCons (vCall 1 f__law_states (lCons (vVar 2) lNil)) (mCons vDnew mNil)))
    (sSeq (sIf (tvV (vP2 opLt (.v 3) (.e (vC (.int 2))))) (sSeq (sFor (iSeq (vVar 4)) (gN 8) (sSetIdx 5 (.v 8) (vCall 2 f__law_pick (lCons (vVar 0) (lCons (vVar 4) lNil)))))
    (sRet (vMove 5))) sNil)
    (sSeq (sIf (tvV (vP2 opEq (.v 3) (.e (vC (.int 2))))) (sRet (vP1 opDict (.e (vListZip (lCons (vVar 4) (lCons (vCall 2 f__law_shuffled (lCons (vVar 0) (lCons (vVar 4) lNil))) lNil)))))) sNil)
    (sSeq (sSet 6 (vLst lNil))
    (sSeq (sFor (iRange1 (lCons (vVar 2) lNil)) (gN 7) (sSeq (sSet 9 (vIf (tvV (vP2 opLt (.v 3) (.e (vC (.int 5))))) (vLc (iRange1 (lCons (vP2 opAdd (.e (vC (.int 1))) (.e (vCall 2 f__law_draw (lCons (vVar 0) (lCons (vC (.int 2)) lNil))))) lNil)) (gN 10) tvYes (vCall 2 f__law_draw (lCons (vVar 0) (lCons (vVar 2) lNil))) [10]) (vLst (lCons (vP2 opMod (.e (vP1 opInt (.e (vP2 opSub (.e (vP2 opAdd (.v 7) (.v 2))) (.e (vC (.int 1))))))) (.v 2)) lNil))))
    (sExpr (vAppend 6 (vTup (lCons (vVar 9) (lCons (vLc (iRange1 (lCons (vC (.int 4)) lNil)) (gN 10) tvYes (vCall 2 f__law_draw (lCons (vVar 0) (lCons (vC (.int 2)) lNil))) [10]) lNil)))))))
    (sSeq (sFor (iSeq (vVar 4)) (gN 8) (sSetIdx 5 (.v 8) (vP1 opTuple (.e (vLc (iSeq (vVar 6)) (gT [9, 11]) tvYes (vP2 opIdx (.v 11) (.e (vP2 opAdd (.e (vP2 opMul (.e (vP2 opIdx (.v 8) (.e (vP2 opIdx (.v 9) (.e (vC (.int 0))))))) (.e (vC (.int 2))))) (.e (vP2 opIdx (.v 8) (.e (vP2 opIdx (.v 9) (.e (vP1 opNeg (.e (vC (.int 1)))))))))))) [9, 11])))))
    (sRet (vMove 5)))))))))
def f__law_net : Fn := fnV 12 w__law_net
theorem ok__law_net (M : Md K mg) : FnOk P w K mg base CX0 4 (He.ga K "_law_net") M.d__law_net ["tape", "most"] (spV (GG K w (tapeT tp)) 2 f__law_net) := by
  refine fn_okD (N := ["tape", "most", "many", "turn", "states", "nexts", "rules", "switch", "state", "asked", "item", "table"]) (ws := w__law_net) M.F__law_net sc__law_net rfl fun cdv A outer s H E hr => ?_
  exact (ssv_cons (sv_asg (ev_tup (lv_cons (ev_op or_add (ov_e ev_int) (ov_e (ev_call (ok__law_draw M) (hr.mono (by decide)) rfl M.g__law_draw M.F__law_draw.kp (b__law_draw M) (lv_cons (ev_var (pv 0)) (lv_cons (ev_var (pv 1)) lv_nil))))) (lv_cons (ev_call (ok__law_draw M) (hr.mono (by decide)) rfl M.g__law_draw M.F__law_draw.kp (b__law_draw M) (lv_cons (ev_var (pv 0)) (lv_cons ev_int lv_nil))) lv_nil))) (gv_tup rfl (gsv_cons (i := 2) sc__law_net.nd rfl (by first | exact .inl rfl | exact .inr rfl) (gsv_cons (i := 3) sc__law_net.nd rfl (by first | exact .inl rfl | exact .inr rfl) gsv_nil))))
    (ssv_cons (sv_par2 (i := 4) (j := 5) rfl sc__law_net.nd rfl rfl (by decide) rfl rfl (mv_cons (ev_call (ok__law_states M) (hr.mono (by decide)) rfl M.g__law_states M.F__law_states.kp (b__law_states M) (lv_cons (ev_var (pv 2)) lv_nil)) (mv_cons ev_dnew mv_nil)))
    (ssv_cons (sv_if (tv_cmp (or_lt) (ov_v (pv 3)) (ov_e ev_int)) (ssv_cons (sv_for PassesOwn.never rfl (iv_list (ev_var (pv 4))) (gv_name (i := 8) sc__law_net.nd rfl (by first | exact .inl rfl | exact .inr rfl)) (ssv_one (sv_setIdx rfl (hu_of hr) (pv 5) (ov_v (pv 8)) (ev_call (ok__law_pick M) (hr.mono (by decide)) rfl M.g__law_pick M.F__law_pick.kp (b__law_pick M) (lv_cons (ev_var (pv 0)) (lv_cons (ev_var (pv 4)) lv_nil))))))
    (ssv_one (sv_ret (ev_move (pv 5))))) ssv_nil)
    (ssv_cons (sv_if (tv_cmp (or_eq (hu64 hr)) (ov_v (pv 3)) (ov_e ev_int)) (ssv_one (sv_ret (ev_callTy1 (cr_dict rfl rfl (hu_of hr)) rfl M.z_dict (by decide +kernel) (ov_e (ev_listZip rfl rfl M.z_list rfl M.z_zip (lv_cons (ev_var (pv 4)) (lv_cons (ev_call (ok__law_shuffled M) (hr.mono (by decide)) rfl M.g__law_shuffled M.F__law_shuffled.kp (b__law_shuffled M) (lv_cons (ev_var (pv 0)) (lv_cons (ev_var (pv 4)) lv_nil))) lv_nil))))))) ssv_nil)
    (ssv_cons (sv_set (i := 6) sc__law_net.nd rfl (by first | exact .inl rfl | exact .inr rfl) (ev_lst lv_nil))
    (ssv_cons (sv_for PassesOwn.never rfl (iv_range1 rfl M.z_range (lv_cons (ev_var (pv 2)) lv_nil)) (gv_name (i := 7) sc__law_net.nd rfl (by first | exact .inl rfl | exact .inr rfl)) (ssv_cons (sv_set (i := 9) sc__law_net.nd rfl (by first | exact .inl rfl | exact .inr rfl) (ev_if (tv_cmp (or_lt) (ov_v (pv 3)) (ov_e ev_int)) (ev_lc (own := [("item", 10)]) (is := [10]) rfl sc__law_net.nd (iv_range1 rfl M.z_range (lv_cons (ev_op or_add (ov_e ev_int) (ov_e (ev_call (ok__law_draw M) (hr.mono (by decide)) rfl M.g__law_draw M.F__law_draw.kp (b__law_draw M) (lv_cons (ev_var (pv 0)) (lv_cons ev_int lv_nil))))) lv_nil)) (blkOk_by (by kernel_rfl)) (by decide) (fun _ _ _ _ _ => (gv_name (i := 10) sc__law_net.nd rfl (by first | exact .inl rfl | exact .inr rfl))) (fun _ _ _ _ _ => tsv_nil) (fun _ _ _ _ _ => (ev_call (ok__law_draw M) (hr.mono (by decide)) rfl M.g__law_draw M.F__law_draw.kp (b__law_draw M) (lv_cons (ev_var (pv 0)) (lv_cons (ev_var (pv 2)) lv_nil))))) (ev_lst (lv_cons (ev_op or_mod (ov_e (ev_callTy1 (cr_int) rfl M.z_int (by decide +kernel) (ov_e (ev_op or_sub (ov_e (ev_op or_add (ov_v (pv 7)) (ov_v (pv 2)))) (ov_e ev_int))))) (ov_v (pv 2))) lv_nil))))
    (ssv_one (sv_expr (ev_append (pv 6) (ev_tup (lv_cons (ev_var (pv 9)) (lv_cons (ev_lc (own := [("item", 10)]) (is := [10]) rfl sc__law_net.nd (iv_range1 rfl M.z_range (lv_cons ev_int lv_nil)) (blkOk_by (by kernel_rfl)) (by decide) (fun _ _ _ _ _ => (gv_name (i := 10) sc__law_net.nd rfl (by first | exact .inl rfl | exact .inr rfl))) (fun _ _ _ _ _ => tsv_nil) (fun _ _ _ _ _ => (ev_call (ok__law_draw M) (hr.mono (by decide)) rfl M.g__law_draw M.F__law_draw.kp (b__law_draw M) (lv_cons (ev_var (pv 0)) (lv_cons ev_int lv_nil))))) lv_nil))))))))
    (ssv_cons (sv_for PassesOwn.never rfl (iv_list (ev_var (pv 4))) (gv_name (i := 8) sc__law_net.nd rfl (by first | exact .inl rfl | exact .inr rfl)) (ssv_one (sv_setIdx rfl (hu_of hr) (pv 5) (ov_v (pv 8)) (ev_callTy1 (cr_tuple) rfl M.z_tuple (by decide +kernel) (ov_e (ev_lc (own := [("asked", 9), ("table", 11)]) (is := [9, 11]) rfl sc__law_net.nd (iv_list (ev_var (pv 6))) (blkOk_by (by kernel_rfl)) (by decide) (fun _ _ _ _ _ => (gv_tup rfl (gsv_cons (i := 9) sc__law_net.nd rfl (by first | exact .inl rfl | exact .inr rfl) (gsv_cons (i := 11) sc__law_net.nd rfl (by first | exact .inl rfl | exact .inr rfl) gsv_nil)))) (fun _ _ _ _ _ => tsv_nil) (fun _ _ _ _ _ => (ev_idx rfl (hu_of hr) (ov_v (pv 11)) (ov_e (ev_op or_add (ov_e (ev_op or_mul (ov_e (ev_idx rfl (hu_of hr) (ov_v (pv 8)) (ov_e (ev_idx rfl (hu_of hr) (ov_v (pv 9)) (ov_e ev_int))))) (ov_e ev_int))) (ov_e (ev_idx rfl (hu_of hr) (ov_v (pv 8)) (ov_e (ev_idx rfl (hu_of hr) (ov_v (pv 9)) (ov_e (ev_un ur_neg (ov_e ev_int)))))))))))))))))
    (ssv_one (sv_ret (ev_move (pv 5)))))))))))
theorem sc__law_made : FnScope ["nexts", "states", "switch", "state"] ["nexts"] (defScope s__law_made) := ⟨rfl, rfl, rfl, by decide +kernel, rfl, by decide +kernel, by decide +kernel⟩
theorem b__law_made (M : Md K mg) : Binds K M.d__law_made ["nexts"] [] := M.F__law_made.bindsN fun _ _ _ _ _ _ us hl => match us, hl with | [_], _ => rfl
theorem kw__law_made (M : Md K mg) : Kw0 K M.d__law_made ["nexts"] := kw0_of M.F__law_made fun _ _ _ _ _ _ us hl => match us, hl with | [_], _ => rfl
def w__law_made : WS := (sSeq (sSet 1 (vP1 opSorted (.v 0)))
    (sRet (vMake 1 f_Net_init (lCons (vLc (iRange1 (lCons (vP1 opLen (.e (vP2 opIdx (.v 1) (.e (vC (.int 0)))))) lNil)) (gN 2) tvYes (vP1 opTuple (.e (vLc (iSeq (vVar 1)) (gN 3) tvYes (vP2 opIdx (.e (vP2 opIdx (.v 0) (.v 3))) (.v 2)) [3]))) [2]) lNil))))
def f__law_made : Fn := fnV 4 w__law_made
theorem ok__law_made (M : Md K mg) : FnOk P w K mg base CX0 7 (He.ga K "_law_made") M.d__law_made ["nexts"] (spV (GG K w (tapeT tp)) 1 f__law_made) := by
  refine fn_okD (N := ["nexts", "states", "switch", "state"]) (ws := w__law_made) M.F__law_made sc__law_made rfl fun cdv A outer s H E hr => ?_
  exact (ssv_cons (sv_set (i := 1) sc__law_made.nd rfl (by first | exact .inl rfl | exact .inr rfl) (ev_callB1 (PV.cr_sorted rfl (hu_of hr)) rfl M.z_sorted PyProof.Rows.boot_sorted (ov_v (pv 0))))
    (ssv_one (sv_ret (ev_make M.mkc (ok_Net_init M) (hr.mono (by decide)) rfl M.g_Net (b_Net_init M) (lv_cons (ev_lc (own := [("switch", 2)]) (is := [2]) rfl sc__law_made.nd (iv_range1 rfl M.z_range (lv_cons (ev_callB1 (cr_len rfl) rfl M.z_len PySem.boot_len (ov_e (ev_idx rfl (hu_of hr) (ov_v (pv 1)) (ov_e ev_int)))) lv_nil)) (blkOk_by (by kernel_rfl)) (by decide) (fun _ _ _ _ _ => (gv_name (i := 2) sc__law_made.nd rfl (by first | exact .inl rfl | exact .inr rfl))) (fun _ _ _ _ _ => tsv_nil) (fun _ _ _ _ _ => (ev_callTy1 (cr_tuple) rfl M.z_tuple (by decide +kernel) (ov_e (ev_lc (own := [("state", 3)]) (is := [3]) rfl sc__law_made.nd (iv_list (ev_var (pv 1))) (blkOk_by (by kernel_rfl)) (by decide) (fun _ _ _ _ _ => (gv_name (i := 3) sc__law_made.nd rfl (by first | exact .inl rfl | exact .inr rfl))) (fun _ _ _ _ _ => tsv_nil) (fun _ _ _ _ _ => (ev_idx rfl (hu_of hr) (ov_e (ev_idx rfl (hu_of hr) (ov_v (pv 0)) (ov_v (pv 3)))) (ov_v (pv 2))))))))) lv_nil)))))
theorem sc__law_small_nets : FnScope ["tape", "share", "found", "many", "states", "begin", "total", "number", "nexts", "left", "state"] ["tape", "share"] (defScope s__law_small_nets) := ⟨rfl, rfl, rfl, by decide +kernel, rfl, by decide +kernel, by decide +kernel⟩
theorem b__law_small_nets (M : Md K mg) : Binds K M.d__law_small_nets ["tape", "share"] [] := M.F__law_small_nets.bindsN fun _ _ _ _ _ _ us hl => match us, hl with | [_, _], _ => rfl
theorem kw__law_small_nets (M : Md K mg) : Kw0 K M.d__law_small_nets ["tape", "share"] := kw0_of M.F__law_small_nets fun _ _ _ _ _ _ us hl => match us, hl with | [_, _], _ => rfl
def w__law_small_nets : WS := (sSeq (sSet 2 (vLst lNil))
    (sSeq (sFor (iSeq (vLst (lCons (vC (.int 1)) (lCons (vC (.int 2)) lNil)))) (gN 3) (sSeq (sPar2 4 5 (mCons (vCall 1 f__law_states (lCons (vVar 3) lNil)) (mCons (vCall 2 f__law_draw (lCons (vVar 0) (lCons (vVar 1) lNil))) mNil)))
    (sSeq (sSet 6 (vCall 2 f__law_power (lCons (vP1 opLen (.v 4)) (lCons (vP1 opLen (.v 4)) lNil))))
    (sFor (iSeq (vIf (tvV (vP2 opEq (.v 3) (.e (vC (.int 1))))) (vListRg (lCons (vVar 6) lNil)) (vListRg (lCons (vVar 5) (lCons (vVar 6) (lCons (vVar 1) lNil)))))) (gN 7) (sSeq (sPar2 8 9 (mCons vDnew (mCons (vVar 7) mNil)))
    (sSeq (sFor (iSeq (vVar 4)) (gN 10) (sSeq (sSetIdx 8 (.v 10) (vP2 opIdx (.v 4) (.e (vP2 opMod (.e (vP1 opInt (.v 9))) (.e (vP1 opLen (.v 4)))))))
    (sSet 9 (vP2 opDiv (.v 9) (.e (vP1 opLen (.v 4)))))))
    (sExpr (vAppend 2 (vVar 8)))))))))
    (sRet (vMove 2))))
def f__law_small_nets : Fn := fnV 11 w__law_small_nets
theorem ok__law_small_nets (M : Md K mg) : FnOk P w K mg base CX0 3 (He.ga K "_law_small_nets") M.d__law_small_nets ["tape", "share"] (spV (GG K w (tapeT tp)) 2 f__law_small_nets) := by
  refine fn_okD (N := ["tape", "share", "found", "many", "states", "begin", "total", "number", "nexts", "left", "state"]) (ws := w__law_small_nets) M.F__law_small_nets sc__law_small_nets rfl fun cdv A outer s H E hr => ?_
  exact (ssv_cons (sv_set (i := 2) sc__law_small_nets.nd rfl (by first | exact .inl rfl | exact .inr rfl) (ev_lst lv_nil))
    (ssv_cons (sv_for PassesOwn.never rfl (iv_list (ev_lst (lv_cons ev_int (lv_cons ev_int lv_nil)))) (gv_name (i := 3) sc__law_small_nets.nd rfl (by first | exact .inl rfl | exact .inr rfl)) (ssv_cons (sv_par2 (i := 4) (j := 5) rfl sc__law_small_nets.nd rfl rfl (by decide) rfl rfl (mv_cons (ev_call (ok__law_states M) (hr.mono (by decide)) rfl M.g__law_states M.F__law_states.kp (b__law_states M) (lv_cons (ev_var (pv 3)) lv_nil)) (mv_cons (ev_call (ok__law_draw M) (hr.mono (by decide)) rfl M.g__law_draw M.F__law_draw.kp (b__law_draw M) (lv_cons (ev_var (pv 0)) (lv_cons (ev_var (pv 1)) lv_nil))) mv_nil)))
    (ssv_cons (sv_set (i := 6) sc__law_small_nets.nd rfl (by first | exact .inl rfl | exact .inr rfl) (ev_call (ok__law_power M) (hr.mono (by decide)) rfl M.g__law_power M.F__law_power.kp (b__law_power M) (lv_cons (ev_callB1 (cr_len rfl) rfl M.z_len PySem.boot_len (ov_v (pv 4))) (lv_cons (ev_callB1 (cr_len rfl) rfl M.z_len PySem.boot_len (ov_v (pv 4))) lv_nil))))
    (ssv_one (sv_for PassesOwn.never rfl (iv_list (ev_if (tv_cmp (or_eq (hu64 hr)) (ov_v (pv 3)) (ov_e ev_int)) (ev_listRg rfl rfl M.z_list rfl M.z_range (lv_cons (ev_var (pv 6)) lv_nil)) (ev_listRg rfl rfl M.z_list rfl M.z_range (lv_cons (ev_var (pv 5)) (lv_cons (ev_var (pv 6)) (lv_cons (ev_var (pv 1)) lv_nil)))))) (gv_name (i := 7) sc__law_small_nets.nd rfl (by first | exact .inl rfl | exact .inr rfl)) (ssv_cons (sv_par2 (i := 8) (j := 9) rfl sc__law_small_nets.nd rfl rfl (by decide) rfl rfl (mv_cons ev_dnew (mv_cons (ev_var (pv 7)) mv_nil)))
    (ssv_cons (sv_for PassesOwn.never rfl (iv_list (ev_var (pv 4))) (gv_name (i := 10) sc__law_small_nets.nd rfl (by first | exact .inl rfl | exact .inr rfl)) (ssv_cons (sv_setIdx rfl (hu_of hr) (pv 8) (ov_v (pv 10)) (ev_idx rfl (hu_of hr) (ov_v (pv 4)) (ov_e (ev_op or_mod (ov_e (ev_callTy1 (cr_int) rfl M.z_int (by decide +kernel) (ov_v (pv 9)))) (ov_e (ev_callB1 (cr_len rfl) rfl M.z_len PySem.boot_len (ov_v (pv 4))))))))
    (ssv_one (sv_set (i := 9) sc__law_small_nets.nd rfl (by first | exact .inl rfl | exact .inr rfl) (ev_op or_div (ov_v (pv 9)) (ov_e (ev_callB1 (cr_len rfl) rfl M.z_len PySem.boot_len (ov_v (pv 4)))))))))
    (ssv_one (sv_expr (ev_append (pv 2) (ev_var (pv 8))))))))))))
    (ssv_one (sv_ret (ev_move (pv 2))))))
theorem sc__law_run : FnScope ["nexts", "state", "line", "lap", "spot"] ["nexts", "state"] (defScope s__law_run) := ⟨rfl, rfl, rfl, by decide +kernel, rfl, by decide +kernel, by decide +kernel⟩
theorem b__law_run (M : Md K mg) : Binds K M.d__law_run ["nexts", "state"] [] := M.F__law_run.bindsN fun _ _ _ _ _ _ us hl => match us, hl with | [_, _], _ => rfl
theorem kw__law_run (M : Md K mg) : Kw0 K M.d__law_run ["nexts", "state"] := kw0_of M.F__law_run fun _ _ _ _ _ _ us hl => match us, hl with | [_, _], _ => rfl
def w__law_run : WS := (sSeq (sSet 2 (vLst lNil))
    (sSeq (sFor (iRange1 (lCons (vP2 opAdd (.e (vP1 opLen (.v 0))) (.e (vC (.int 1)))) lNil)) (gN 3) (sSeq (sIf (tvV (vP2 opIn (.v 1) (.v 2))) (sSeq (sSet 4 (vIndexT "list" (.v 2) (vVar 1)))
    (sRet (vTup (lCons (vP1 opTuple (.e (vCut (.v 2) .no (.e (vVar 4))))) (lCons (vP1 opTuple (.e (vCut (.v 2) (.e (vVar 4)) .no))) lNil))))) sNil)
    (sSeq (sExpr (vAppend 2 (vVar 1)))
    (sSet 1 (vP2 opIdx (.v 0) (.v 1))))))
    (sRet (vTup (lCons (vTup lNil) (lCons (vTup lNil) lNil))))))
def f__law_run : Fn := fnV 5 w__law_run
theorem ok__law_run (M : Md K mg) : FnOk P w K mg base CX0 1 (He.ga K "_law_run") M.d__law_run ["nexts", "state"] (spV (GG K w (tapeT tp)) 2 f__law_run) := by
  refine fn_okD (N := ["nexts", "state", "line", "lap", "spot"]) (ws := w__law_run) M.F__law_run sc__law_run rfl fun cdv A outer s H E hr => ?_
  exact (ssv_cons (sv_set (i := 2) sc__law_run.nd rfl (by first | exact .inl rfl | exact .inr rfl) (ev_lst lv_nil))
    (ssv_cons (sv_for PassesOwn.never rfl (iv_range1 rfl M.z_range (lv_cons (ev_op or_add (ov_e (ev_callB1 (cr_len rfl) rfl M.z_len PySem.boot_len (ov_v (pv 0)))) (ov_e ev_int)) lv_nil)) (gv_name (i := 3) sc__law_run.nd rfl (by first | exact .inl rfl | exact .inr rfl)) (ssv_cons (sv_if (tv_cmp (or_in rfl (hu_of hr)) (ov_v (pv 1)) (ov_v (pv 2))) (ssv_cons (sv_set (i := 4) sc__law_run.nd rfl (by first | exact .inl rfl | exact .inr rfl) (ev_index (.inl ⟨rfl, rfl⟩) PySem.F.plainAttrs_list PySem.F.slot_list_index PySem.F.type_list_index (hu_of hr) (ov_v (pv 2)) (ev_var (pv 1))))
    (ssv_one (sv_ret (ev_tup (lv_cons (ev_callTy1 (cr_tuple) rfl M.z_tuple (by decide +kernel) (ov_e (ev_cut (ov_v (pv 2)) pv_no (pv_e (ev_var (pv 4)))))) (lv_cons (ev_callTy1 (cr_tuple) rfl M.z_tuple (by decide +kernel) (ov_e (ev_cut (ov_v (pv 2)) (pv_e (ev_var (pv 4))) pv_no))) lv_nil)))))) ssv_nil)
    (ssv_cons (sv_expr (ev_append (pv 2) (ev_var (pv 1))))
    (ssv_one (sv_set (i := 1) sc__law_run.nd rfl (by first | exact .inl rfl | exact .inr rfl) (ev_idx rfl (hu_of hr) (ov_v (pv 0)) (ov_v (pv 1))))))))
    (ssv_one (sv_ret (ev_tup (lv_cons (ev_tup lv_nil) (lv_cons (ev_tup lv_nil) lv_nil)))))))
theorem sc__law_four : FnScope [] [] (defScope s__law_four) := ⟨rfl, rfl, rfl, by decide +kernel, rfl, by decide +kernel, by decide +kernel⟩
theorem b__law_four (M : Md K mg) : Binds K M.d__law_four [] [] := M.F__law_four.bindsN fun _ _ _ _ _ _ us hl => match us, hl with | [], _ => rfl
theorem kw__law_four (M : Md K mg) : Kw0 K M.d__law_four [] := kw0_of M.F__law_four fun _ _ _ _ _ _ us hl => match us, hl with | [], _ => rfl
def w__law_four : WS := (sRet (vP1 opDict (.e (vLst (lCons (vTup (lCons (vTup (lCons (vC (.int 0)) (lCons (vC (.int 0)) lNil))) (lCons (vTup (lCons (vC (.int 1)) (lCons (vC (.int 0)) lNil))) lNil))) (lCons (vTup (lCons (vTup (lCons (vC (.int 0)) (lCons (vC (.int 1)) lNil))) (lCons (vTup (lCons (vC (.int 0)) (lCons (vC (.int 0)) lNil))) lNil))) (lCons (vTup (lCons (vTup (lCons (vC (.int 1)) (lCons (vC (.int 0)) lNil))) (lCons (vTup (lCons (vC (.int 1)) (lCons (vC (.int 1)) lNil))) lNil))) (lCons (vTup (lCons (vTup (lCons (vC (.int 1)) (lCons (vC (.int 1)) lNil))) (lCons (vTup (lCons (vC (.int 0)) (lCons (vC (.int 1)) lNil))) lNil))) lNil))))))))
def f__law_four : Fn := fnV 0 w__law_four
theorem ok__law_four (M : Md K mg) : FnOk P w K mg base CX0 1 (He.ga K "_law_four") M.d__law_four [] (spV (GG K w (tapeT tp)) 0 f__law_four) := by
  refine fn_okD (N := []) (ws := w__law_four) M.F__law_four sc__law_four rfl fun cdv A outer s H E hr => ?_
  exact (ssv_one (sv_ret (ev_callTy1 (cr_dict rfl rfl (hu_of hr)) rfl M.z_dict (by decide +kernel) (ov_e (ev_lst (lv_cons (ev_tup (lv_cons (ev_tup (lv_cons ev_int (lv_cons ev_int lv_nil))) (lv_cons (ev_tup (lv_cons ev_int (lv_cons ev_int lv_nil))) lv_nil))) (lv_cons (ev_tup (lv_cons (ev_tup (lv_cons ev_int (lv_cons ev_int lv_nil))) (lv_cons (ev_tup (lv_cons ev_int (lv_cons ev_int lv_nil))) lv_nil))) (lv_cons (ev_tup (lv_cons (ev_tup (lv_cons ev_int (lv_cons ev_int lv_nil))) (lv_cons (ev_tup (lv_cons ev_int (lv_cons ev_int lv_nil))) lv_nil))) (lv_cons (ev_tup (lv_cons (ev_tup (lv_cons ev_int (lv_cons ev_int lv_nil))) (lv_cons (ev_tup (lv_cons ev_int (lv_cons ev_int lv_nil))) lv_nil))) lv_nil)))))))))
theorem sc__law_net_right : FnScope ["tape", "nexts", "states", "net", "lengths", "state", "tail", "ring", "times", "line", "other", "due"] ["tape", "nexts", "states"] (defScope s__law_net_right) := ⟨rfl, rfl, rfl, by decide +kernel, rfl, by decide +kernel, by decide +kernel⟩
theorem b__law_net_right (M : Md K mg) : Binds K M.d__law_net_right ["tape", "nexts", "states"] [] := M.F__law_net_right.bindsN fun _ _ _ _ _ _ us hl => match us, hl with | [_, _, _], _ => rfl
theorem kw__law_net_right (M : Md K mg) : Kw0 K M.d__law_net_right ["tape", "nexts", "states"] := kw0_of M.F__law_net_right fun _ _ _ _ _ _ us hl => match us, hl with | [_, _, _], _ => rfl
def w__law_net_right : WS := (sSeq (sPar2 3 4 (mCons (vCall 1 f__law_made (lCons (vVar 1) lNil)) (mCons (vLst lNil) mNil)))
    (sSeq (sFor (iSeq (vP1 opSorted (.v 1))) (gN 5) (sExpr (vAppend 4 (vTup (lCons (vP2 opSub (.e (vC (.int 0))) (.e (vP1 opLen (.e (vP2 opIdx (.e (vCall 2 f__law_run (lCons (vVar 1) (lCons (vVar 5) lNil)))) (.e (vC (.int 0)))))))) (lCons (vVar 5) lNil))))))
    (sSeq (sIf (tvV (vP2 opNe (.e (vCall 1 f_longest_tail (lCons (vVar 3) lNil))) (.e (vTup (lCons (vP2 opSub (.e (vC (.int 0))) (.e (vP2 opIdx (.e (vP1 opMin (.v 4))) (.e (vC (.int 0)))))) (lCons (vP2 opIdx (.e (vP1 opMin (.v 4))) (.e (vC (.int 1)))) lNil)))))) (sRet (vC (.bl false))) sNil)
    (sSeq (sFor (iSeq (vVar 2)) (gN 5) (sSeq (sAsg (gT [6, 7]) (vCall 2 f__law_run (lCons (vVar 1) (lCons (vVar 5) lNil))))
    (sSeq (sIf (tvOr (tvV (vP2 opNe (.e (vCall 2 f_beat_run (lCons (vVar 3) (lCons (vVar 5) lNil)))) (.e (vTup (lCons (vVar 6) (lCons (vVar 7) lNil)))))) (tvV (vP2 opNe (.e (vCall 2 f_next_state (lCons (vVar 3) (lCons (vVar 5) lNil)))) (.e (vP2 opIdx (.v 1) (.v 5)))))) (sRet (vC (.bl false))) sNil)
    (sSeq (sFor (iSeq (vLst (lCons (vC (.int 0)) (lCons (vC (.int 1)) (lCons (vC (.int 2)) (lCons (vC (.int 3)) (lCons (vP1 opLen (.v 6)) (lCons (vP2 opAdd (.e (vP1 opLen (.v 6))) (.e (vP1 opLen (.v 7)))) (lCons (vCall 2 f__law_draw (lCons (vVar 0) (lCons (vC (.int 100)) lNil))) (lCons (vP2 opSub (.e (vP2 opPow (.e (vC (.int 10))) (.e (vC (.int 18))))) (.e (vCall 2 f__law_draw (lCons (vVar 0) (lCons (vC (.int 50)) lNil))))) lNil)))))))))) (gN 8) (sSeq (sSet 11 (vIf (tvV (vP2 opLt (.v 8) (.e (vP1 opLen (.v 6))))) (vP2 opIdx (.v 6) (.v 8)) (vP2 opIdx (.v 7) (.e (vP2 opMod (.e (vP1 opInt (.e (vP2 opSub (.v 8) (.e (vP1 opLen (.v 6))))))) (.e (vP1 opLen (.v 7))))))))
    (sIf (tvV (vP2 opNe (.e (vCall 3 f_after (lCons (vVar 3) (lCons (vVar 5) (lCons (vVar 8) lNil))))) (.v 11))) (sRet (vC (.bl false))) sNil)))
    (sSeq (sSet 9 (vP2 opAdd (.v 6) (.v 7)))
    (sFor (iSeq (vP1 opSorted (.v 1))) (gN 10) (sIf (tvV (vP2 opNe (.e (vCall 3 f_beat_time (lCons (vVar 3) (lCons (vVar 5) (lCons (vVar 10) lNil))))) (.e (vIf (tvV (vP2 opIn (.v 10) (.v 9))) (vIndexT "tuple" (.v 9) (vVar 10)) (vC .non))))) (sRet (vC (.bl false))) sNil)))))))
    (sRet (vC (.bl true)))))))
def f__law_net_right : Fn := fnV 12 w__law_net_right
theorem ok__law_net_right (M : Md K mg) : FnOk P w K mg base CX0 8 (He.ga K "_law_net_right") M.d__law_net_right ["tape", "nexts", "states"] (spV (GG K w (tapeT tp)) 3 f__law_net_right) := by
  refine fn_okD (N := ["tape", "nexts", "states", "net", "lengths", "state", "tail", "ring", "times", "line", "other", "due"]) (ws := w__law_net_right) M.F__law_net_right sc__law_net_right rfl fun cdv A outer s H E hr => ?_
  exact (ssv_cons (sv_par2 (i := 3) (j := 4) rfl sc__law_net_right.nd rfl rfl (by decide) rfl rfl (mv_cons (ev_call (ok__law_made M) (hr.mono (by decide)) rfl M.g__law_made M.F__law_made.kp (b__law_made M) (lv_cons (ev_var (pv 1)) lv_nil)) (mv_cons (ev_lst lv_nil) mv_nil)))
    (ssv_cons (sv_for PassesOwn.never rfl (iv_list (ev_callB1 (PV.cr_sorted rfl (hu_of hr)) rfl M.z_sorted PyProof.Rows.boot_sorted (ov_v (pv 1)))) (gv_name (i := 5) sc__law_net_right.nd rfl (by first | exact .inl rfl | exact .inr rfl)) (ssv_one (sv_expr (ev_append (pv 4) (ev_tup (lv_cons (ev_op or_sub (ov_e ev_int) (ov_e (ev_callB1 (cr_len rfl) rfl M.z_len PySem.boot_len (ov_e (ev_idx rfl (hu_of hr) (ov_e (ev_call (ok__law_run M) (hr.mono (by decide)) rfl M.g__law_run M.F__law_run.kp (b__law_run M) (lv_cons (ev_var (pv 1)) (lv_cons (ev_var (pv 5)) lv_nil)))) (ov_e ev_int)))))) (lv_cons (ev_var (pv 5)) lv_nil)))))))
    (ssv_cons (sv_if (tv_cmp (or_ne (hu64 hr)) (ov_e (ev_call (ok_longest_tail M) (hr.mono (by decide)) rfl M.g_longest_tail M.F_longest_tail.kp (b_longest_tail M) (lv_cons (ev_var (pv 3)) lv_nil))) (ov_e (ev_tup (lv_cons (ev_op or_sub (ov_e ev_int) (ov_e (ev_idx rfl (hu_of hr) (ov_e (ev_callB1 (PV.cr_min rfl (hu_of hr)) rfl M.z_min PyProof.Rows.boot_min (ov_v (pv 4)))) (ov_e ev_int)))) (lv_cons (ev_idx rfl (hu_of hr) (ov_e (ev_callB1 (PV.cr_min rfl (hu_of hr)) rfl M.z_min PyProof.Rows.boot_min (ov_v (pv 4)))) (ov_e ev_int)) lv_nil))))) (ssv_one (sv_ret ev_bl)) ssv_nil)
    (ssv_cons (sv_for PassesOwn.never rfl (iv_list (ev_var (pv 2))) (gv_name (i := 5) sc__law_net_right.nd rfl (by first | exact .inl rfl | exact .inr rfl)) (ssv_cons (sv_asg (ev_call (ok__law_run M) (hr.mono (by decide)) rfl M.g__law_run M.F__law_run.kp (b__law_run M) (lv_cons (ev_var (pv 1)) (lv_cons (ev_var (pv 5)) lv_nil))) (gv_tup rfl (gsv_cons (i := 6) sc__law_net_right.nd rfl (by first | exact .inl rfl | exact .inr rfl) (gsv_cons (i := 7) sc__law_net_right.nd rfl (by first | exact .inl rfl | exact .inr rfl) gsv_nil))))
    (ssv_cons (sv_if (tw_pt (tw_or (tv_cmp (or_ne (hu64 hr)) (ov_e (ev_callK (ok_beat_run M) (hr.mono (by decide)) rfl M.g_beat_run M.F_beat_run.kp (kw_beat_run M) rfl (kv_cons (ev_var (pv 3)) (kv_cons (ev_var (pv 5)) kv_nil)))) (ov_e (ev_tup (lv_cons (ev_var (pv 6)) (lv_cons (ev_var (pv 7)) lv_nil))))) (tw_or1 (tv_cmp (or_ne (hu64 hr)) (ov_e (ev_call (ok_next_state M) (hr.mono (by decide)) rfl M.g_next_state M.F_next_state.kp (b_next_state M) (lv_cons (ev_var (pv 3)) (lv_cons (ev_var (pv 5)) lv_nil)))) (ov_e (ev_idx rfl (hu_of hr) (ov_v (pv 1)) (ov_v (pv 5)))))))) (ssv_one (sv_ret ev_bl)) ssv_nil)
    (ssv_cons (sv_for PassesOwn.never rfl (iv_list (ev_lst (lv_cons ev_int (lv_cons ev_int (lv_cons ev_int (lv_cons ev_int (lv_cons (ev_callB1 (cr_len rfl) rfl M.z_len PySem.boot_len (ov_v (pv 6))) (lv_cons (ev_op or_add (ov_e (ev_callB1 (cr_len rfl) rfl M.z_len PySem.boot_len (ov_v (pv 6)))) (ov_e (ev_callB1 (cr_len rfl) rfl M.z_len PySem.boot_len (ov_v (pv 7))))) (lv_cons (ev_call (ok__law_draw M) (hr.mono (by decide)) rfl M.g__law_draw M.F__law_draw.kp (b__law_draw M) (lv_cons (ev_var (pv 0)) (lv_cons ev_int lv_nil))) (lv_cons (ev_op or_sub (ov_e (ev_op or_pow (ov_e ev_int) (ov_e ev_int))) (ov_e (ev_call (ok__law_draw M) (hr.mono (by decide)) rfl M.g__law_draw M.F__law_draw.kp (b__law_draw M) (lv_cons (ev_var (pv 0)) (lv_cons ev_int lv_nil))))) lv_nil)))))))))) (gv_name (i := 8) sc__law_net_right.nd rfl (by first | exact .inl rfl | exact .inr rfl)) (ssv_cons (sv_set (i := 11) sc__law_net_right.nd rfl (by first | exact .inl rfl | exact .inr rfl) (ev_if (tv_cmp (or_lt) (ov_v (pv 8)) (ov_e (ev_callB1 (cr_len rfl) rfl M.z_len PySem.boot_len (ov_v (pv 6))))) (ev_idx rfl (hu_of hr) (ov_v (pv 6)) (ov_v (pv 8))) (ev_idx rfl (hu_of hr) (ov_v (pv 7)) (ov_e (ev_op or_mod (ov_e (ev_callTy1 (cr_int) rfl M.z_int (by decide +kernel) (ov_e (ev_op or_sub (ov_v (pv 8)) (ov_e (ev_callB1 (cr_len rfl) rfl M.z_len PySem.boot_len (ov_v (pv 6)))))))) (ov_e (ev_callB1 (cr_len rfl) rfl M.z_len PySem.boot_len (ov_v (pv 7)))))))))
    (ssv_one (sv_if (tv_cmp (or_ne (hu64 hr)) (ov_e (ev_callK (ok_after M) (hr.mono (by decide)) rfl M.g_after M.F_after.kp (kw_after M) rfl (kv_cons (ev_var (pv 3)) (kv_cons (ev_var (pv 5)) (kv_cons (ev_var (pv 8)) kv_nil))))) (ov_v (pv 11))) (ssv_one (sv_ret ev_bl)) ssv_nil))))
    (ssv_cons (sv_set (i := 9) sc__law_net_right.nd rfl (by first | exact .inl rfl | exact .inr rfl) (ev_op or_add (ov_v (pv 6)) (ov_v (pv 7))))
    (ssv_one (sv_for PassesOwn.never rfl (iv_list (ev_callB1 (PV.cr_sorted rfl (hu_of hr)) rfl M.z_sorted PyProof.Rows.boot_sorted (ov_v (pv 1)))) (gv_name (i := 10) sc__law_net_right.nd rfl (by first | exact .inl rfl | exact .inr rfl)) (ssv_one (sv_if (tv_cmp (or_ne (hu64 hr)) (ov_e (ev_call (ok_beat_time M) (hr.mono (by decide)) rfl M.g_beat_time M.F_beat_time.kp (b_beat_time M) (lv_cons (ev_var (pv 3)) (lv_cons (ev_var (pv 5)) (lv_cons (ev_var (pv 10)) lv_nil))))) (ov_e (ev_if (tv_cmp (or_in rfl (hu_of hr)) (ov_v (pv 10)) (ov_v (pv 9))) (ev_index (.inr ⟨rfl, rfl⟩) PySem.F.plainAttrs_tuple PySem.F.slot_tuple_index PySem.F.type_tuple_index (hu_of hr) (ov_v (pv 9)) (ev_var (pv 10))) ev_non))) (ssv_one (sv_ret ev_bl)) ssv_nil)))))))))
    (ssv_one (sv_ret ev_bl))))))
theorem sc_law : FnScope ["script", "tape", "nexts", "lap", "four", "two", "item"] ["script"] (defScope s_law) := ⟨rfl, rfl, rfl, by decide +kernel, rfl, by decide +kernel, by decide +kernel⟩
def w_law (n : Nat) : WS := (sSeq (sFor (iSeq (vCall 2 f__law_small_nets (lCons (vVar 1) (lCons (vC (.int 4)) lNil)))) (gN 2) (sIf (tvNot (tvV (vCall 3 f__law_net_right (lCons (vVar 1) (lCons (vVar 2) (lCons (vP1 opSorted (.v 2)) lNil)))))) (sRet (vC (.bl false))) sNil))
    (sSeq (sFor (iRange1 (lCons (vP2 opAdd (.e (vC (.int 3))) (.e (vP2 opMin2 (.e (vScrLen n 0)) (.e (vC (.int 7)))))) lNil)) (gN 3) (sSeq (sSet 2 (vCall 2 f__law_net (lCons (vVar 1) (lCons (vC (.int 5)) lNil))))
    (sIf (tvNot (tvV (vCall 3 f__law_net_right (lCons (vVar 1) (lCons (vVar 2) (lCons (vLc (iRange1 (lCons (vC (.int 4)) lNil)) (gN 6) tvYes (vCall 2 f__law_pick (lCons (vVar 1) (lCons (vP1 opSorted (.v 2)) lNil))) [6]) lNil)))))) (sRet (vC (.bl false))) sNil)))
    (sSeq (sPar2 4 5 (mCons (vCall 1 f__law_made (lCons (vCall 0 f__law_four lNil) lNil)) (mCons (vMake 1 f_Net_init (lCons (vLst (lCons (vTup (lCons (vC (.int 1)) (lCons (vC (.int 0)) (lCons (vC (.int 1)) (lCons (vC (.int 0)) lNil))))) (lCons (vTup (lCons (vC (.int 1)) (lCons (vC (.int 1)) (lCons (vC (.int 0)) (lCons (vC (.int 0)) lNil))))) lNil))) lNil)) mNil)))
    (sSeq (sIf (tvOr (tvV (vP2 opNe (.e (vCall 2 f_beat_run (lCons (vVar 5) (lCons (vTup (lCons (vC (.int 0)) (lCons (vC (.int 0)) lNil))) lNil)))) (.e (vTup (lCons (vTup lNil) (lCons (vTup (lCons (vTup (lCons (vC (.int 0)) (lCons (vC (.int 0)) lNil))) (lCons (vTup (lCons (vC (.int 1)) (lCons (vC (.int 1)) lNil))) lNil))) lNil)))))) (tvOr (tvV (vP2 opNe (.e (vCall 3 f_after (lCons (vVar 4) (lCons (vTup (lCons (vC (.int 0)) (lCons (vC (.int 0)) lNil))) (lCons (vP2 opSub (.e (vP2 opPow (.e (vC (.int 10))) (.e (vC (.int 18))))) (.e (vC (.int 1)))) lNil))))) (.e (vTup (lCons (vC (.int 0)) (lCons (vC (.int 1)) lNil)))))) (tvV (vP2 opNe (.e (vCall 3 f_beat_time (lCons (vVar 4) (lCons (vTup (lCons (vC (.int 0)) (lCons (vC (.int 1)) lNil))) (lCons (vTup (lCons (vC (.int 1)) (lCons (vC (.int 1)) lNil))) lNil))))) (.e (vC (.int 3))))))) (sRet (vC (.bl false))) sNil)
    (sRet (vAnd (vP2 opIsN (.e (vCall 3 f_beat_time (lCons (vVar 5) (lCons (vTup (lCons (vC (.int 0)) (lCons (vC (.int 1)) lNil))) (lCons (vTup (lCons (vC (.int 1)) (lCons (vC (.int 0)) lNil))) lNil))))) (.e (vC .non))) (vAnd (vP2 opEq (.e (vCall 1 f_longest_tail (lCons (vMake 1 f_Net_init (lCons (vLst (lCons (vTup (lCons (vC (.int 1)) (lCons (vC (.int 1)) lNil))) lNil)) lNil)) lNil))) (.e (vTup (lCons (vC (.int 1)) (lCons (vTup (lCons (vC (.int 0)) lNil)) lNil))))) (vEqO 0 f_Net_eq (vVar 4) (vMake 1 f_Net_init (lCons (vLst (lCons (vTup (lCons (vC (.int 1)) (lCons (vC (.int 0)) (lCons (vC (.int 1)) (lCons (vC (.int 0)) lNil))))) (lCons (vTup (lCons (vC (.int 0)) (lCons (vC (.int 0)) (lCons (vC (.int 1)) (lCons (vC (.int 1)) lNil))))) lNil))) lNil))))))))))
def LawX (P : Program) (w : World) (K : PySem.W.Frag) (mg : Str → Option Value) (base : Heap) (f : Addr) (cdv : Value) (A : Around) (outer : List Env) (s : Shared) (H : Hp) (E : XK) : Cx := (cxOf CX0 P w K mg base ["script", "tape", "nexts", "lap", "four", "two", "item"] "law" (defScope s_law) f cdv A outer s H E).nox
theorem ssv_law (M : Md K mg) {tp : Tp} (hk : tp.K = K) {f : Addr} {cdv : Value} {A : Around} {outer : List Env} {s : Shared} {H : Hp} {E : XK} (hr : Room 8 (A.deeper (envOfC "law" (defScope s_law) s.heap.objs.size f cdv))) :
    SSV (LawX P w K mg base f cdv A outer s H E) (GG K w (tapeT tp)) (defBody s_law).tail (w_law tp.ss.length) := by
  subst hk
  exact (ssv_cons (sv_for PassesOwn.never rfl (iv_list (ev_call (ok__law_small_nets M) (hr.mono (by decide)) rfl M.g__law_small_nets M.F__law_small_nets.kp (b__law_small_nets M) (lv_cons (ev_var (pv 1)) (lv_cons ev_int lv_nil)))) (gv_name (i := 2) sc_law.nd rfl (by first | exact .inl rfl | exact .inr rfl)) (ssv_one (sv_if (tv_not (tv_val (ev_call (ok__law_net_right M) (hr.mono (by decide)) rfl M.g__law_net_right M.F__law_net_right.kp (b__law_net_right M) (lv_cons (ev_var (pv 1)) (lv_cons (ev_var (pv 2)) (lv_cons (ev_callB1 (PV.cr_sorted rfl (hu_of hr)) rfl M.z_sorted PyProof.Rows.boot_sorted (ov_v (pv 2))) lv_nil)))))) (ssv_one (sv_ret ev_bl)) ssv_nil)))
    (ssv_cons (sv_for PassesOwn.never rfl (iv_range1 rfl M.z_range (lv_cons (ev_op or_add (ov_e ev_int) (ov_e (ev_callB2 (cr_min2 rfl) rfl M.z_min PyProof.Rows.boot_min (ov_e (ev_scrLen rfl rfl rfl M.z_len (pv 0))) (ov_e ev_int)))) lv_nil)) (gv_name (i := 3) sc_law.nd rfl (by first | exact .inl rfl | exact .inr rfl)) (ssv_cons (sv_set (i := 2) sc_law.nd rfl (by first | exact .inl rfl | exact .inr rfl) (ev_call (ok__law_net M) (hr.mono (by decide)) rfl M.g__law_net M.F__law_net.kp (b__law_net M) (lv_cons (ev_var (pv 1)) (lv_cons ev_int lv_nil))))
    (ssv_one (sv_if (tv_not (tv_val (ev_call (ok__law_net_right M) (hr.mono (by decide)) rfl M.g__law_net_right M.F__law_net_right.kp (b__law_net_right M) (lv_cons (ev_var (pv 1)) (lv_cons (ev_var (pv 2)) (lv_cons (ev_lc (own := [("item", 6)]) (is := [6]) rfl sc_law.nd (iv_range1 rfl M.z_range (lv_cons ev_int lv_nil)) (blkOk_by (by kernel_rfl)) (by decide) (fun _ _ _ _ _ => (gv_name (i := 6) sc_law.nd rfl (by first | exact .inl rfl | exact .inr rfl))) (fun _ _ _ _ _ => tsv_nil) (fun _ _ _ _ _ => (ev_call (ok__law_pick M) (hr.mono (by decide)) rfl M.g__law_pick M.F__law_pick.kp (b__law_pick M) (lv_cons (ev_var (pv 1)) (lv_cons (ev_callB1 (PV.cr_sorted rfl (hu_of hr)) rfl M.z_sorted PyProof.Rows.boot_sorted (ov_v (pv 2))) lv_nil))))) lv_nil)))))) (ssv_one (sv_ret ev_bl)) ssv_nil))))
    (ssv_cons (sv_par2 (i := 4) (j := 5) rfl sc_law.nd rfl rfl (by decide) rfl rfl (mv_cons (ev_call (ok__law_made M) (hr.mono (by decide)) rfl M.g__law_made M.F__law_made.kp (b__law_made M) (lv_cons (ev_callK (ok__law_four M) (hr.mono (by decide)) rfl M.g__law_four M.F__law_four.kp (kw__law_four M) rfl kv_nil) lv_nil)) (mv_cons (ev_make M.mkc (ok_Net_init M) (hr.mono (by decide)) rfl M.g_Net (b_Net_init M) (lv_cons (ev_lst (lv_cons (ev_tup (lv_cons ev_int (lv_cons ev_int (lv_cons ev_int (lv_cons ev_int lv_nil))))) (lv_cons (ev_tup (lv_cons ev_int (lv_cons ev_int (lv_cons ev_int (lv_cons ev_int lv_nil))))) lv_nil))) lv_nil)) mv_nil)))
    (ssv_cons (sv_if (tw_pt (tw_or (tv_cmp (or_ne (hu64 hr)) (ov_e (ev_call (ok_beat_run M) (hr.mono (by decide)) rfl M.g_beat_run M.F_beat_run.kp (b_beat_run M) (lv_cons (ev_var (pv 5)) (lv_cons (ev_tup (lv_cons ev_int (lv_cons ev_int lv_nil))) lv_nil)))) (ov_e (ev_tup (lv_cons (ev_tup lv_nil) (lv_cons (ev_tup (lv_cons (ev_tup (lv_cons ev_int (lv_cons ev_int lv_nil))) (lv_cons (ev_tup (lv_cons ev_int (lv_cons ev_int lv_nil))) lv_nil))) lv_nil))))) (tw_or (tv_cmp (or_ne (hu64 hr)) (ov_e (ev_call (ok_after M) (hr.mono (by decide)) rfl M.g_after M.F_after.kp (b_after M) (lv_cons (ev_var (pv 4)) (lv_cons (ev_tup (lv_cons ev_int (lv_cons ev_int lv_nil))) (lv_cons (ev_op or_sub (ov_e (ev_op or_pow (ov_e ev_int) (ov_e ev_int))) (ov_e ev_int)) lv_nil))))) (ov_e (ev_tup (lv_cons ev_int (lv_cons ev_int lv_nil))))) (tw_or1 (tv_cmp (or_ne (hu64 hr)) (ov_e (ev_call (ok_beat_time M) (hr.mono (by decide)) rfl M.g_beat_time M.F_beat_time.kp (b_beat_time M) (lv_cons (ev_var (pv 4)) (lv_cons (ev_tup (lv_cons ev_int (lv_cons ev_int lv_nil))) (lv_cons (ev_tup (lv_cons ev_int (lv_cons ev_int lv_nil))) lv_nil))))) (ov_e ev_int)))))) (ssv_one (sv_ret ev_bl)) ssv_nil)
    (ssv_one (sv_ret (ev_and (ev_cmp (or_is) (ov_e (ev_callK (ok_beat_time M) (hr.mono (by decide)) rfl M.g_beat_time M.F_beat_time.kp (kw_beat_time M) rfl (kv_cons (ev_var (pv 5)) (kv_cons (ev_tup (lv_cons ev_int (lv_cons ev_int lv_nil))) (kv_cons (ev_tup (lv_cons ev_int (lv_cons ev_int lv_nil))) kv_nil))))) (ov_e ev_non)) (ev_and (ev_cmp (or_eq (hu64 hr)) (ov_e (ev_call (ok_longest_tail M) (hr.mono (by decide)) rfl M.g_longest_tail M.F_longest_tail.kp (b_longest_tail M) (lv_cons (ev_make M.mkc (ok_Net_init M) (hr.mono (by decide)) rfl M.g_Net (b_Net_init M) (lv_cons (ev_lst (lv_cons (ev_tup (lv_cons ev_int (lv_cons ev_int lv_nil))) lv_nil)) lv_nil)) lv_nil))) (ov_e (ev_tup (lv_cons ev_int (lv_cons (ev_tup (lv_cons ev_int lv_nil)) lv_nil))))) (ev_one (ev_eqO (ok_Net_eq M) (hr.mono (by decide)) M.e_eq M.e_fn (b_Net_eq M) (ev_var (pv 4)) (ev_make M.mkc (ok_Net_init M) (hr.mono (by decide)) rfl M.g_Net (b_Net_init M) (lv_cons (ev_lst (lv_cons (ev_tup (lv_cons ev_int (lv_cons ev_int (lv_cons ev_int (lv_cons ev_int lv_nil))))) (lv_cons (ev_tup (lv_cons ev_int (lv_cons ev_int (lv_cons ev_int (lv_cons ev_int lv_nil))))) lv_nil))) lv_nil))))))))))))
def lawK : Nat := 9
def lawN : List Str := ["script", "tape", "nexts", "lap", "four", "two", "item"]
end
end K77
end
section
set_option autoImplicit false
set_option linter.all false
set_option maxRecDepth 100000
set_option Elab.async false
namespace K77
open PySem PySem.Spec PyProof.Rows L2 PV
def spBegun (K : PySem.W.Frag) : Sp := fun vs H Q _ => ∃ (a : Addr) (ns : List Int), vs = [.ref a] ∧ SqL K H a (ns.map V.int) ∧ ns.length ≤ 63 ∧
  ∀ (H' : Hp) (r l c : Addr), (∀ b u, H b = some u → H' b = some u) → H r = none → H l = none → H c = none → r ≠ l → r ≠ c → l ≠ c → (∃ x t, H' r = some (.dK (tkvs l c x t))) → (∃ ls : List Int, H' l = some (.lst (ls.map V.int))) → (∃ ms : List Int, H' c = some (.lst (ms.map V.int))) → Q (.ref r) H'
theorem sc__law_begun : FnScope ["script", "large", "grain"] ["script"] (defScope s__law_begun) := ⟨rfl, rfl, rfl, by decide +kernel, rfl, by decide +kernel, by decide +kernel⟩
theorem sq_keep {K : PySem.W.Frag} {H H' : Hp} {a : Addr} {xs : List V} (k : ∀ b u, H b = some u → H' b = some u) (h : SqL K H a xs) : SqL K H' a xs := by
  rcases h with (h | ⟨o, h⟩) | h
  · exact .inl (.inl (k _ _ h))
  · exact .inl (.inr ⟨o, k _ _ h⟩)
  · exact .inr h
theorem cpow : CPow 10 18 := by unfold CPow; decide
section
variable {P : Program} {w : World} {K : PySem.W.Frag} {mg : Str → Option Value} {base : Heap}
theorem ok__law_begun (z_abs : mg "abs" = none) (M : Md K mg) : FnOk P w K mg base CX0 1 (He.ga K "_law_begun") M.d__law_begun ["script"] (spBegun K) := by
  refine M.F__law_begun.ok sc__law_begun (fun vs H Q E h => ?_) (fun cdv A outer s H vs Q E hr h => ?_)
  · obtain ⟨a, ns, rfl, _⟩ := h
    rfl
  obtain ⟨a, ns, rfl, hS, h63, hQ⟩ := h
  refine ⟨_, PSs.nox (pss_cons (ps_setLc (i := 1) (own := [("grain", 2)]) (g := gName 2) rfl sc__law_begun.nd rfl rfl (sw_true rfl rfl rfl (by decide +kernel)) (pi_list (pv 0)) (blkOk_by (by kernel_rfl)) (fun _ _ _ _ _ => pg_name (i := 2) sc__law_begun.nd rfl (Or.inl rfl))
      (fun _ _ _ _ _ => pts_one (pt_cmpR op_ge (pe_callB call_abs rfl z_abs PyProof.Rows.boot_abs (pa_cons (pv 2) pa_nil)) (pe_op op_pow pe_int pe_int) (nomark _)))
      (fun _ _ _ _ _ => pe_op op_sub (pe_callB call_abs rfl z_abs PyProof.Rows.boot_abs (pa_cons (pv 2) pa_nil)) (pe_op op_pow pe_int pe_int)))
    (pss_one (ps_ret (pe_disp (pps_cons pe_str (pv 1) (pps_cons pe_str pe_int (pps_cons pe_str
      (pe_lc (own := [("grain", 2)]) (g := gName 2) rfl sc__law_begun.nd (pi_list (pv 0)) (blkOk_by (by kernel_rfl)) (fun _ _ _ _ _ => pg_name (i := 2) sc__law_begun.nd rfl (Or.inl rfl)) (fun _ _ _ _ _ => pts_nil)
        (fun _ _ _ _ _ => pe_callB call_abs rfl z_abs PyProof.Rows.boot_abs (pa_cons (pv 2) pa_nil)))
      (pps_cons pe_str pe_int pps_nil)))) (by rfl) (by rfl) (fun z => by cases z) (by decide))))), ?_⟩
  refine ⟨_, rfl, a, rfl, ⟨_, hS⟩, fun D hD => ?_⟩
  have keep : ∀ {H1 : Hp} {p : Addr} {o : HO}, H1 p = none → ∀ b u, H1 b = some u → upd H1 p o b = some u := fun hp b u e => by
    rw [upd_ne fun z => by rw [z] at e; rw [e] at hp; cases hp]
    exact e
  refine lc_list (K := K) (a := a) (xs := ns.map V.int) (fun i H1 => (∀ b u, H b = some u → H1 b = some u) ∧ ∃ ls : List Int, H1 D = some (.lst (ls.map V.int)) ∧ ls.length ≤ i) ⟨keep hD, [], upd_same, Nat.le_refl _⟩ (fun i H1 hi p => sq_keep p.1 hS) (fun i x H1 hx p => ?_) fun H1 p => ?_
  · obtain ⟨n, rfl⟩ : ∃ n, x = .int n := by
      rw [List.getElem?_map] at hx
      obtain ⟨n, _, e⟩ := Option.map_eq_some_iff.mp hx
      exact ⟨n, e.symm⟩
    obtain ⟨k1, ls, hls, hl⟩ := p
    have hi : i < ns.length := by
      have := lt_of_get hx
      rwa [List.length_map] at this
    refine ⟨rfl, ?_⟩
    refine ⟨.int n, rfl, n, rfl, 10, 18, rfl, rfl, cpow, _, _, rfl, rfl, _, rfl, ?_⟩
    refine ite2 (fun _ => ?_) fun _ => ⟨k1, ls, hls, Nat.le_succ_of_le hl⟩
    refine ⟨.int n, rfl, n, rfl, 10, 18, rfl, rfl, cpow, _, _, rfl, rfl, _, hls, ?_, ?_, ls ++ [(if n < 0 then -n else n) - 10 ^ (18 : Int).toNat], ?_, ?_⟩
    · rw [List.length_map, sizeLine_is]; omega
    · intro b u e
      rw [upd_ne fun z => by rw [z] at e; rw [e] at hD; cases hD]
      exact k1 b u e
    · rw [upd_same, List.map_append]; rfl
    · rw [List.length_append]; simp; exact hl
  · obtain ⟨k1, ls, hls, _⟩ := p
    show tDisp _ _ _ _
    intro r hr
    have nDr : D ≠ r := fun z => by rw [← z, hls] at hr; cases hr
    refine ⟨.ref D, rfl, .ref a, rfl, a, rfl, ⟨_, sq_keep (keep hr) (sq_keep k1 hS)⟩, fun C hC => ?_⟩
    have nrC : r ≠ C := fun z => by rw [← z, upd_same] at hC; cases hC
    have nDC : D ≠ C := fun z => by rw [← z, upd_ne nDr, hls] at hC; cases hC
    have hC1 : H1 C = none := by rw [upd_ne nrC.symm] at hC; exact hC
    have up : ∀ {H2 : Hp} {p : Addr} {o o' : HO}, H2 p = some o' → H p = none → (∀ b u, H b = some u → H2 b = some u) → ∀ b u, H b = some u → upd H2 p o b = some u := fun hp hn hk b u e => by
      rw [upd_ne fun z => by rw [z] at e; rw [e] at hn; cases hn]
      exact hk b u e
    have none_of : ∀ {b : Addr}, H1 b = none → H b = none := fun {b} h => by
      cases q : H b with
      | none => rfl
      | some u => rw [k1 b u q] at h; cases h
    refine lc_list (K := K) (a := a) (xs := ns.map V.int) (fun i H2 => (∀ b u, H b = some u → H2 b = some u) ∧ H2 r = some (.dK []) ∧ H2 D = some (.lst (ls.map V.int)) ∧ ∃ ms : List Int, H2 C = some (.lst (ms.map V.int)) ∧ ms.length ≤ i)
      ⟨fun b u e => keep hC b u (keep hr b u (k1 b u e)), by rw [upd_ne nrC, upd_same], by rw [upd_ne nDC, upd_ne nDr]; exact hls, [], upd_same, Nat.le_refl _⟩ (fun i H2 hi p => sq_keep p.1 hS) (fun i x H2 hx p => ?_) fun H2 p => ?_
    · obtain ⟨n, rfl⟩ : ∃ n, x = .int n := by
        rw [List.getElem?_map] at hx
        obtain ⟨n, _, e⟩ := Option.map_eq_some_iff.mp hx
        exact ⟨n, e.symm⟩
      obtain ⟨k2, h2, h3, ms, h4, hm⟩ := p
      have hi : i < ns.length := by
        have := lt_of_get hx
        rwa [List.length_map] at this
      refine ⟨rfl, ?_⟩
      unfold tYes
      refine ite2 (fun _ => ?_) fun z => absurd rfl z
      refine ⟨.int n, rfl, n, rfl, _, h4, ?_, up h4 (none_of hC1) k2, ?_, ?_, ms ++ [if n < 0 then -n else n], ?_, ?_⟩
      · rw [List.length_map, sizeLine_is]; omega
      · rw [upd_ne nrC]; exact h2
      · rw [upd_ne nDC]; exact h3
      · rw [upd_same, List.map_append]; rfl
      · rw [List.length_append]; simp; exact hm
    · obtain ⟨k2, h2, h3, ms, h4, hm⟩ := p
      refine ⟨h2, [(.inr "large", .ref D), (.inr "rest", .int 0), (.inr "cells", .ref C), (.inr "turn", .int 0)], rfl, by simp, ?_⟩
      refine hQ _ r D C (up h2 (none_of hr) k2) (none_of hr) hD (none_of hC1) nDr.symm nrC nDC ⟨0, 0, ?_⟩ ⟨ls, ?_⟩ ⟨ms, ?_⟩
      · rw [upd_same]
        congr 1
      · rw [upd_ne nDr]; exact h3
      · rw [upd_ne nrC.symm]; exact h4
end
end K77
end
section
set_option autoImplicit false
set_option linter.all false
set_option maxRecDepth 100000
set_option Elab.async false
namespace K77
open PySem PySem.Spec PyProof.Rows L2 PV
def spLaw (K : PySem.W.Frag) : Sp := fun vs H Q _ => ∃ (a : Addr) (ns : List Int), vs = [.ref a] ∧ SqL K H a (ns.map V.int) ∧ ns.length ≤ 63 ∧ ∀ H', Q (.bl true) H'
/-- the plain law -/
def LawTrue : Prop := ∀ n : Nat, n ≤ 63 → w_law n { nx := fun _ => False, rt := fun r => r = .sh (.bl true) } [.sh (.scr n), .sh .tape, .no, .no, .no, .no, .no]
section
variable {P : Program} {w : World} {K : PySem.W.Frag} {mg : Str → Option Value} {base : Heap}
def tAllS (K : PySem.W.Frag) (w : World) : TS := fun D σ H => ∃ tp : Tp, tp.K = K ∧ tS (GG K w (tapeT tp)) (w_law tp.ss.length) D σ H
theorem ok_law (M : Md K mg) (LT : LawTrue) : FnOk P w K mg base CX0 lawK (He.ga K "law") M.d_law ["script"] (spLaw K) := by
  refine M.F_law.ok sc_law (fun vs H Q E h => ?_) (fun cdv A outer s H vs Q E hr h => ?_)
  · obtain ⟨a, ns, rfl, _⟩ := h
    rfl
  obtain ⟨a, ns, rfl, hS, h63, hQ⟩ := h
  have rest : PSs (LawX P w K mg base (He.ga K "law") cdv A outer s H E) (defBody s_law).tail (tAllS K w) := ⟨fun pins s' σ H' D I q => by
    obtain ⟨tp, hk, q⟩ := q
    exact (ssv_law M hk hr).run.run pins s' σ H' D I q⟩
  have all : PSs (LawX P w K mg base (He.ga K "law") cdv A outer s H E) (defBody s_law) (tSeq (tAsg (tCall (spBegun K) [] E0 (tCons (tVar 0) tNil)) (gName 1)) (tAllS K w)) :=
    pss_cons (ps_set (i := 1) sc_law.nd rfl (Or.inr rfl) (pe_call (ok__law_begun M.z_abs M) (hr.mono (by decide)) rfl M.g__law_begun M.F__law_begun.kp (M.F__law_begun.bindsN fun _ _ _ _ _ _ us hl => match us, hl with | [_], _ => rfl) .nil pass0 (pa_cons (pv 0) pa_nil))) rest
  refine ⟨_, PSs.nox all, ?_⟩
  refine ⟨.ref a, rfl, a, ns, rfl, hS, h63, fun H' r l c k hr0 hl0 hc0 n1 n2 n3 hk ⟨ls, hl⟩ ⟨ms, hc⟩ => ?_⟩
  have nR : ∀ {b : Addr} {u : HO}, H b = some u → ∀ {p : Addr}, H p = none → b ≠ p := by
    intro b u hb p hp z
    rw [z, hp] at hb
    cases hb
  have scr : ∃ inH, ScrOk K a ns inH H' ∧ (inH = true → a ≠ r ∧ a ≠ l ∧ a ≠ c) := by
    rcases hS with (h | ⟨o, h⟩) | h
    · exact ⟨true, .inl (k _ _ h), fun _ => ⟨nR h hr0, nR h hl0, nR h hc0⟩⟩
    · exact ⟨true, .inr ⟨o, k _ _ h⟩, fun _ => ⟨nR h hr0, nR h hl0, nR h hc0⟩⟩
    · exact ⟨false, h, fun z => nomatch z⟩
  obtain ⟨inH, sok, hne⟩ := scr
  let tp : Tp := ⟨r, l, c, ms, K, a, ns, inH⟩
  have tok : (tapeT tp).ok H' := ⟨hk, ⟨ls, hl⟩, hc, n1, n2, n3, sok, hne⟩
  have hno : ∀ (i : Nat) (d : D), ([.sh (.scr ns.length), .sh .tape, .no, .no, .no, .no, .no] : Ev)[i]? ≠ some (.ow d) := fun i d e => by
    match i, e with
    | 0, e => cases e
    | 1, e => cases e
    | 2, e => cases e
    | 3, e => cases e
    | 4, e => cases e
    | 5, e => cases e
    | 6, e => cases e
    | n + 7, e => simp at e
  refine ⟨tp, rfl, ⟨fun _ => False, H', fun _ => False⟩, fun _ => False, [.sh (.scr ns.length), .sh .tape, .no, .no, .no, .no, .no], { nx := fun _ => False, rt := fun r => r = .sh (.bl true) }, ?_, LT ns.length h63, ?_⟩
  · refine ⟨rfl, fun i d e => ?_, fun i d e => absurd e (hno i d), fun i j b ⟨⟨d, e⟩, _⟩ => absurd e (hno i d), fun _ h => h, fun _ h => h.elim, fun _ _ _ _ => rfl, fun _ h => h, fun _ h => h.elim, tok⟩
    match i, e with
    | 0, e => cases e; exact ⟨_, rfl, .scr⟩
    | 1, e => cases e; exact ⟨_, rfl, .tape⟩
    | 2, e => cases e
    | 3, e => cases e
    | 4, e => cases e
    | 5, e => cases e
    | 6, e => cases e
    | n + 7, e => simp at e
  · refine ⟨fun _ _ _ _ _ z => z.elim, fun v σ' H2 rr env' F' R q e => ?_, fun _ _ _ _ _ z => z.elim, fun _ _ _ _ _ z => z.elim⟩
    subst e
    rw [rep_bl q]
    exact hQ H2
end
end K77
end
section
set_option autoImplicit false
set_option linter.all false
set_option maxRecDepth 100000
set_option Elab.async false
namespace PV
theorem opLe_int {i j : Int} : opLe (.int i) (.int j) = some (.sh (.bl (decide (i ≤ j)))) := rfl
theorem opLt_int {i j : Int} : opLt (.int i) (.int j) = some (.sh (.bl (decide (i < j)))) := rfl
theorem opLen_tup {xs : List D} : opLen (.tup xs) = some (.sh (.int xs.length)) := rfl
theorem opLen_lst {xs : List D} : opLen (.lst xs) = some (.sh (.int xs.length)) := rfl
theorem opLen_dct {xs : List (D × D)} : opLen (.dct xs) = some (.sh (.int xs.length)) := rfl
theorem opTuple_lst {xs : List D} : opTuple (.lst xs) = some (.sh (.tup xs)) := rfl
end PV
namespace K77
open PySem PySem.Spec PyProof.Rows L2 PV
theorem p_is_number {i : Int} {K : Rv → Prop} (h : K (.sh (.bl true))) : f_is_number [.int i] K := h
theorem p_is_between {i lo hi : Int} {K : Rv → Prop} (h1 : lo ≤ i) (h2 : i ≤ hi) (h : K (.sh (.bl true))) : f_is_between [.int i, .int lo, .int hi] K := by
  unfold f_is_between w_is_between
  simp only [fnV, env0, List.map_cons, List.map_nil, List.length_cons, List.length_nil, List.replicate, List.cons_append, List.nil_append, Nat.zero_add, Nat.reduceAdd, Nat.reduceSub, Nat.sub_self,
  sNil, sSeq, sBreak, sCont, sExpr, sRet, sRetN, sIf, sSet, sAsg, sPar2, sPar3, sFor, sSetIdx, sSetFld, gN, gT, setAll, vC, vVar, vMove, vP1, vP2, vP3, kP, vChain, evO, evOs, getR, vTup, vLst, lNil, lCons, lStar, mNil, mCons, vCall, vCallD, vFld, vProp, tvV, kB, tvNot, tvAnd, tvOr, vNot, vAnd, vOr, vIf, iSeq, iTp,
  vAppend, vIndexT, vCut, evP, vDnew, vMake, Rv.d, Rv.sl, restE, wipeE, tvYes, List.getElem?_cons_zero, List.getElem?_cons_succ, List.set_cons_zero, List.set_cons_succ, true_and, and_true, Bool.not_true, Bool.not_false, List.append_nil, decide_true, decide_false, List.getD_cons_zero, List.getD_cons_succ]
  refine p_is_number ?_
  simp only [fnV, env0, List.map_cons, List.map_nil, List.length_cons, List.length_nil, List.replicate, List.cons_append, List.nil_append, Nat.zero_add, Nat.reduceAdd, Nat.reduceSub, Nat.sub_self,
  sNil, sSeq, sBreak, sCont, sExpr, sRet, sRetN, sIf, sSet, sAsg, sPar2, sPar3, sFor, sSetIdx, sSetFld, gN, gT, setAll, vC, vVar, vMove, vP1, vP2, vP3, kP, vChain, evO, evOs, getR, vTup, vLst, lNil, lCons, lStar, mNil, mCons, vCall, vCallD, vFld, vProp, tvV, kB, tvNot, tvAnd, tvOr, vNot, vAnd, vOr, vIf, iSeq, iTp,
  vAppend, vIndexT, vCut, evP, vDnew, vMake, Rv.d, Rv.sl, restE, wipeE, tvYes, List.getElem?_cons_zero, List.getElem?_cons_succ, List.set_cons_zero, List.set_cons_succ, true_and, and_true, Bool.not_true, Bool.not_false, List.append_nil, decide_true, decide_false, List.getD_cons_zero, List.getD_cons_succ, opLe_int, h1, h2]
  exact h
theorem p_is_list {xs : List D} {K : Rv → Prop} (h : K (.sh (.bl true))) : f_is_list [.lst xs] K := h
/-- [is_between(item, low, high) for item in thing] -/
theorem p_items {n lo hi : Int} {thing : Sl} : ∀ (xs : List Int) (acc : List D) (K : List D → Ev → Prop), (∀ x ∈ xs, lo ≤ x ∧ x ≤ hi) → K (acc ++ xs.map fun _ => .bl true) [thing, .sh (.int n), .sh (.int lo), .sh (.int hi), .no] →
    lcL (gN 4) tvYes (vCall 3 f_is_between (lCons (vVar 4) (lCons (vVar 2) (lCons (vVar 3) lNil)))) [4] (iL xs) acc [thing, .sh (.int n), .sh (.int lo), .sh (.int hi), .no] K
  | [], acc, K, _, h => by
    rw [List.map_nil, List.append_nil] at h
    exact h
  | x :: xs, acc, K, hx, h => by
    show lcL _ _ _ _ (.int x :: iL xs) _ _ _
    unfold lcL
    simp only [fnV, env0, List.map_cons, List.map_nil, List.length_cons, List.length_nil, List.replicate, List.cons_append, List.nil_append, Nat.zero_add, Nat.reduceAdd, Nat.reduceSub, Nat.sub_self,
  sNil, sSeq, sBreak, sCont, sExpr, sRet, sRetN, sIf, sSet, sAsg, sPar2, sPar3, sFor, sSetIdx, sSetFld, gN, gT, setAll, vC, vVar, vMove, vP1, vP2, vP3, kP, vChain, evO, evOs, getR, vTup, vLst, lNil, lCons, lStar, mNil, mCons, vCall, vCallD, vFld, vProp, tvV, kB, tvNot, tvAnd, tvOr, vNot, vAnd, vOr, vIf, iSeq, iTp,
  vAppend, vIndexT, vCut, evP, vDnew, vMake, Rv.d, Rv.sl, restE, wipeE, tvYes, List.getElem?_cons_zero, List.getElem?_cons_succ, List.set_cons_zero, List.set_cons_succ, true_and, and_true, Bool.not_true, Bool.not_false, List.append_nil, decide_true, decide_false, List.getD_cons_zero, List.getD_cons_succ]
    refine p_is_between (hx x (by simp)).1 (hx x (by simp)).2 ?_
    simp only [fnV, env0, List.map_cons, List.map_nil, List.length_cons, List.length_nil, List.replicate, List.cons_append, List.nil_append, Nat.zero_add, Nat.reduceAdd, Nat.reduceSub, Nat.sub_self,
  sNil, sSeq, sBreak, sCont, sExpr, sRet, sRetN, sIf, sSet, sAsg, sPar2, sPar3, sFor, sSetIdx, sSetFld, gN, gT, setAll, vC, vVar, vMove, vP1, vP2, vP3, kP, vChain, evO, evOs, getR, vTup, vLst, lNil, lCons, lStar, mNil, mCons, vCall, vCallD, vFld, vProp, tvV, kB, tvNot, tvAnd, tvOr, vNot, vAnd, vOr, vIf, iSeq, iTp,
  vAppend, vIndexT, vCut, evP, vDnew, vMake, Rv.d, Rv.sl, restE, wipeE, tvYes, List.getElem?_cons_zero, List.getElem?_cons_succ, List.set_cons_zero, List.set_cons_succ, true_and, and_true, Bool.not_true, Bool.not_false, List.append_nil, decide_true, decide_false, List.getD_cons_zero, List.getD_cons_succ]
    refine p_items xs _ K (fun y hy => hx y (by simp [hy])) ?_
    simpa using h
theorem opAll_trues {α : Type} : ∀ xs : List α, opAll (.lst (xs.map fun _ => .bl true)) = some (.sh (.bl true)) := by
  intro xs
  have h : opBls (xs.map fun _ => D.bl true) = some (xs.map fun _ => true) := by
    induction xs with
    | nil => rfl
    | cons x xs ih => simp [opBls, ih]
  simp [opAll, h]
theorem p_is_tuple_of {xs : List Int} {lo hi : Int} {K : Rv → Prop} (hx : ∀ x ∈ xs, lo ≤ x ∧ x ≤ hi) (hl : xs.length ≤ 16777216) (h : K (.sh (.bl true))) : f_is_tuple_of [stD xs, .int xs.length, .int lo, .int hi] K := by
  unfold f_is_tuple_of w_is_tuple_of
  have e : opIsi ["tuple"] (stD xs) = some (.sh (.bl true)) := rfl
  have e2 : opLen (stD xs) = some (.sh (.int xs.length)) := by simp [stD, opLen, iL]
  simp only [fnV, env0, List.map_cons, List.map_nil, List.length_cons, List.length_nil, List.replicate, List.cons_append, List.nil_append, Nat.zero_add, Nat.reduceAdd, Nat.reduceSub, Nat.sub_self,
  sNil, sSeq, sBreak, sCont, sExpr, sRet, sRetN, sIf, sSet, sAsg, sPar2, sPar3, sFor, sSetIdx, sSetFld, gN, gT, setAll, vC, vVar, vMove, vP1, vP2, vP3, kP, vChain, evO, evOs, getR, vTup, vLst, lNil, lCons, lStar, mNil, mCons, vCall, vCallD, vFld, vProp, tvV, kB, tvNot, tvAnd, tvOr, vNot, vAnd, vOr, vIf, iSeq, iTp,
  vAppend, vIndexT, vCut, evP, vDnew, vMake, Rv.d, Rv.sl, restE, wipeE, tvYes, List.getElem?_cons_zero, List.getElem?_cons_succ, List.set_cons_zero, List.set_cons_succ, true_and, and_true, Bool.not_true, Bool.not_false, List.append_nil, decide_true, decide_false, List.getD_cons_zero, List.getD_cons_succ, vLc, e, e2, opEq_int, beq_self_eq_true]
  show (iL xs).length ≤ 16777216 ∧ lcL _ _ _ _ (iL xs) _ _ _
  refine ⟨by simpa [iL] using hl, p_items xs _ _ hx ?_⟩
  simp only [fnV, env0, List.map_cons, List.map_nil, List.length_cons, List.length_nil, List.replicate, List.cons_append, List.nil_append, Nat.zero_add, Nat.reduceAdd, Nat.reduceSub, Nat.sub_self,
  sNil, sSeq, sBreak, sCont, sExpr, sRet, sRetN, sIf, sSet, sAsg, sPar2, sPar3, sFor, sSetIdx, sSetFld, gN, gT, setAll, vC, vVar, vMove, vP1, vP2, vP3, kP, vChain, evO, evOs, getR, vTup, vLst, lNil, lCons, lStar, mNil, mCons, vCall, vCallD, vFld, vProp, tvV, kB, tvNot, tvAnd, tvOr, vNot, vAnd, vOr, vIf, iSeq, iTp,
  vAppend, vIndexT, vCut, evP, vDnew, vMake, Rv.d, Rv.sl, restE, wipeE, tvYes, List.getElem?_cons_zero, List.getElem?_cons_succ, List.set_cons_zero, List.set_cons_succ, true_and, and_true, Bool.not_true, Bool.not_false, List.append_nil, decide_true, decide_false, List.getD_cons_zero, List.getD_cons_succ, opAll_trues]
  exact h
theorem p_is_state {m : Nat} {s : List Int} {K : Rv → Prop} (hs : s ∈ S m) (hm : m ≤ 5) (h : K (.sh (.bl true))) : f_is_state [.int m, stD s] K := by
  unfold f_is_state w_is_state
  simp only [fnV, env0, List.map_cons, List.map_nil, List.length_cons, List.length_nil, List.replicate, List.cons_append, List.nil_append, Nat.zero_add, Nat.reduceAdd, Nat.reduceSub, Nat.sub_self,
  sNil, sSeq, sBreak, sCont, sExpr, sRet, sRetN, sIf, sSet, sAsg, sPar2, sPar3, sFor, sSetIdx, sSetFld, gN, gT, setAll, vC, vVar, vMove, vP1, vP2, vP3, kP, vChain, evO, evOs, getR, vTup, vLst, lNil, lCons, lStar, mNil, mCons, vCall, vCallD, vFld, vProp, tvV, kB, tvNot, tvAnd, tvOr, vNot, vAnd, vOr, vIf, iSeq, iTp,
  vAppend, vIndexT, vCut, evP, vDnew, vMake, Rv.d, Rv.sl, restE, wipeE, tvYes, List.getElem?_cons_zero, List.getElem?_cons_succ, List.set_cons_zero, List.set_cons_succ, true_and, and_true, Bool.not_true, Bool.not_false, List.append_nil, decide_true, decide_false, List.getD_cons_zero, List.getD_cons_succ]
  obtain ⟨h1, h2⟩ := S_mem m s hs
  have e : (m : Int) = (s.length : Nat) := by rw [h1]
  rw [e]
  refine p_is_tuple_of (fun x hx => ?_) (by omega) h
  rcases h2 x hx with rfl | rfl <;> decide
/-! ### nets -/
def nextsD (m : Nat) (nx : List Int → List Int) : D := .dct (kvsD (S m) fun s => stD (nx s))
def netD (R : List D) (m : Nat) (nx : List Int → List Int) : D := .ins 0 [("own_rules", .tup R), ("own_nexts", nextsD m nx)]
structure Nt (R : List D) (m : Nat) (nx : List Int → List Int) : Prop where
  rl : R.length = m
  lo : 1 ≤ m
  hi : m ≤ 5
  cl : ∀ s ∈ S m, nx s ∈ S m
theorem lk_rules {a b : D} : List.lookup ("own_rules" : Str) [("own_rules", a), ("own_nexts", b)] = some a := by
  rw [List.lookup_cons]
  simp
theorem lk_nexts {a b : D} : List.lookup ("own_nexts" : Str) [("own_rules", a), ("own_nexts", b)] = some b := by
  have e : (("own_nexts" : Str) == "own_rules") = false := by decide
  rw [List.lookup_cons, e, List.lookup_cons]
  simp
section
variable {R : List D} {m : Nat} {nx : List Int → List Int} {s t : List Int} {K : Rv → Prop}
theorem p_need_net (h : K (.sh .non)) : f_need_net [netD R m nx, .non] K := h
theorem p_switches (N : Nt R m nx) (h : K (.sh (.int m))) : f_Net_switches [netD R m nx] K := by
  unfold f_Net_switches w_Net_switches netD
  simp only [fnV, env0, List.map_cons, List.map_nil, List.length_cons, List.length_nil, List.replicate, List.cons_append, List.nil_append, Nat.zero_add, Nat.reduceAdd, Nat.reduceSub, Nat.sub_self,
  sNil, sSeq, sBreak, sCont, sExpr, sRet, sRetN, sIf, sSet, sAsg, sPar2, sPar3, sFor, sSetIdx, sSetFld, gN, gT, setAll, vC, vVar, vMove, vP1, vP2, vP3, kP, vChain, evO, evOs, getR, vTup, vLst, lNil, lCons, lStar, mNil, mCons, vCall, vCallD, vFld, vProp, tvV, kB, tvNot, tvAnd, tvOr, vNot, vAnd, vOr, vIf, iSeq, iTp,
  vAppend, vIndexT, vCut, evP, vDnew, vMake, Rv.d, Rv.sl, restE, wipeE, tvYes, List.getElem?_cons_zero, List.getElem?_cons_succ, List.set_cons_zero, List.set_cons_succ, true_and, and_true, Bool.not_true, Bool.not_false, List.append_nil, decide_true, decide_false, List.getD_cons_zero, List.getD_cons_succ, lk_rules, opLen_tup, N.rl]
  exact h
theorem p_need_state (N : Nt R m nx) (hs : s ∈ S m) (h : K (.sh .non)) : f_need_state [netD R m nx, stD s] K := by
  unfold f_need_state w_need_state
  simp only [fnV, env0, List.map_cons, List.map_nil, List.length_cons, List.length_nil, List.replicate, List.cons_append, List.nil_append, Nat.zero_add, Nat.reduceAdd, Nat.reduceSub, Nat.sub_self,
  sNil, sSeq, sBreak, sCont, sExpr, sRet, sRetN, sIf, sSet, sAsg, sPar2, sPar3, sFor, sSetIdx, sSetFld, gN, gT, setAll, vC, vVar, vMove, vP1, vP2, vP3, kP, vChain, evO, evOs, getR, vTup, vLst, lNil, lCons, lStar, mNil, mCons, vCall, vCallD, vFld, vProp, tvV, kB, tvNot, tvAnd, tvOr, vNot, vAnd, vOr, vIf, iSeq, iTp,
  vAppend, vIndexT, vCut, evP, vDnew, vMake, Rv.d, Rv.sl, restE, wipeE, tvYes, List.getElem?_cons_zero, List.getElem?_cons_succ, List.set_cons_zero, List.set_cons_succ, true_and, and_true, Bool.not_true, Bool.not_false, List.append_nil, decide_true, decide_false, List.getD_cons_zero, List.getD_cons_succ]
  refine ⟨rfl, ?_⟩
  show f_Net_switches [netD R m nx] _
  refine p_switches N ?_
  simp only [fnV, env0, List.map_cons, List.map_nil, List.length_cons, List.length_nil, List.replicate, List.cons_append, List.nil_append, Nat.zero_add, Nat.reduceAdd, Nat.reduceSub, Nat.sub_self,
  sNil, sSeq, sBreak, sCont, sExpr, sRet, sRetN, sIf, sSet, sAsg, sPar2, sPar3, sFor, sSetIdx, sSetFld, gN, gT, setAll, vC, vVar, vMove, vP1, vP2, vP3, kP, vChain, evO, evOs, getR, vTup, vLst, lNil, lCons, lStar, mNil, mCons, vCall, vCallD, vFld, vProp, tvV, kB, tvNot, tvAnd, tvOr, vNot, vAnd, vOr, vIf, iSeq, iTp,
  vAppend, vIndexT, vCut, evP, vDnew, vMake, Rv.d, Rv.sl, restE, wipeE, tvYes, List.getElem?_cons_zero, List.getElem?_cons_succ, List.set_cons_zero, List.set_cons_succ, true_and, and_true, Bool.not_true, Bool.not_false, List.append_nil, decide_true, decide_false, List.getD_cons_zero, List.getD_cons_succ]
  refine p_is_state hs N.hi ?_
  simp only [fnV, env0, List.map_cons, List.map_nil, List.length_cons, List.length_nil, List.replicate, List.cons_append, List.nil_append, Nat.zero_add, Nat.reduceAdd, Nat.reduceSub, Nat.sub_self,
  sNil, sSeq, sBreak, sCont, sExpr, sRet, sRetN, sIf, sSet, sAsg, sPar2, sPar3, sFor, sSetIdx, sSetFld, gN, gT, setAll, vC, vVar, vMove, vP1, vP2, vP3, kP, vChain, evO, evOs, getR, vTup, vLst, lNil, lCons, lStar, mNil, mCons, vCall, vCallD, vFld, vProp, tvV, kB, tvNot, tvAnd, tvOr, vNot, vAnd, vOr, vIf, iSeq, iTp,
  vAppend, vIndexT, vCut, evP, vDnew, vMake, Rv.d, Rv.sl, restE, wipeE, tvYes, List.getElem?_cons_zero, List.getElem?_cons_succ, List.set_cons_zero, List.set_cons_succ, true_and, and_true, Bool.not_true, Bool.not_false, List.append_nil, decide_true, decide_false, List.getD_cons_zero, List.getD_cons_succ]
  exact h
theorem p_need_net_state (N : Nt R m nx) (hs : s ∈ S m) (h : K (.sh .non)) : f_need_net_state [netD R m nx, stD s] K := by
  unfold f_need_net_state w_need_net_state
  simp only [fnV, env0, List.map_cons, List.map_nil, List.length_cons, List.length_nil, List.replicate, List.cons_append, List.nil_append, Nat.zero_add, Nat.reduceAdd, Nat.reduceSub, Nat.sub_self,
  sNil, sSeq, sBreak, sCont, sExpr, sRet, sRetN, sIf, sSet, sAsg, sPar2, sPar3, sFor, sSetIdx, sSetFld, gN, gT, setAll, vC, vVar, vMove, vP1, vP2, vP3, kP, vChain, evO, evOs, getR, vTup, vLst, lNil, lCons, lStar, mNil, mCons, vCall, vCallD, vFld, vProp, tvV, kB, tvNot, tvAnd, tvOr, vNot, vAnd, vOr, vIf, iSeq, iTp,
  vAppend, vIndexT, vCut, evP, vDnew, vMake, Rv.d, Rv.sl, restE, wipeE, tvYes, List.getElem?_cons_zero, List.getElem?_cons_succ, List.set_cons_zero, List.set_cons_succ, true_and, and_true, Bool.not_true, Bool.not_false, List.append_nil, decide_true, decide_false, List.getD_cons_zero, List.getD_cons_succ]
  refine p_need_net ?_
  exact p_need_state N hs h
theorem p_next_by (N : Nt R m nx) (hs : s ∈ S m) (h : K (.sh (stD (nx s)))) : f_next_by [netD R m nx, stD s] K := by
  unfold f_next_by w_next_by
  have e : opIdx (nextsD m nx) (stD s) = some (.sh (stD (nx s))) := opIdx_kvs _ hs
  unfold netD
  simp only [fnV, env0, List.map_cons, List.map_nil, List.length_cons, List.length_nil, List.replicate, List.cons_append, List.nil_append, Nat.zero_add, Nat.reduceAdd, Nat.reduceSub, Nat.sub_self,
  sNil, sSeq, sBreak, sCont, sExpr, sRet, sRetN, sIf, sSet, sAsg, sPar2, sPar3, sFor, sSetIdx, sSetFld, gN, gT, setAll, vC, vVar, vMove, vP1, vP2, vP3, kP, vChain, evO, evOs, getR, vTup, vLst, lNil, lCons, lStar, mNil, mCons, vCall, vCallD, vFld, vProp, tvV, kB, tvNot, tvAnd, tvOr, vNot, vAnd, vOr, vIf, iSeq, iTp,
  vAppend, vIndexT, vCut, evP, vDnew, vMake, Rv.d, Rv.sl, restE, wipeE, tvYes, List.getElem?_cons_zero, List.getElem?_cons_succ, List.set_cons_zero, List.set_cons_succ, true_and, and_true, Bool.not_true, Bool.not_false, List.append_nil, decide_true, decide_false, List.getD_cons_zero, List.getD_cons_succ, lk_nexts, e]
  exact h
theorem p_next_state (N : Nt R m nx) (hs : s ∈ S m) (h : K (.sh (stD (nx s)))) : f_next_state [netD R m nx, stD s] K := by
  unfold f_next_state w_next_state
  simp only [fnV, env0, List.map_cons, List.map_nil, List.length_cons, List.length_nil, List.replicate, List.cons_append, List.nil_append, Nat.zero_add, Nat.reduceAdd, Nat.reduceSub, Nat.sub_self,
  sNil, sSeq, sBreak, sCont, sExpr, sRet, sRetN, sIf, sSet, sAsg, sPar2, sPar3, sFor, sSetIdx, sSetFld, gN, gT, setAll, vC, vVar, vMove, vP1, vP2, vP3, kP, vChain, evO, evOs, getR, vTup, vLst, lNil, lCons, lStar, mNil, mCons, vCall, vCallD, vFld, vProp, tvV, kB, tvNot, tvAnd, tvOr, vNot, vAnd, vOr, vIf, iSeq, iTp,
  vAppend, vIndexT, vCut, evP, vDnew, vMake, Rv.d, Rv.sl, restE, wipeE, tvYes, List.getElem?_cons_zero, List.getElem?_cons_succ, List.set_cons_zero, List.set_cons_succ, true_and, and_true, Bool.not_true, Bool.not_false, List.append_nil, decide_true, decide_false, List.getD_cons_zero, List.getD_cons_succ]
  refine p_need_net_state N hs ?_
  exact p_next_by N hs h
end
/-! ### the track -/
def trk (nx : List Int → List Int) : Nat → List (List Int) → List Int → List (List Int) × List (List Int)
  | 0, _, _ => ([], [])
  | n + 1, line, s => if s ∈ line then (line.take (line.idxOf s), line.drop (line.idxOf s)) else trk nx n (line ++ [s]) (nx s)
def track (m : Nat) (nx : List Int → List Int) (s : List Int) : List (List Int) × List (List Int) := trk nx (2 ^ m + 1) [] s
def trkD (p : List (List Int) × List (List Int)) : D := .tup [.tup (p.1.map stD), .tup (p.2.map stD)]
theorem opCut_lo {xs : List D} {i : Nat} (h : i ≤ xs.length) : opCut (.lst xs) none (some (i : Int)) = some (.ow (.lst (xs.take i))) := by
  simp only [opCut, PV.cutD, HT.sIx_nat, HT.sIx_none, List.drop_zero, Nat.sub_zero, Nat.min_eq_left h]
theorem opCut_hi {xs : List D} {i : Nat} (h : i ≤ xs.length) : opCut (.lst xs) (some (i : Int)) none = some (.ow (.lst (xs.drop i))) := by
  simp only [opCut, PV.cutD, HT.sIx_nat, HT.sIx_none, Nat.min_eq_left h]
  rw [List.take_of_length_le (by simp)]
theorem idx_app {line : List (List Int)} {s x : List Int} (h : x ∈ line) : (line ++ [s]).idxOf x = line.idxOf x := by
  rw [List.idxOf_append, if_pos h]
theorem idx_end {line : List (List Int)} {s : List Int} (h : s ∉ line) : (line ++ [s]).idxOf s = line.length := by
  rw [List.idxOf_append, if_neg h]
  simp
theorem nd_le : ∀ (l L : List (List Int)), l.Nodup → (∀ x ∈ l, x ∈ L) → l.length ≤ L.length
  | [], L, _, _ => Nat.zero_le _
  | x :: r, L, h, hs => by
    rw [List.nodup_cons] at h
    have hx : x ∈ L := hs x (by simp)
    have h1 := nd_le r (L.erase x) h.2 fun y hy => (List.mem_erase_of_ne fun e => by rw [e] at hy; exact h.1 hy).mpr (hs y (by simp [hy]))
    rw [List.length_erase_of_mem hx] at h1
    have : 0 < L.length := List.length_pos_of_mem hx
    simp only [List.length_cons]
    omega
structure Lin (m : Nat) (line : List (List Int)) : Prop where
  nd : line.Nodup
  sub : ∀ x ∈ line, x ∈ S m
theorem Lin.le {m : Nat} {line : List (List Int)} (L : Lin m line) : line.length ≤ 2 ^ m := by
  have := nd_le _ _ L.nd L.sub
  rwa [S_len] at this
theorem Lin.add {m : Nat} {line : List (List Int)} {s : List Int} (L : Lin m line) (h : s ∉ line) (hs : s ∈ S m) : Lin m (line ++ [s]) := by
  refine ⟨?_, fun x hx => ?_⟩
  · rw [List.nodup_append]
    refine ⟨L.nd, by simp, fun a ha b hb => ?_⟩
    simp at hb
    subst hb
    exact fun e => h (e ▸ ha)
  · rcases List.mem_append.mp hx with hx | hx
    · exact L.sub x hx
    · simp at hx
      exact hx ▸ hs
theorem p_pow5 {m : Nat} (h : m ≤ 5) : 2 ^ m ≤ 32 := Nat.pow_le_pow_right (n := 2) (by decide) h
def posD (line : List (List Int)) : D := .dct (kvsD line fun x => .int (line.idxOf x))
theorem posD_add {line : List (List Int)} {s : List Int} (h : s ∉ line) (hl : line.length < 16777216) : opSet (posD line) (stD s) (.int line.length) = some (posD (line ++ [s])) := by
  have e : posD line = .dct (kvsD line fun x => .int ((line ++ [s]).idxOf x)) := by
    unfold posD kvsD
    congr 1
    exact List.map_congr_left fun x hx => by simp only [idx_app hx]
  have e2 : D.int line.length = (fun x => D.int ((line ++ [s]).idxOf x)) s := by simp only [idx_end h]
  rw [e, e2]
  exact opSet_new _ h hl
theorem posD_at {line : List (List Int)} {s : List Int} (h : s ∈ line) : opIdx (posD line) (stD s) = some (.sh (.int (line.idxOf s))) := opIdx_kvs _ h
theorem posD_in (line : List (List Int)) (s : List Int) : opNotIn (stD s) (posD line) = some (.sh (.bl (!decide (s ∈ line)))) := by
  unfold opNotIn posD
  rw [isIn_kvs]
  rfl
section
variable {R : List D} {m : Nat} {nx : List Int → List Int} {s t : List Int} {K : Rv → Prop}
theorem p_while (N : Nt R m nx) (k : K4) : ∀ (n : Nat) (line : List (List Int)) (s : List Int), Lin m line → s ∈ S m → n + line.length = 2 ^ m + 1 →
    (∀ line' s', Lin m line' → s' ∈ line' → trk nx n line s = (line'.take (line'.idxOf s'), line'.drop (line'.idxOf s')) → k.nx [.sh (netD R m nx), .sh (stD s'), .ow (posD line'), .ow (.lst (line'.map stD))]) →
    whileN (tvV (vP2 opNotIn (.v 1) (.v 2))) (sSeq (sSetIdx 2 (.v 1) (vP1 opLen (.v 3)))
    (sSeq (sExpr (vAppend 3 (vVar 1)))
    (sSet 1 (vCall 2 f_next_by (lCons (vVar 0) (lCons (vVar 1) lNil)))))) n k [.sh (netD R m nx), .sh (stD s), .ow (posD line), .ow (.lst (line.map stD))]
  | 0, line, s, L, hs, hn, hk => by
    have := L.le
    omega
  | n + 1, line, s, L, hs, hn, hk => by
    unfold whileN
    simp only [fnV, env0, List.map_cons, List.map_nil, List.length_cons, List.length_nil, List.replicate, List.cons_append, List.nil_append, Nat.zero_add, Nat.reduceAdd, Nat.reduceSub, Nat.sub_self,
  sNil, sSeq, sBreak, sCont, sExpr, sRet, sRetN, sIf, sSet, sAsg, sPar2, sPar3, sFor, sSetIdx, sSetFld, gN, gT, setAll, vC, vVar, vMove, vP1, vP2, vP3, kP, vChain, evO, evOs, getR, vTup, vLst, lNil, lCons, lStar, mNil, mCons, vCall, vCallD, vFld, vProp, tvV, kB, tvNot, tvAnd, tvOr, vNot, vAnd, vOr, vIf, iSeq, iTp,
  vAppend, vIndexT, vCut, evP, vDnew, vMake, Rv.d, Rv.sl, restE, wipeE, tvYes, List.getElem?_cons_zero, List.getElem?_cons_succ, List.set_cons_zero, List.set_cons_succ, true_and, and_true, Bool.not_true, Bool.not_false, List.append_nil, decide_true, decide_false, List.getD_cons_zero, List.getD_cons_succ, posD_in]
    by_cases h : s ∈ line
    · simp only [fnV, env0, List.map_cons, List.map_nil, List.length_cons, List.length_nil, List.replicate, List.cons_append, List.nil_append, Nat.zero_add, Nat.reduceAdd, Nat.reduceSub, Nat.sub_self,
  sNil, sSeq, sBreak, sCont, sExpr, sRet, sRetN, sIf, sSet, sAsg, sPar2, sPar3, sFor, sSetIdx, sSetFld, gN, gT, setAll, vC, vVar, vMove, vP1, vP2, vP3, kP, vChain, evO, evOs, getR, vTup, vLst, lNil, lCons, lStar, mNil, mCons, vCall, vCallD, vFld, vProp, tvV, kB, tvNot, tvAnd, tvOr, vNot, vAnd, vOr, vIf, iSeq, iTp,
  vAppend, vIndexT, vCut, evP, vDnew, vMake, Rv.d, Rv.sl, restE, wipeE, tvYes, List.getElem?_cons_zero, List.getElem?_cons_succ, List.set_cons_zero, List.set_cons_succ, true_and, and_true, Bool.not_true, Bool.not_false, List.append_nil, decide_true, decide_false, List.getD_cons_zero, List.getD_cons_succ, h]
      refine hk line s L h ?_
      rw [trk, if_pos h]
    · have hl := L.le
      have h5 := p_pow5 N.hi
      have hl2 : line.length < 16777216 := by omega
      simp only [fnV, env0, List.map_cons, List.map_nil, List.length_cons, List.length_nil, List.replicate, List.cons_append, List.nil_append, Nat.zero_add, Nat.reduceAdd, Nat.reduceSub, Nat.sub_self,
  sNil, sSeq, sBreak, sCont, sExpr, sRet, sRetN, sIf, sSet, sAsg, sPar2, sPar3, sFor, sSetIdx, sSetFld, gN, gT, setAll, vC, vVar, vMove, vP1, vP2, vP3, kP, vChain, evO, evOs, getR, vTup, vLst, lNil, lCons, lStar, mNil, mCons, vCall, vCallD, vFld, vProp, tvV, kB, tvNot, tvAnd, tvOr, vNot, vAnd, vOr, vIf, iSeq, iTp,
  vAppend, vIndexT, vCut, evP, vDnew, vMake, Rv.d, Rv.sl, restE, wipeE, tvYes, List.getElem?_cons_zero, List.getElem?_cons_succ, List.set_cons_zero, List.set_cons_succ, true_and, and_true, Bool.not_true, Bool.not_false, List.append_nil, decide_true, decide_false, List.getD_cons_zero, List.getD_cons_succ, h, opLen_lst, List.length_map, posD_add h hl2]
      refine ⟨hl2, p_next_by N hs ?_⟩
      have e : line.map stD ++ [stD s] = (line ++ [s]).map stD := by simp
      simp only [fnV, env0, List.map_cons, List.map_nil, List.length_cons, List.length_nil, List.replicate, List.cons_append, List.nil_append, Nat.zero_add, Nat.reduceAdd, Nat.reduceSub, Nat.sub_self,
  sNil, sSeq, sBreak, sCont, sExpr, sRet, sRetN, sIf, sSet, sAsg, sPar2, sPar3, sFor, sSetIdx, sSetFld, gN, gT, setAll, vC, vVar, vMove, vP1, vP2, vP3, kP, vChain, evO, evOs, getR, vTup, vLst, lNil, lCons, lStar, mNil, mCons, vCall, vCallD, vFld, vProp, tvV, kB, tvNot, tvAnd, tvOr, vNot, vAnd, vOr, vIf, iSeq, iTp,
  vAppend, vIndexT, vCut, evP, vDnew, vMake, Rv.d, Rv.sl, restE, wipeE, tvYes, List.getElem?_cons_zero, List.getElem?_cons_succ, List.set_cons_zero, List.set_cons_succ, true_and, and_true, Bool.not_true, Bool.not_false, List.append_nil, decide_true, decide_false, List.getD_cons_zero, List.getD_cons_succ, e]
      refine p_while N k n (line ++ [s]) (nx s) (L.add h hs) (N.cl s hs) (by simp; omega) fun line' s' L' hs' e => ?_
      refine hk line' s' L' hs' ?_
      rw [trk, if_neg h]
      exact e
theorem p_beat_track (N : Nt R m nx) (hs : s ∈ S m) (h : K (.sh (trkD (track m nx s)))) : f_beat_track [netD R m nx, stD s] K := by
  unfold f_beat_track w_beat_track
  simp only [fnV, env0, List.map_cons, List.map_nil, List.length_cons, List.length_nil, List.replicate, List.cons_append, List.nil_append, Nat.zero_add, Nat.reduceAdd, Nat.reduceSub, Nat.sub_self,
  sNil, sSeq, sBreak, sCont, sExpr, sRet, sRetN, sIf, sSet, sAsg, sPar2, sPar3, sFor, sSetIdx, sSetFld, gN, gT, setAll, vC, vVar, vMove, vP1, vP2, vP3, kP, vChain, evO, evOs, getR, vTup, vLst, lNil, lCons, lStar, mNil, mCons, vCall, vCallD, vFld, vProp, tvV, kB, tvNot, tvAnd, tvOr, vNot, vAnd, vOr, vIf, iSeq, iTp,
  vAppend, vIndexT, vCut, evP, vDnew, vMake, Rv.d, Rv.sl, restE, wipeE, tvYes, List.getElem?_cons_zero, List.getElem?_cons_succ, List.set_cons_zero, List.set_cons_succ, true_and, and_true, Bool.not_true, Bool.not_false, List.append_nil, decide_true, decide_false, List.getD_cons_zero, List.getD_cons_succ, sWhile]
  refine ⟨Nat.zero_le _, 2 ^ m + 1, p_while N _ (2 ^ m + 1) [] s ⟨List.nodup_nil, fun x h => nomatch h⟩ hs rfl fun line s' L hs' e => ?_⟩
  have hi : line.idxOf s' ≤ (line.map stD).length := by
    rw [List.length_map]
    exact Nat.le_of_lt (List.idxOf_lt_length_of_mem hs')
  simp only [fnV, env0, List.map_cons, List.map_nil, List.length_cons, List.length_nil, List.replicate, List.cons_append, List.nil_append, Nat.zero_add, Nat.reduceAdd, Nat.reduceSub, Nat.sub_self,
  sNil, sSeq, sBreak, sCont, sExpr, sRet, sRetN, sIf, sSet, sAsg, sPar2, sPar3, sFor, sSetIdx, sSetFld, gN, gT, setAll, vC, vVar, vMove, vP1, vP2, vP3, kP, vChain, evO, evOs, getR, vTup, vLst, lNil, lCons, lStar, mNil, mCons, vCall, vCallD, vFld, vProp, tvV, kB, tvNot, tvAnd, tvOr, vNot, vAnd, vOr, vIf, iSeq, iTp,
  vAppend, vIndexT, vCut, evP, vDnew, vMake, Rv.d, Rv.sl, restE, wipeE, tvYes, List.getElem?_cons_zero, List.getElem?_cons_succ, List.set_cons_zero, List.set_cons_succ, true_and, and_true, Bool.not_true, Bool.not_false, List.append_nil, decide_true, decide_false, List.getD_cons_zero, List.getD_cons_succ, posD_at hs', opCut_lo hi, opCut_hi hi, opTuple_lst]
  refine ⟨by decide, ?_⟩
  have e2 : trkD (track m nx s) = .tup [.tup ((line.map stD).take (line.idxOf s')), .tup ((line.map stD).drop (line.idxOf s'))] := by
    unfold track trkD
    rw [e]
    simp [List.map_take, List.map_drop]
  rw [e2] at h
  exact h
end
/-! ### all states -/
theorem lcI_01 {s : List Int} {acc : List D} {K : List D → Ev → Prop} {a b c : Sl} (ha : acc.length < 16777215) (hs : s.length ≤ 100) (h : K (acc ++ [stD (s ++ [0]), stD (s ++ [1])]) [a, b, c, .sh (stD s), .no]) :
    lcI (gN 4) tvYes (vTup (lStar (.v 3) (lCons (vVar 4) lNil))) [4] [.int 0, .int 1] acc [a, b, c, .sh (stD s), .no] K := by
  have e0 : D.tup (iL s ++ [.int 0]) = stD (s ++ [0]) := by simp [stD, iL]
  have e1 : D.tup (iL s ++ [.int 1]) = stD (s ++ [1]) := by simp [stD, iL]
  unfold lcI
  simp only [fnV, env0, List.map_cons, List.map_nil, List.length_cons, List.length_nil, List.replicate, List.cons_append, List.nil_append, Nat.zero_add, Nat.reduceAdd, Nat.reduceSub, Nat.sub_self,
  sNil, sSeq, sBreak, sCont, sExpr, sRet, sRetN, sIf, sSet, sAsg, sPar2, sPar3, sFor, sSetIdx, sSetFld, gN, gT, setAll, vC, vVar, vMove, vP1, vP2, vP3, kP, vChain, evO, evOs, getR, vTup, vLst, lNil, lCons, lStar, mNil, mCons, vCall, vCallD, vFld, vProp, tvV, kB, tvNot, tvAnd, tvOr, vNot, vAnd, vOr, vIf, iSeq, iTp,
  vAppend, vIndexT, vCut, evP, vDnew, vMake, Rv.d, Rv.sl, restE, wipeE, tvYes, List.getElem?_cons_zero, List.getElem?_cons_succ, List.set_cons_zero, List.set_cons_succ, true_and, and_true, Bool.not_true, Bool.not_false, List.append_nil, decide_true, decide_false, List.getD_cons_zero, List.getD_cons_succ, stD]
  rw [e0]
  refine ⟨by simp [iL]; omega, by omega, ?_⟩
  unfold lcI
  simp only [fnV, env0, List.map_cons, List.map_nil, List.length_cons, List.length_nil, List.replicate, List.cons_append, List.nil_append, Nat.zero_add, Nat.reduceAdd, Nat.reduceSub, Nat.sub_self,
  sNil, sSeq, sBreak, sCont, sExpr, sRet, sRetN, sIf, sSet, sAsg, sPar2, sPar3, sFor, sSetIdx, sSetFld, gN, gT, setAll, vC, vVar, vMove, vP1, vP2, vP3, kP, vChain, evO, evOs, getR, vTup, vLst, lNil, lCons, lStar, mNil, mCons, vCall, vCallD, vFld, vProp, tvV, kB, tvNot, tvAnd, tvOr, vNot, vAnd, vOr, vIf, iSeq, iTp,
  vAppend, vIndexT, vCut, evP, vDnew, vMake, Rv.d, Rv.sl, restE, wipeE, tvYes, List.getElem?_cons_zero, List.getElem?_cons_succ, List.set_cons_zero, List.set_cons_succ, true_and, and_true, Bool.not_true, Bool.not_false, List.append_nil, decide_true, decide_false, List.getD_cons_zero, List.getD_cons_succ]
  rw [e1]
  refine ⟨by simp [iL]; omega, by simp; omega, ?_⟩
  unfold lcI
  rw [List.append_assoc]
  exact h
def dbl (L : List (List Int)) : List (List Int) := L.flatMap fun s => [s ++ [0], s ++ [1]]
theorem lcO_all {a b c : Sl} {K : List D → Ev → Prop} : ∀ (L : List (List Int)) (acc : List D), acc.length + 2 * L.length ≤ 1000 → (∀ s ∈ L, s.length ≤ 100) → K (acc ++ (dbl L).map stD) [a, b, c, .no, .no] →
    lcO (gN 3) tvYes (iTp (vTup (lCons (vC (.int 0)) (lCons (vC (.int 1)) lNil)))) (gN 4) tvYes (vTup (lStar (.v 3) (lCons (vVar 4) lNil))) [3, 4] [4] (L.map stD) acc [a, b, c, .no, .no] K
  | [], acc, _, _, h => by
    unfold lcO
    simpa [dbl] using h
  | s :: L, acc, hl, hs, h => by
    rw [List.length_cons] at hl
    rw [List.map_cons]
    unfold lcO
    simp only [fnV, env0, List.map_cons, List.map_nil, List.length_cons, List.length_nil, List.replicate, List.cons_append, List.nil_append, Nat.zero_add, Nat.reduceAdd, Nat.reduceSub, Nat.sub_self,
  sNil, sSeq, sBreak, sCont, sExpr, sRet, sRetN, sIf, sSet, sAsg, sPar2, sPar3, sFor, sSetIdx, sSetFld, gN, gT, setAll, vC, vVar, vMove, vP1, vP2, vP3, kP, vChain, evO, evOs, getR, vTup, vLst, lNil, lCons, lStar, mNil, mCons, vCall, vCallD, vFld, vProp, tvV, kB, tvNot, tvAnd, tvOr, vNot, vAnd, vOr, vIf, iSeq, iTp,
  vAppend, vIndexT, vCut, evP, vDnew, vMake, Rv.d, Rv.sl, restE, wipeE, tvYes, List.getElem?_cons_zero, List.getElem?_cons_succ, List.set_cons_zero, List.set_cons_succ, true_and, and_true, Bool.not_true, Bool.not_false, List.append_nil, decide_true, decide_false, List.getD_cons_zero, List.getD_cons_succ]
    refine ⟨by decide, lcI_01 (by omega) (hs s (by simp)) ?_⟩
    simp only [fnV, env0, List.map_cons, List.map_nil, List.length_cons, List.length_nil, List.replicate, List.cons_append, List.nil_append, Nat.zero_add, Nat.reduceAdd, Nat.reduceSub, Nat.sub_self,
  sNil, sSeq, sBreak, sCont, sExpr, sRet, sRetN, sIf, sSet, sAsg, sPar2, sPar3, sFor, sSetIdx, sSetFld, gN, gT, setAll, vC, vVar, vMove, vP1, vP2, vP3, kP, vChain, evO, evOs, getR, vTup, vLst, lNil, lCons, lStar, mNil, mCons, vCall, vCallD, vFld, vProp, tvV, kB, tvNot, tvAnd, tvOr, vNot, vAnd, vOr, vIf, iSeq, iTp,
  vAppend, vIndexT, vCut, evP, vDnew, vMake, Rv.d, Rv.sl, restE, wipeE, tvYes, List.getElem?_cons_zero, List.getElem?_cons_succ, List.set_cons_zero, List.set_cons_succ, true_and, and_true, Bool.not_true, Bool.not_false, List.append_nil, decide_true, decide_false, List.getD_cons_zero, List.getD_cons_succ]
    refine lcO_all L _ (by simp; omega) (fun x hx => hs x (by simp [hx])) ?_
    simpa [dbl] using h
theorem S_succ (n : Nat) : S (n + 1) = dbl (S n) := rfl
theorem all_loop {a : Sl} {k : K4} : ∀ (items : List D) (i : Nat) (x : Sl), i + items.length ≤ 5 → (∀ x', k.nx [a, .ow (.lst ((S (i + items.length)).map stD)), x', .no, .no]) →
    forL (gN 2) (sSet 1 (vLc2 (iSeq (vVar 1)) (gN 3) tvYes (iTp (vTup (lCons (vC (.int 0)) (lCons (vC (.int 1)) lNil)))) (gN 4) tvYes (vTup (lStar (.v 3) (lCons (vVar 4) lNil))) [3, 4] [4])) items k [a, .ow (.lst ((S i).map stD)), x, .no, .no]
  | [], i, x, _, h => h x
  | d :: items, i, x, hi, h => by
    rw [List.length_cons] at hi
    have h5 := p_pow5 (m := i) (by omega)
    have hl := S_len i
    unfold forL
    simp only [fnV, env0, List.map_cons, List.map_nil, List.length_cons, List.length_nil, List.replicate, List.cons_append, List.nil_append, Nat.zero_add, Nat.reduceAdd, Nat.reduceSub, Nat.sub_self,
  sNil, sSeq, sBreak, sCont, sExpr, sRet, sRetN, sIf, sSet, sAsg, sPar2, sPar3, sFor, sSetIdx, sSetFld, gN, gT, setAll, vC, vVar, vMove, vP1, vP2, vP3, kP, vChain, evO, evOs, getR, vTup, vLst, lNil, lCons, lStar, mNil, mCons, vCall, vCallD, vFld, vProp, tvV, kB, tvNot, tvAnd, tvOr, vNot, vAnd, vOr, vIf, iSeq, iTp,
  vAppend, vIndexT, vCut, evP, vDnew, vMake, Rv.d, Rv.sl, restE, wipeE, tvYes, List.getElem?_cons_zero, List.getElem?_cons_succ, List.set_cons_zero, List.set_cons_succ, true_and, and_true, Bool.not_true, Bool.not_false, List.append_nil, decide_true, decide_false, List.getD_cons_zero, List.getD_cons_succ, vLc2]
    refine lcO_all (S i) [] (by simp; omega) (fun s hs => by rw [(S_mem i s hs).1]; omega) ?_
    simp only [fnV, env0, List.map_cons, List.map_nil, List.length_cons, List.length_nil, List.replicate, List.cons_append, List.nil_append, Nat.zero_add, Nat.reduceAdd, Nat.reduceSub, Nat.sub_self,
  sNil, sSeq, sBreak, sCont, sExpr, sRet, sRetN, sIf, sSet, sAsg, sPar2, sPar3, sFor, sSetIdx, sSetFld, gN, gT, setAll, vC, vVar, vMove, vP1, vP2, vP3, kP, vChain, evO, evOs, getR, vTup, vLst, lNil, lCons, lStar, mNil, mCons, vCall, vCallD, vFld, vProp, tvV, kB, tvNot, tvAnd, tvOr, vNot, vAnd, vOr, vIf, iSeq, iTp,
  vAppend, vIndexT, vCut, evP, vDnew, vMake, Rv.d, Rv.sl, restE, wipeE, tvYes, List.getElem?_cons_zero, List.getElem?_cons_succ, List.set_cons_zero, List.set_cons_succ, true_and, and_true, Bool.not_true, Bool.not_false, List.append_nil, decide_true, decide_false, List.getD_cons_zero, List.getD_cons_succ, ← S_succ]
    refine all_loop items (i + 1) _ (by omega) fun x' => ?_
    have e : i + 1 + items.length = i + (d :: items).length := by simp; omega
    rw [e]
    exact h x'
theorem len_range (n : Nat) : (rangeD 0 1 n).length = n := by simp [rangeD]
theorem p_all_states {m : Nat} {K : Rv → Prop} (hm : m ≤ 5) (h : K (.ow (.lst ((S m).map stD)))) : f_all_states [.int m] K := by
  unfold f_all_states w_all_states
  simp only [fnV, env0, List.map_cons, List.map_nil, List.length_cons, List.length_nil, List.replicate, List.cons_append, List.nil_append, Nat.zero_add, Nat.reduceAdd, Nat.reduceSub, Nat.sub_self,
  sNil, sSeq, sBreak, sCont, sExpr, sRet, sRetN, sIf, sSet, sAsg, sPar2, sPar3, sFor, sSetIdx, sSetFld, gN, gT, setAll, vC, vVar, vMove, vP1, vP2, vP3, kP, vChain, evO, evOs, getR, vTup, vLst, lNil, lCons, lStar, mNil, mCons, vCall, vCallD, vFld, vProp, tvV, kB, tvNot, tvAnd, tvOr, vNot, vAnd, vOr, vIf, iSeq, iTp,
  vAppend, vIndexT, vCut, evP, vDnew, vMake, Rv.d, Rv.sl, restE, wipeE, tvYes, List.getElem?_cons_zero, List.getElem?_cons_succ, List.set_cons_zero, List.set_cons_succ, true_and, and_true, Bool.not_true, Bool.not_false, List.append_nil, decide_true, decide_false, List.getD_cons_zero, List.getD_cons_succ, iRange1]
  refine ⟨by decide, by decide, by omega, ?_⟩
  refine all_loop (rangeD 0 1 (m : Int).toNat) 0 _ (by rw [len_range]; omega) fun x' => ?_
  rw [len_range, Int.toNat_natCast, Nat.zero_add]
  simp only [fnV, env0, List.map_cons, List.map_nil, List.length_cons, List.length_nil, List.replicate, List.cons_append, List.nil_append, Nat.zero_add, Nat.reduceAdd, Nat.reduceSub, Nat.sub_self,
  sNil, sSeq, sBreak, sCont, sExpr, sRet, sRetN, sIf, sSet, sAsg, sPar2, sPar3, sFor, sSetIdx, sSetFld, gN, gT, setAll, vC, vVar, vMove, vP1, vP2, vP3, kP, vChain, evO, evOs, getR, vTup, vLst, lNil, lCons, lStar, mNil, mCons, vCall, vCallD, vFld, vProp, tvV, kB, tvNot, tvAnd, tvOr, vNot, vAnd, vOr, vIf, iSeq, iTp,
  vAppend, vIndexT, vCut, evP, vDnew, vMake, Rv.d, Rv.sl, restE, wipeE, tvYes, List.getElem?_cons_zero, List.getElem?_cons_succ, List.set_cons_zero, List.set_cons_succ, true_and, and_true, Bool.not_true, Bool.not_false, List.append_nil, decide_true, decide_false, List.getD_cons_zero, List.getD_cons_succ]
  exact h
/-! ### a net made -/
theorem p_states_many {m : Nat} {K : Rv → Prop} (hm : m ≤ 5) (h : K (.sh (.int (2 ^ m : Nat)))) : f_states_many [.int m] K := by
  unfold f_states_many w_states_many
  simp only [fnV, env0, List.map_cons, List.map_nil, List.length_cons, List.length_nil, List.replicate, List.cons_append, List.nil_append, Nat.zero_add, Nat.reduceAdd, Nat.reduceSub, Nat.sub_self,
  sNil, sSeq, sBreak, sCont, sExpr, sRet, sRetN, sIf, sSet, sAsg, sPar2, sPar3, sFor, sSetIdx, sSetFld, gN, gT, setAll, vC, vVar, vMove, vP1, vP2, vP3, kP, vChain, evO, evOs, getR, vTup, vLst, lNil, lCons, lStar, mNil, mCons, vCall, vCallD, vFld, vProp, tvV, kB, tvNot, tvAnd, tvOr, vNot, vAnd, vOr, vIf, iSeq, iTp,
  vAppend, vIndexT, vCut, evP, vDnew, vMake, Rv.d, Rv.sl, restE, wipeE, tvYes, List.getElem?_cons_zero, List.getElem?_cons_succ, List.set_cons_zero, List.set_cons_succ, true_and, and_true, Bool.not_true, Bool.not_false, List.append_nil, decide_true, decide_false, List.getD_cons_zero, List.getD_cons_succ]
  refine p_all_states hm ?_
  simp only [fnV, env0, List.map_cons, List.map_nil, List.length_cons, List.length_nil, List.replicate, List.cons_append, List.nil_append, Nat.zero_add, Nat.reduceAdd, Nat.reduceSub, Nat.sub_self,
  sNil, sSeq, sBreak, sCont, sExpr, sRet, sRetN, sIf, sSet, sAsg, sPar2, sPar3, sFor, sSetIdx, sSetFld, gN, gT, setAll, vC, vVar, vMove, vP1, vP2, vP3, kP, vChain, evO, evOs, getR, vTup, vLst, lNil, lCons, lStar, mNil, mCons, vCall, vCallD, vFld, vProp, tvV, kB, tvNot, tvAnd, tvOr, vNot, vAnd, vOr, vIf, iSeq, iTp,
  vAppend, vIndexT, vCut, evP, vDnew, vMake, Rv.d, Rv.sl, restE, wipeE, tvYes, List.getElem?_cons_zero, List.getElem?_cons_succ, List.set_cons_zero, List.set_cons_succ, true_and, and_true, Bool.not_true, Bool.not_false, List.append_nil, decide_true, decide_false, List.getD_cons_zero, List.getD_cons_succ, opLen_lst, List.length_map, S_len]
  exact h
theorem rules_loop {a : Sl} {k : K4} {z : Nat} (hz : z ≤ 32) : ∀ (rows : List (List Int)) (i : Nat) (x y : Sl), (∀ r ∈ rows, r.length = z ∧ ∀ e ∈ r, 0 ≤ e ∧ e ≤ 1) → (∀ x' y', k.nx [a, .sh (.int z), x', y']) →
    forL (gT [2, 3]) (sIf (tvNot (tvV (vCall 4 f_is_tuple_of (lCons (vVar 3) (lCons (vVar 1) (lCons (vC (.int 0)) (lCons (vC (.int 1)) lNil))))))) sNever sNil) (enumD i (rows.map stD)) k [a, .sh (.int z), x, y]
  | [], i, x, y, _, h => h x y
  | r :: rows, i, x, y, hr, h => by
    obtain ⟨h1, h2⟩ := hr r (by simp)
    rw [List.map_cons]
    show forL _ _ (.tupW [.int i, stD r] :: enumD (i + 1) (rows.map stD)) _ _
    unfold forL
    simp only [fnV, env0, List.map_cons, List.map_nil, List.length_cons, List.length_nil, List.replicate, List.cons_append, List.nil_append, Nat.zero_add, Nat.reduceAdd, Nat.reduceSub, Nat.sub_self,
  sNil, sSeq, sBreak, sCont, sExpr, sRet, sRetN, sIf, sSet, sAsg, sPar2, sPar3, sFor, sSetIdx, sSetFld, gN, gT, setAll, vC, vVar, vMove, vP1, vP2, vP3, kP, vChain, evO, evOs, getR, vTup, vLst, lNil, lCons, lStar, mNil, mCons, vCall, vCallD, vFld, vProp, tvV, kB, tvNot, tvAnd, tvOr, vNot, vAnd, vOr, vIf, iSeq, iTp,
  vAppend, vIndexT, vCut, evP, vDnew, vMake, Rv.d, Rv.sl, restE, wipeE, tvYes, List.getElem?_cons_zero, List.getElem?_cons_succ, List.set_cons_zero, List.set_cons_succ, true_and, and_true, Bool.not_true, Bool.not_false, List.append_nil, decide_true, decide_false, List.getD_cons_zero, List.getD_cons_succ]
    have e : (z : Int) = (r.length : Nat) := by rw [h1]
    rw [e]
    refine p_is_tuple_of h2 (by omega) ?_
    rw [← e]
    simp only [fnV, env0, List.map_cons, List.map_nil, List.length_cons, List.length_nil, List.replicate, List.cons_append, List.nil_append, Nat.zero_add, Nat.reduceAdd, Nat.reduceSub, Nat.sub_self,
  sNil, sSeq, sBreak, sCont, sExpr, sRet, sRetN, sIf, sSet, sAsg, sPar2, sPar3, sFor, sSetIdx, sSetFld, gN, gT, setAll, vC, vVar, vMove, vP1, vP2, vP3, kP, vChain, evO, evOs, getR, vTup, vLst, lNil, lCons, lStar, mNil, mCons, vCall, vCallD, vFld, vProp, tvV, kB, tvNot, tvAnd, tvOr, vNot, vAnd, vOr, vIf, iSeq, iTp,
  vAppend, vIndexT, vCut, evP, vDnew, vMake, Rv.d, Rv.sl, restE, wipeE, tvYes, List.getElem?_cons_zero, List.getElem?_cons_succ, List.set_cons_zero, List.set_cons_succ, true_and, and_true, Bool.not_true, Bool.not_false, List.append_nil, decide_true, decide_false, List.getD_cons_zero, List.getD_cons_succ]
    exact rules_loop hz rows (i + 1) _ _ (fun q hq => hr q (by simp [hq])) h
structure Rows (m : Nat) (rows : List (List Int)) : Prop where
  lo : 1 ≤ m
  hi : m ≤ 5
  len : rows.length = m
  row : ∀ r ∈ rows, r.length = 2 ^ m ∧ ∀ e ∈ r, e = 0 ∨ e = 1
theorem p_need_rules {m : Nat} {rows : List (List Int)} {K : Rv → Prop} (W : Rows m rows) (h : K (.sh .non)) : f_need_rules [.lst (rows.map stD)] K := by
  have h1 : decide ((1 : Int) ≤ (m : Nat)) = true := decide_eq_true (by have := W.lo; omega)
  have h2 : decide (((m : Nat) : Int) ≤ 5) = true := decide_eq_true (by have := W.hi; omega)
  have h5 := p_pow5 W.hi
  unfold f_need_rules w_need_rules
  simp only [fnV, env0, List.map_cons, List.map_nil, List.length_cons, List.length_nil, List.replicate, List.cons_append, List.nil_append, Nat.zero_add, Nat.reduceAdd, Nat.reduceSub, Nat.sub_self,
  sNil, sSeq, sBreak, sCont, sExpr, sRet, sRetN, sIf, sSet, sAsg, sPar2, sPar3, sFor, sSetIdx, sSetFld, gN, gT, setAll, vC, vVar, vMove, vP1, vP2, vP3, kP, vChain, evO, evOs, getR, vTup, vLst, lNil, lCons, lStar, mNil, mCons, vCall, vCallD, vFld, vProp, tvV, kB, tvNot, tvAnd, tvOr, vNot, vAnd, vOr, vIf, iSeq, iTp,
  vAppend, vIndexT, vCut, evP, vDnew, vMake, Rv.d, Rv.sl, restE, wipeE, tvYes, List.getElem?_cons_zero, List.getElem?_cons_succ, List.set_cons_zero, List.set_cons_succ, true_and, and_true, Bool.not_true, Bool.not_false, List.append_nil, decide_true, decide_false, List.getD_cons_zero, List.getD_cons_succ, opLen_lst, List.length_map, W.len, opLe_int, h1, h2]
  refine p_is_list ?_
  simp only [fnV, env0, List.map_cons, List.map_nil, List.length_cons, List.length_nil, List.replicate, List.cons_append, List.nil_append, Nat.zero_add, Nat.reduceAdd, Nat.reduceSub, Nat.sub_self,
  sNil, sSeq, sBreak, sCont, sExpr, sRet, sRetN, sIf, sSet, sAsg, sPar2, sPar3, sFor, sSetIdx, sSetFld, gN, gT, setAll, vC, vVar, vMove, vP1, vP2, vP3, kP, vChain, evO, evOs, getR, vTup, vLst, lNil, lCons, lStar, mNil, mCons, vCall, vCallD, vFld, vProp, tvV, kB, tvNot, tvAnd, tvOr, vNot, vAnd, vOr, vIf, iSeq, iTp,
  vAppend, vIndexT, vCut, evP, vDnew, vMake, Rv.d, Rv.sl, restE, wipeE, tvYes, List.getElem?_cons_zero, List.getElem?_cons_succ, List.set_cons_zero, List.set_cons_succ, true_and, and_true, Bool.not_true, Bool.not_false, List.append_nil, decide_true, decide_false, List.getD_cons_zero, List.getD_cons_succ]
  refine p_states_many W.hi ?_
  simp only [fnV, env0, List.map_cons, List.map_nil, List.length_cons, List.length_nil, List.replicate, List.cons_append, List.nil_append, Nat.zero_add, Nat.reduceAdd, Nat.reduceSub, Nat.sub_self,
  sNil, sSeq, sBreak, sCont, sExpr, sRet, sRetN, sIf, sSet, sAsg, sPar2, sPar3, sFor, sSetIdx, sSetFld, gN, gT, setAll, vC, vVar, vMove, vP1, vP2, vP3, kP, vChain, evO, evOs, getR, vTup, vLst, lNil, lCons, lStar, mNil, mCons, vCall, vCallD, vFld, vProp, tvV, kB, tvNot, tvAnd, tvOr, vNot, vAnd, vOr, vIf, iSeq, iTp,
  vAppend, vIndexT, vCut, evP, vDnew, vMake, Rv.d, Rv.sl, restE, wipeE, tvYes, List.getElem?_cons_zero, List.getElem?_cons_succ, List.set_cons_zero, List.set_cons_succ, true_and, and_true, Bool.not_true, Bool.not_false, List.append_nil, decide_true, decide_false, List.getD_cons_zero, List.getD_cons_succ, iEnumL]
  exact rules_loop h5 rows 0 _ _ (fun r hr => ⟨(W.row r hr).1, fun e he => by rcases (W.row r hr).2 e he with rfl | rfl <;> decide⟩) fun _ _ => h
theorem opIdx_row {r : List Int} {i : Nat} (h : i < r.length) : opIdx (stD r) (.int i) = some (.sh (.int (r.getD i 0))) := by
  have e : L2.atI (iL r) (i : Int) = some (.int (r.getD i 0)) := by
    unfold L2.atI L2.ixN
    have h1 : (i : Int) < ((iL r).length : Nat) := by simp [iL]; omega
    rw [if_pos (by omega), if_pos h1]
    simp [iL, List.getElem?_eq_getElem h, List.getD_eq_getElem?_getD]
  show (L2.atI (iL r) (i : Int)).map Rv.sh = _
  rw [e]
  rfl
theorem row_lc {i : Nat} {a b c e : Sl} {K : List D → Ev → Prop} : ∀ (rows : List (List Int)) (acc : List D), (∀ r ∈ rows, i < r.length) → K (acc ++ rows.map fun r => .int (r.getD i 0)) [a, b, c, .sh (.int i), e, .no] →
    lcL (gN 5) tvYes (vP2 opIdx (.v 5) (.v 3)) [5] (rows.map stD) acc [a, b, c, .sh (.int i), e, .no] K
  | [], acc, _, h => by
    rw [List.map_nil, List.append_nil] at h
    exact h
  | r :: rows, acc, hr, h => by
    rw [List.map_cons]
    unfold lcL
    simp only [fnV, env0, List.map_cons, List.map_nil, List.length_cons, List.length_nil, List.replicate, List.cons_append, List.nil_append, Nat.zero_add, Nat.reduceAdd, Nat.reduceSub, Nat.sub_self,
  sNil, sSeq, sBreak, sCont, sExpr, sRet, sRetN, sIf, sSet, sAsg, sPar2, sPar3, sFor, sSetIdx, sSetFld, gN, gT, setAll, vC, vVar, vMove, vP1, vP2, vP3, kP, vChain, evO, evOs, getR, vTup, vLst, lNil, lCons, lStar, mNil, mCons, vCall, vCallD, vFld, vProp, tvV, kB, tvNot, tvAnd, tvOr, vNot, vAnd, vOr, vIf, iSeq, iTp,
  vAppend, vIndexT, vCut, evP, vDnew, vMake, Rv.d, Rv.sl, restE, wipeE, tvYes, List.getElem?_cons_zero, List.getElem?_cons_succ, List.set_cons_zero, List.set_cons_succ, true_and, and_true, Bool.not_true, Bool.not_false, List.append_nil, decide_true, decide_false, List.getD_cons_zero, List.getD_cons_succ, opIdx_row (hr r (by simp))]
    refine row_lc rows _ (fun q hq => hr q (by simp [hq])) ?_
    simpa using h
def nxR (m : Nat) (rows : List (List Int)) (s : List Int) : List Int := rows.map fun r => r.getD ((S m).idxOf s) 0
theorem init_loop {m : Nat} {rows : List (List Int)} (W : Rows m rows) {a : Sl} {k : K4} : ∀ (rest line : List (List Int)) (x y : Sl), S m = line ++ rest → (∀ x' y', k.nx [a, .sh (.lst (rows.map stD)), .ow (.dct (kvsD (S m) fun s => stD (nxR m rows s))), x', y', .no]) →
    forL (gT [3, 4]) (sSetIdx 2 (.v 4) (vP1 opTuple (.e (vLc (iSeq (vVar 1)) (gN 5) tvYes (vP2 opIdx (.v 5) (.v 3)) [5])))) (enumD line.length (rest.map stD)) k [a, .sh (.lst (rows.map stD)), .ow (.dct (kvsD line fun s => stD (nxR m rows s))), x, y, .no]
  | [], line, x, y, e, h => by
    rw [List.append_nil] at e
    rw [e] at h
    exact h x y
  | s :: rest, line, x, y, e, h => by
    have nd := S_nodup5 m W.hi
    have hS := S_len m
    have h5 := p_pow5 W.hi
    rw [e] at nd hS
    have hs : s ∉ line := fun hs => by
      rw [List.nodup_append] at nd
      exact nd.2.2 s hs s (by simp) rfl
    rw [List.length_append, List.length_cons] at hS
    have hi : (S m).idxOf s = line.length := by
      rw [e, List.idxOf_append, if_neg hs]
      simp
    rw [List.map_cons]
    show forL _ _ (.tupW [.int line.length, stD s] :: enumD (line.length + 1) (rest.map stD)) _ _
    unfold forL
    simp only [fnV, env0, List.map_cons, List.map_nil, List.length_cons, List.length_nil, List.replicate, List.cons_append, List.nil_append, Nat.zero_add, Nat.reduceAdd, Nat.reduceSub, Nat.sub_self,
  sNil, sSeq, sBreak, sCont, sExpr, sRet, sRetN, sIf, sSet, sAsg, sPar2, sPar3, sFor, sSetIdx, sSetFld, gN, gT, setAll, vC, vVar, vMove, vP1, vP2, vP3, kP, vChain, evO, evOs, getR, vTup, vLst, lNil, lCons, lStar, mNil, mCons, vCall, vCallD, vFld, vProp, tvV, kB, tvNot, tvAnd, tvOr, vNot, vAnd, vOr, vIf, iSeq, iTp,
  vAppend, vIndexT, vCut, evP, vDnew, vMake, Rv.d, Rv.sl, restE, wipeE, tvYes, List.getElem?_cons_zero, List.getElem?_cons_succ, List.set_cons_zero, List.set_cons_succ, true_and, and_true, Bool.not_true, Bool.not_false, List.append_nil, decide_true, decide_false, List.getD_cons_zero, List.getD_cons_succ, vLc]
    refine ⟨by simp [W.len]; have := W.hi; omega, row_lc rows [] (fun r hr => by rw [(W.row r hr).1]; omega) ?_⟩
    have ev : D.tup (rows.map fun r => D.int (r.getD line.length 0)) = stD (nxR m rows s) := by
      unfold stD iL nxR
      rw [List.map_map, hi]
      rfl
    have es : opSet (.dct (kvsD line fun s => stD (nxR m rows s))) (stD s) (stD (nxR m rows s)) = some (.dct (kvsD (line ++ [s]) fun s => stD (nxR m rows s))) := opSet_new _ hs (by omega)
    simp only [fnV, env0, List.map_cons, List.map_nil, List.length_cons, List.length_nil, List.replicate, List.cons_append, List.nil_append, Nat.zero_add, Nat.reduceAdd, Nat.reduceSub, Nat.sub_self,
  sNil, sSeq, sBreak, sCont, sExpr, sRet, sRetN, sIf, sSet, sAsg, sPar2, sPar3, sFor, sSetIdx, sSetFld, gN, gT, setAll, vC, vVar, vMove, vP1, vP2, vP3, kP, vChain, evO, evOs, getR, vTup, vLst, lNil, lCons, lStar, mNil, mCons, vCall, vCallD, vFld, vProp, tvV, kB, tvNot, tvAnd, tvOr, vNot, vAnd, vOr, vIf, iSeq, iTp,
  vAppend, vIndexT, vCut, evP, vDnew, vMake, Rv.d, Rv.sl, restE, wipeE, tvYes, List.getElem?_cons_zero, List.getElem?_cons_succ, List.set_cons_zero, List.set_cons_succ, true_and, and_true, Bool.not_true, Bool.not_false, List.append_nil, decide_true, decide_false, List.getD_cons_zero, List.getD_cons_succ, opTuple_lst, ev, es]
    have el : (line ++ [s]).length = line.length + 1 := by simp
    rw [← el]
    exact init_loop W rest (line ++ [s]) _ _ (by rw [e, List.append_assoc]; rfl) h
theorem p_Net_init {m : Nat} {rows : List (List Int)} {K : D → Prop} (W : Rows m rows) (h : K (netD (rows.map stD) m (nxR m rows))) : f_Net_init [.lst (rows.map stD)] K := by
  intro x
  have p1 : putD "own_rules" (D.tup (rows.map stD)) [] = ([("own_rules", D.tup (rows.map stD))] : List (Str × D)) := rfl
  have p2 : ∀ d1 d2 : D, putD "own_nexts" d2 [("own_rules", d1)] = ([("own_rules", d1), ("own_nexts", d2)] : List (Str × D)) := fun d1 d2 => by
    have e : ¬ (("own_rules" : Str) = "own_nexts") := by decide
    simp [putD, e]
  unfold w_Net_init envI
  simp only [fnV, env0, List.map_cons, List.map_nil, List.length_cons, List.length_nil, List.replicate, List.cons_append, List.nil_append, Nat.zero_add, Nat.reduceAdd, Nat.reduceSub, Nat.sub_self,
  sNil, sSeq, sBreak, sCont, sExpr, sRet, sRetN, sIf, sSet, sAsg, sPar2, sPar3, sFor, sSetIdx, sSetFld, gN, gT, setAll, vC, vVar, vMove, vP1, vP2, vP3, kP, vChain, evO, evOs, getR, vTup, vLst, lNil, lCons, lStar, mNil, mCons, vCall, vCallD, vFld, vProp, tvV, kB, tvNot, tvAnd, tvOr, vNot, vAnd, vOr, vIf, iSeq, iTp,
  vAppend, vIndexT, vCut, evP, vDnew, vMake, Rv.d, Rv.sl, restE, wipeE, tvYes, List.getElem?_cons_zero, List.getElem?_cons_succ, List.set_cons_zero, List.set_cons_succ, true_and, and_true, Bool.not_true, Bool.not_false, List.append_nil, decide_true, decide_false, List.getD_cons_zero, List.getD_cons_succ]
  refine p_need_rules W ?_
  simp only [fnV, env0, List.map_cons, List.map_nil, List.length_cons, List.length_nil, List.replicate, List.cons_append, List.nil_append, Nat.zero_add, Nat.reduceAdd, Nat.reduceSub, Nat.sub_self,
  sNil, sSeq, sBreak, sCont, sExpr, sRet, sRetN, sIf, sSet, sAsg, sPar2, sPar3, sFor, sSetIdx, sSetFld, gN, gT, setAll, vC, vVar, vMove, vP1, vP2, vP3, kP, vChain, evO, evOs, getR, vTup, vLst, lNil, lCons, lStar, mNil, mCons, vCall, vCallD, vFld, vProp, tvV, kB, tvNot, tvAnd, tvOr, vNot, vAnd, vOr, vIf, iSeq, iTp,
  vAppend, vIndexT, vCut, evP, vDnew, vMake, Rv.d, Rv.sl, restE, wipeE, tvYes, List.getElem?_cons_zero, List.getElem?_cons_succ, List.set_cons_zero, List.set_cons_succ, true_and, and_true, Bool.not_true, Bool.not_false, List.append_nil, decide_true, decide_false, List.getD_cons_zero, List.getD_cons_succ, opTuple_lst, p1, iEnumL, opLen_lst, List.length_map, W.len]
  refine ⟨by decide, p_all_states W.hi ?_⟩
  simp only [fnV, env0, List.map_cons, List.map_nil, List.length_cons, List.length_nil, List.replicate, List.cons_append, List.nil_append, Nat.zero_add, Nat.reduceAdd, Nat.reduceSub, Nat.sub_self,
  sNil, sSeq, sBreak, sCont, sExpr, sRet, sRetN, sIf, sSet, sAsg, sPar2, sPar3, sFor, sSetIdx, sSetFld, gN, gT, setAll, vC, vVar, vMove, vP1, vP2, vP3, kP, vChain, evO, evOs, getR, vTup, vLst, lNil, lCons, lStar, mNil, mCons, vCall, vCallD, vFld, vProp, tvV, kB, tvNot, tvAnd, tvOr, vNot, vAnd, vOr, vIf, iSeq, iTp,
  vAppend, vIndexT, vCut, evP, vDnew, vMake, Rv.d, Rv.sl, restE, wipeE, tvYes, List.getElem?_cons_zero, List.getElem?_cons_succ, List.set_cons_zero, List.set_cons_succ, true_and, and_true, Bool.not_true, Bool.not_false, List.append_nil, decide_true, decide_false, List.getD_cons_zero, List.getD_cons_succ]
  refine init_loop W (S m) [] _ _ rfl fun x' y' => ?_
  simp only [fnV, env0, List.map_cons, List.map_nil, List.length_cons, List.length_nil, List.replicate, List.cons_append, List.nil_append, Nat.zero_add, Nat.reduceAdd, Nat.reduceSub, Nat.sub_self,
  sNil, sSeq, sBreak, sCont, sExpr, sRet, sRetN, sIf, sSet, sAsg, sPar2, sPar3, sFor, sSetIdx, sSetFld, gN, gT, setAll, vC, vVar, vMove, vP1, vP2, vP3, kP, vChain, evO, evOs, getR, vTup, vLst, lNil, lCons, lStar, mNil, mCons, vCall, vCallD, vFld, vProp, tvV, kB, tvNot, tvAnd, tvOr, vNot, vAnd, vOr, vIf, iSeq, iTp,
  vAppend, vIndexT, vCut, evP, vDnew, vMake, Rv.d, Rv.sl, restE, wipeE, tvYes, List.getElem?_cons_zero, List.getElem?_cons_succ, List.set_cons_zero, List.set_cons_succ, true_and, and_true, Bool.not_true, Bool.not_false, List.append_nil, decide_true, decide_false, List.getD_cons_zero, List.getD_cons_succ, p2, self0]
  exact ⟨by simp, h⟩
/-! ### the law's own states -/
theorem st_app {s : List Int} {i : Int} (hs : s.length ≤ 100) : opAdd (stD s) (.tup [.int i]) = some (.sh (stD (s ++ [i]))) := by
  have h : (iL s).length + [D.int i].length ≤ 16777216 := by simp [iL]; omega
  show (if (iL s).length + [D.int i].length ≤ 16777216 then some (Rv.sh (D.tup (iL s ++ [D.int i]))) else none) = _
  rw [if_pos h]
  simp [stD, iL]
theorem lst_app {xs ys : List D} (h : xs.length + ys.length ≤ 16777216) : opAdd (.lst xs) (.lst ys) = some (.ow (.lst (xs ++ ys))) := by
  show (if xs.length + ys.length ≤ 16777216 then some (Rv.ow (D.lst (xs ++ ys))) else none) = _
  rw [if_pos h]
theorem st_inner {a b c : Sl} {k : K4} : ∀ (L : List (List Int)) (acc : List D) (x : Sl), acc.length + 2 * L.length ≤ 1000 → (∀ s ∈ L, s.length ≤ 100) → (∀ x', k.nx [a, b, c, .ow (.lst (acc ++ (dbl L).map stD)), x']) →
    forL (gN 4) (sSet 3 (vP2 opAdd (.v 3) (.e (vLst (lCons (vP2 opAdd (.v 4) (.e (vTup (lCons (vC (.int 0)) lNil)))) (lCons (vP2 opAdd (.v 4) (.e (vTup (lCons (vC (.int 1)) lNil)))) lNil)))))) (L.map stD) k [a, b, c, .ow (.lst acc), x]
  | [], acc, x, _, _, h => by
    have := h x
    rw [show dbl [] = [] from rfl, List.map_nil, List.append_nil] at this
    exact this
  | s :: L, acc, x, hl, hs, h => by
    rw [List.length_cons] at hl
    have h1 := hs s (by simp)
    rw [List.map_cons]
    unfold forL
    simp only [fnV, env0, List.map_cons, List.map_nil, List.length_cons, List.length_nil, List.replicate, List.cons_append, List.nil_append, Nat.zero_add, Nat.reduceAdd, Nat.reduceSub, Nat.sub_self,
  sNil, sSeq, sBreak, sCont, sExpr, sRet, sRetN, sIf, sSet, sAsg, sPar2, sPar3, sFor, sSetIdx, sSetFld, gN, gT, setAll, vC, vVar, vMove, vP1, vP2, vP3, kP, vChain, evO, evOs, getR, vTup, vLst, lNil, lCons, lStar, mNil, mCons, vCall, vCallD, vFld, vProp, tvV, kB, tvNot, tvAnd, tvOr, vNot, vAnd, vOr, vIf, iSeq, iTp,
  vAppend, vIndexT, vCut, evP, vDnew, vMake, Rv.d, Rv.sl, restE, wipeE, tvYes, List.getElem?_cons_zero, List.getElem?_cons_succ, List.set_cons_zero, List.set_cons_succ, true_and, and_true, Bool.not_true, Bool.not_false, List.append_nil, decide_true, decide_false, List.getD_cons_zero, List.getD_cons_succ, st_app h1]
    refine ⟨by decide, by decide, by decide, ?_⟩
    rw [lst_app (by simp; omega)]
    simp only [fnV, env0, List.map_cons, List.map_nil, List.length_cons, List.length_nil, List.replicate, List.cons_append, List.nil_append, Nat.zero_add, Nat.reduceAdd, Nat.reduceSub, Nat.sub_self,
  sNil, sSeq, sBreak, sCont, sExpr, sRet, sRetN, sIf, sSet, sAsg, sPar2, sPar3, sFor, sSetIdx, sSetFld, gN, gT, setAll, vC, vVar, vMove, vP1, vP2, vP3, kP, vChain, evO, evOs, getR, vTup, vLst, lNil, lCons, lStar, mNil, mCons, vCall, vCallD, vFld, vProp, tvV, kB, tvNot, tvAnd, tvOr, vNot, vAnd, vOr, vIf, iSeq, iTp,
  vAppend, vIndexT, vCut, evP, vDnew, vMake, Rv.d, Rv.sl, restE, wipeE, tvYes, List.getElem?_cons_zero, List.getElem?_cons_succ, List.set_cons_zero, List.set_cons_succ, true_and, and_true, Bool.not_true, Bool.not_false, List.append_nil, decide_true, decide_false, List.getD_cons_zero, List.getD_cons_succ]
    refine st_inner L _ _ (by simp; omega) (fun q hq => hs q (by simp [hq])) fun x' => ?_
    have := h x'
    simpa [dbl] using this
theorem st_outer {a : Sl} {k : K4} : ∀ (items : List D) (i : Nat) (x y z : Sl), i + items.length ≤ 5 → (∀ x' y' z', k.nx [a, .ow (.lst ((S (i + items.length)).map stD)), x', y', z'] ∧ k.nx [a, .sh (.lst ((S (i + items.length)).map stD)), x', y', z']) →
    (forL (gN 2) (sSeq (sSet 3 (vLst lNil)) (sSeq (sFor (iSeq (vVar 1)) (gN 4) (sSet 3 (vP2 opAdd (.v 3) (.e (vLst (lCons (vP2 opAdd (.v 4) (.e (vTup (lCons (vC (.int 0)) lNil)))) (lCons (vP2 opAdd (.v 4) (.e (vTup (lCons (vC (.int 1)) lNil)))) lNil)))))))
    (sSet 1 (vVar 3)))) items k [a, .ow (.lst ((S i).map stD)), x, y, z]) ∧
    forL (gN 2) (sSeq (sSet 3 (vLst lNil)) (sSeq (sFor (iSeq (vVar 1)) (gN 4) (sSet 3 (vP2 opAdd (.v 3) (.e (vLst (lCons (vP2 opAdd (.v 4) (.e (vTup (lCons (vC (.int 0)) lNil)))) (lCons (vP2 opAdd (.v 4) (.e (vTup (lCons (vC (.int 1)) lNil)))) lNil)))))))
    (sSet 1 (vVar 3)))) items k [a, .sh (.lst ((S i).map stD)), x, y, z]
  | [], i, x, y, z, _, h => h x y z
  | d :: items, i, x, y, z, hi, h => by
    rw [List.length_cons] at hi
    have h5 := p_pow5 (m := i) (by omega)
    have hl := S_len i
    have e : i + 1 + items.length = i + (d :: items).length := by simp; omega
    constructor
    · unfold forL
      simp only [fnV, env0, List.map_cons, List.map_nil, List.length_cons, List.length_nil, List.replicate, List.cons_append, List.nil_append, Nat.zero_add, Nat.reduceAdd, Nat.reduceSub, Nat.sub_self,
  sNil, sSeq, sBreak, sCont, sExpr, sRet, sRetN, sIf, sSet, sAsg, sPar2, sPar3, sFor, sSetIdx, sSetFld, gN, gT, setAll, vC, vVar, vMove, vP1, vP2, vP3, kP, vChain, evO, evOs, getR, vTup, vLst, lNil, lCons, lStar, mNil, mCons, vCall, vCallD, vFld, vProp, tvV, kB, tvNot, tvAnd, tvOr, vNot, vAnd, vOr, vIf, iSeq, iTp,
  vAppend, vIndexT, vCut, evP, vDnew, vMake, Rv.d, Rv.sl, restE, wipeE, tvYes, List.getElem?_cons_zero, List.getElem?_cons_succ, List.set_cons_zero, List.set_cons_succ, true_and, and_true, Bool.not_true, Bool.not_false, List.append_nil, decide_true, decide_false, List.getD_cons_zero, List.getD_cons_succ]
      refine ⟨by decide, st_inner (S i) [] _ (by simp; omega) (fun s hs => by rw [(S_mem i s hs).1]; omega) fun x' => ?_⟩
      simp only [fnV, env0, List.map_cons, List.map_nil, List.length_cons, List.length_nil, List.replicate, List.cons_append, List.nil_append, Nat.zero_add, Nat.reduceAdd, Nat.reduceSub, Nat.sub_self,
  sNil, sSeq, sBreak, sCont, sExpr, sRet, sRetN, sIf, sSet, sAsg, sPar2, sPar3, sFor, sSetIdx, sSetFld, gN, gT, setAll, vC, vVar, vMove, vP1, vP2, vP3, kP, vChain, evO, evOs, getR, vTup, vLst, lNil, lCons, lStar, mNil, mCons, vCall, vCallD, vFld, vProp, tvV, kB, tvNot, tvAnd, tvOr, vNot, vAnd, vOr, vIf, iSeq, iTp,
  vAppend, vIndexT, vCut, evP, vDnew, vMake, Rv.d, Rv.sl, restE, wipeE, tvYes, List.getElem?_cons_zero, List.getElem?_cons_succ, List.set_cons_zero, List.set_cons_succ, true_and, and_true, Bool.not_true, Bool.not_false, List.append_nil, decide_true, decide_false, List.getD_cons_zero, List.getD_cons_succ, ← S_succ]
      exact (st_outer items (i + 1) _ _ _ (by omega) (by rw [e]; exact h)).2
    · unfold forL
      simp only [fnV, env0, List.map_cons, List.map_nil, List.length_cons, List.length_nil, List.replicate, List.cons_append, List.nil_append, Nat.zero_add, Nat.reduceAdd, Nat.reduceSub, Nat.sub_self,
  sNil, sSeq, sBreak, sCont, sExpr, sRet, sRetN, sIf, sSet, sAsg, sPar2, sPar3, sFor, sSetIdx, sSetFld, gN, gT, setAll, vC, vVar, vMove, vP1, vP2, vP3, kP, vChain, evO, evOs, getR, vTup, vLst, lNil, lCons, lStar, mNil, mCons, vCall, vCallD, vFld, vProp, tvV, kB, tvNot, tvAnd, tvOr, vNot, vAnd, vOr, vIf, iSeq, iTp,
  vAppend, vIndexT, vCut, evP, vDnew, vMake, Rv.d, Rv.sl, restE, wipeE, tvYes, List.getElem?_cons_zero, List.getElem?_cons_succ, List.set_cons_zero, List.set_cons_succ, true_and, and_true, Bool.not_true, Bool.not_false, List.append_nil, decide_true, decide_false, List.getD_cons_zero, List.getD_cons_succ]
      refine ⟨by decide, st_inner (S i) [] _ (by simp; omega) (fun s hs => by rw [(S_mem i s hs).1]; omega) fun x' => ?_⟩
      simp only [fnV, env0, List.map_cons, List.map_nil, List.length_cons, List.length_nil, List.replicate, List.cons_append, List.nil_append, Nat.zero_add, Nat.reduceAdd, Nat.reduceSub, Nat.sub_self,
  sNil, sSeq, sBreak, sCont, sExpr, sRet, sRetN, sIf, sSet, sAsg, sPar2, sPar3, sFor, sSetIdx, sSetFld, gN, gT, setAll, vC, vVar, vMove, vP1, vP2, vP3, kP, vChain, evO, evOs, getR, vTup, vLst, lNil, lCons, lStar, mNil, mCons, vCall, vCallD, vFld, vProp, tvV, kB, tvNot, tvAnd, tvOr, vNot, vAnd, vOr, vIf, iSeq, iTp,
  vAppend, vIndexT, vCut, evP, vDnew, vMake, Rv.d, Rv.sl, restE, wipeE, tvYes, List.getElem?_cons_zero, List.getElem?_cons_succ, List.set_cons_zero, List.set_cons_succ, true_and, and_true, Bool.not_true, Bool.not_false, List.append_nil, decide_true, decide_false, List.getD_cons_zero, List.getD_cons_succ, ← S_succ]
      exact (st_outer items (i + 1) _ _ _ (by omega) (by rw [e]; exact h)).2
theorem p__law_states {m : Nat} {K : Rv → Prop} (h0 : 1 ≤ m) (hm : m ≤ 5) (h : ∀ r, r.d = .lst ((S m).map stD) → K r) : f__law_states [.int m] K := by
  unfold f__law_states w__law_states
  simp only [fnV, env0, List.map_cons, List.map_nil, List.length_cons, List.length_nil, List.replicate, List.cons_append, List.nil_append, Nat.zero_add, Nat.reduceAdd, Nat.reduceSub, Nat.sub_self,
  sNil, sSeq, sBreak, sCont, sExpr, sRet, sRetN, sIf, sSet, sAsg, sPar2, sPar3, sFor, sSetIdx, sSetFld, gN, gT, setAll, vC, vVar, vMove, vP1, vP2, vP3, kP, vChain, evO, evOs, getR, vTup, vLst, lNil, lCons, lStar, mNil, mCons, vCall, vCallD, vFld, vProp, tvV, kB, tvNot, tvAnd, tvOr, vNot, vAnd, vOr, vIf, iSeq, iTp,
  vAppend, vIndexT, vCut, evP, vDnew, vMake, Rv.d, Rv.sl, restE, wipeE, tvYes, List.getElem?_cons_zero, List.getElem?_cons_succ, List.set_cons_zero, List.set_cons_succ, true_and, and_true, Bool.not_true, Bool.not_false, List.append_nil, decide_true, decide_false, List.getD_cons_zero, List.getD_cons_succ, iRange1]
  refine ⟨by decide, by decide, by omega, ?_⟩
  refine (st_outer (rangeD 0 1 (m : Int).toNat) 0 _ _ _ (by rw [len_range]; omega) fun x' y' z' => ?_).1
  rw [len_range, Int.toNat_natCast, Nat.zero_add]
  simp only [fnV, env0, List.map_cons, List.map_nil, List.length_cons, List.length_nil, List.replicate, List.cons_append, List.nil_append, Nat.zero_add, Nat.reduceAdd, Nat.reduceSub, Nat.sub_self,
  sNil, sSeq, sBreak, sCont, sExpr, sRet, sRetN, sIf, sSet, sAsg, sPar2, sPar3, sFor, sSetIdx, sSetFld, gN, gT, setAll, vC, vVar, vMove, vP1, vP2, vP3, kP, vChain, evO, evOs, getR, vTup, vLst, lNil, lCons, lStar, mNil, mCons, vCall, vCallD, vFld, vProp, tvV, kB, tvNot, tvAnd, tvOr, vNot, vAnd, vOr, vIf, iSeq, iTp,
  vAppend, vIndexT, vCut, evP, vDnew, vMake, Rv.d, Rv.sl, restE, wipeE, tvYes, List.getElem?_cons_zero, List.getElem?_cons_succ, List.set_cons_zero, List.set_cons_succ, true_and, and_true, Bool.not_true, Bool.not_false, List.append_nil, decide_true, decide_false, List.getD_cons_zero, List.getD_cons_succ]
  exact ⟨h _ rfl, h _ rfl⟩
/-! ### sorted -/
theorem srt_S {m : Nat} (h0 : 1 ≤ m) (hm : m ≤ 5) : srt ((S m).map stD) = (S m).map stD := by
  unfold srt
  refine List.mergeSort_of_pairwise ?_
  match m, h0, hm with
  | 1, _, _ => decide +kernel
  | 2, _, _ => decide +kernel
  | 3, _, _ => decide +kernel
  | 4, _, _ => decide +kernel
  | 5, _, _ => decide +kernel
theorem srtB_S {m : Nat} (h0 : 1 ≤ m) (hm : m ≤ 5) : srtB ((S m).map stD) = true := by
  match m, h0, hm with
  | 1, _, _ => decide +kernel
  | 2, _, _ => decide +kernel
  | 3, _, _ => decide +kernel
  | 4, _, _ => decide +kernel
  | 5, _, _ => decide +kernel
theorem keys_kvs (L : List (List Int)) (g : List Int → D) : ((kvsD L g).map fun p => p.1) = L.map stD := by
  unfold kvsD
  rw [List.map_map]
  rfl
theorem opSorted_S {m : Nat} {g : List Int → D} (h0 : 1 ≤ m) (hm : m ≤ 5) : opSorted (.dct (kvsD (S m) g)) = some (.ow (.lst ((S m).map stD))) := by
  simp only [opSorted, keys_kvs, srtB_S h0 hm, if_true, srt_S h0 hm]
/-! ### the law's net -/
def rowsOf (m : Nat) (nx : List Int → List Int) : List (List Int) := (List.range m).map fun i => (S m).map fun s => (nx s).getD i 0
structure Nx (m : Nat) (nx : List Int → List Int) : Prop where
  lo : 1 ≤ m
  hi : m ≤ 5
  cl : ∀ s ∈ S m, nx s ∈ S m
theorem rows_ok {m : Nat} {nx : List Int → List Int} (N : Nx m nx) : Rows m (rowsOf m nx) := by
  refine ⟨N.lo, N.hi, by simp [rowsOf], fun r hr => ?_⟩
  unfold rowsOf at hr
  obtain ⟨i, hi, rfl⟩ := List.mem_map.mp hr
  refine ⟨by rw [List.length_map, S_len], fun e he => ?_⟩
  obtain ⟨s, hs, rfl⟩ := List.mem_map.mp he
  obtain ⟨h1, h2⟩ := S_mem m _ (N.cl s hs)
  have hi' : i < (nx s).length := by rw [h1]; exact List.mem_range.mp hi
  rw [List.getD_eq_getElem?_getD, List.getElem?_eq_getElem hi']
  exact h2 _ (List.getElem_mem hi')
theorem nxR_rows {m : Nat} {nx : List Int → List Int} (N : Nx m nx) {s : List Int} (hs : s ∈ S m) : nxR m (rowsOf m nx) s = nx s := by
  obtain ⟨h1, _⟩ := S_mem m _ (N.cl s hs)
  have hi := List.idxOf_lt_length_of_mem hs
  have hg : (S m)[(S m).idxOf s] = s := List.getElem_idxOf hi
  unfold nxR rowsOf
  rw [List.map_map]
  refine List.ext_getElem (by simp [h1]) fun j hj hj2 => ?_
  rw [List.getElem_map, List.getElem_range]
  simp only [Function.comp, List.getD_eq_getElem?_getD, List.getElem?_map, List.getElem?_eq_getElem hi, Option.map_some, Option.getD_some, hg, List.getElem?_eq_getElem hj2]
theorem Rows.nx {m : Nat} {rows : List (List Int)} (W : Rows m rows) : Nt (rows.map stD) m (nxR m rows) := by
  refine ⟨by rw [List.length_map, W.len], W.lo, W.hi, fun s hs => S_of m _ (by simp [nxR, W.len]) fun x hx => ?_⟩
  unfold nxR at hx
  obtain ⟨r, hr, rfl⟩ := List.mem_map.mp hx
  have hi := List.idxOf_lt_length_of_mem hs
  rw [S_len, ← (W.row r hr).1] at hi
  rw [List.getD_eq_getElem?_getD, List.getElem?_eq_getElem hi]
  exact (W.row r hr).2 _ (List.getElem_mem hi)
theorem nexts_congr {m : Nat} {f g : List Int → List Int} (h : ∀ s ∈ S m, f s = g s) : nextsD m f = nextsD m g := by
  unfold nextsD kvsD
  congr 1
  exact List.map_congr_left fun s hs => by simp only [h s hs]
def madeD (m : Nat) (nx : List Int → List Int) : D := netD ((rowsOf m nx).map stD) m nx
theorem made_nt {m : Nat} {nx : List Int → List Int} (N : Nx m nx) : Nt ((rowsOf m nx).map stD) m nx := ⟨by simp [rowsOf], N.lo, N.hi, N.cl⟩
theorem col_lc {m : Nat} {nx : List Int → List Int} (N : Nx m nx) {i : Nat} (hi : i < m) {b : Sl} {K : List D → Ev → Prop} : ∀ (L : List (List Int)) (acc : List D), (∀ s ∈ L, s ∈ S m) → K (acc ++ L.map fun s => .int ((nx s).getD i 0)) [.sh (nextsD m nx), b, .sh (.int i), .no] →
    lcL (gN 3) tvYes (vP2 opIdx (.e (vP2 opIdx (.v 0) (.v 3))) (.v 2)) [3] (L.map stD) acc [.sh (nextsD m nx), b, .sh (.int i), .no] K
  | [], acc, _, h => by
    rw [List.map_nil, List.append_nil] at h
    exact h
  | s :: L, acc, hL, h => by
    have hs := hL s (by simp)
    have e : opIdx (nextsD m nx) (stD s) = some (.sh (stD (nx s))) := opIdx_kvs _ hs
    have hl : i < (nx s).length := by rw [(S_mem m _ (N.cl s hs)).1]; exact hi
    rw [List.map_cons]
    unfold lcL
    simp only [fnV, env0, List.map_cons, List.map_nil, List.length_cons, List.length_nil, List.replicate, List.cons_append, List.nil_append, Nat.zero_add, Nat.reduceAdd, Nat.reduceSub, Nat.sub_self,
  sNil, sSeq, sBreak, sCont, sExpr, sRet, sRetN, sIf, sSet, sAsg, sPar2, sPar3, sFor, sSetIdx, sSetFld, gN, gT, setAll, vC, vVar, vMove, vP1, vP2, vP3, kP, vChain, evO, evOs, getR, vTup, vLst, lNil, lCons, lStar, mNil, mCons, vCall, vCallD, vFld, vProp, tvV, kB, tvNot, tvAnd, tvOr, vNot, vAnd, vOr, vIf, iSeq, iTp,
  vAppend, vIndexT, vCut, evP, vDnew, vMake, Rv.d, Rv.sl, restE, wipeE, tvYes, List.getElem?_cons_zero, List.getElem?_cons_succ, List.set_cons_zero, List.set_cons_succ, true_and, and_true, Bool.not_true, Bool.not_false, List.append_nil, decide_true, decide_false, List.getD_cons_zero, List.getD_cons_succ, e, opIdx_row hl]
    refine col_lc N hi L _ (fun q hq => hL q (by simp [hq])) ?_
    simpa using h
theorem rows_lc {m : Nat} {nx : List Int → List Int} (N : Nx m nx) {K : List D → Ev → Prop} : ∀ (is : List Nat) (acc : List D) (x : Sl), x = .ow (.lst ((S m).map stD)) ∨ x = .sh (.lst ((S m).map stD)) → (∀ i ∈ is, i < m) → (∀ x', K (acc ++ is.map fun i => stD ((S m).map fun s => (nx s).getD i 0)) [.sh (nextsD m nx), x', .no, .no]) →
    lcL (gN 2) tvYes (vP1 opTuple (.e (vLc (iSeq (vVar 1)) (gN 3) tvYes (vP2 opIdx (.e (vP2 opIdx (.v 0) (.v 3))) (.v 2)) [3]))) [2] (is.map fun i : Nat => .int (i : Int)) acc [.sh (nextsD m nx), x, .no, .no] K
  | [], acc, x, _, _, h => by
    have h := h x
    rw [List.map_nil, List.append_nil] at h
    exact h
  | i :: is, acc, x, hx, hi, h => by
    have h5 := p_pow5 N.hi
    have hl := S_len m
    have e : D.tup ((S m).map fun s => D.int ((nx s).getD i 0)) = stD ((S m).map fun s => (nx s).getD i 0) := by
      unfold stD iL
      rw [List.map_map]
      rfl
    rw [List.map_cons]
    unfold lcL
    rcases hx with rfl | rfl
    · simp only [fnV, env0, List.map_cons, List.map_nil, List.length_cons, List.length_nil, List.replicate, List.cons_append, List.nil_append, Nat.zero_add, Nat.reduceAdd, Nat.reduceSub, Nat.sub_self,
  sNil, sSeq, sBreak, sCont, sExpr, sRet, sRetN, sIf, sSet, sAsg, sPar2, sPar3, sFor, sSetIdx, sSetFld, gN, gT, setAll, vC, vVar, vMove, vP1, vP2, vP3, kP, vChain, evO, evOs, getR, vTup, vLst, lNil, lCons, lStar, mNil, mCons, vCall, vCallD, vFld, vProp, tvV, kB, tvNot, tvAnd, tvOr, vNot, vAnd, vOr, vIf, iSeq, iTp,
  vAppend, vIndexT, vCut, evP, vDnew, vMake, Rv.d, Rv.sl, restE, wipeE, tvYes, List.getElem?_cons_zero, List.getElem?_cons_succ, List.set_cons_zero, List.set_cons_succ, true_and, and_true, Bool.not_true, Bool.not_false, List.append_nil, decide_true, decide_false, List.getD_cons_zero, List.getD_cons_succ, vLc]
      refine ⟨by simp; omega, col_lc N (hi i (by simp)) (S m) [] (fun _ h => h) ?_⟩
      simp only [fnV, env0, List.map_cons, List.map_nil, List.length_cons, List.length_nil, List.replicate, List.cons_append, List.nil_append, Nat.zero_add, Nat.reduceAdd, Nat.reduceSub, Nat.sub_self,
  sNil, sSeq, sBreak, sCont, sExpr, sRet, sRetN, sIf, sSet, sAsg, sPar2, sPar3, sFor, sSetIdx, sSetFld, gN, gT, setAll, vC, vVar, vMove, vP1, vP2, vP3, kP, vChain, evO, evOs, getR, vTup, vLst, lNil, lCons, lStar, mNil, mCons, vCall, vCallD, vFld, vProp, tvV, kB, tvNot, tvAnd, tvOr, vNot, vAnd, vOr, vIf, iSeq, iTp,
  vAppend, vIndexT, vCut, evP, vDnew, vMake, Rv.d, Rv.sl, restE, wipeE, tvYes, List.getElem?_cons_zero, List.getElem?_cons_succ, List.set_cons_zero, List.set_cons_succ, true_and, and_true, Bool.not_true, Bool.not_false, List.append_nil, decide_true, decide_false, List.getD_cons_zero, List.getD_cons_succ, opTuple_lst]
      refine rows_lc N is _ _ (.inr rfl) (fun q hq => hi q (by simp [hq])) fun x' => ?_
      rw [e, List.append_assoc]
      exact h x'
    · simp only [fnV, env0, List.map_cons, List.map_nil, List.length_cons, List.length_nil, List.replicate, List.cons_append, List.nil_append, Nat.zero_add, Nat.reduceAdd, Nat.reduceSub, Nat.sub_self,
  sNil, sSeq, sBreak, sCont, sExpr, sRet, sRetN, sIf, sSet, sAsg, sPar2, sPar3, sFor, sSetIdx, sSetFld, gN, gT, setAll, vC, vVar, vMove, vP1, vP2, vP3, kP, vChain, evO, evOs, getR, vTup, vLst, lNil, lCons, lStar, mNil, mCons, vCall, vCallD, vFld, vProp, tvV, kB, tvNot, tvAnd, tvOr, vNot, vAnd, vOr, vIf, iSeq, iTp,
  vAppend, vIndexT, vCut, evP, vDnew, vMake, Rv.d, Rv.sl, restE, wipeE, tvYes, List.getElem?_cons_zero, List.getElem?_cons_succ, List.set_cons_zero, List.set_cons_succ, true_and, and_true, Bool.not_true, Bool.not_false, List.append_nil, decide_true, decide_false, List.getD_cons_zero, List.getD_cons_succ, vLc]
      refine ⟨by simp; omega, col_lc N (hi i (by simp)) (S m) [] (fun _ h => h) ?_⟩
      simp only [fnV, env0, List.map_cons, List.map_nil, List.length_cons, List.length_nil, List.replicate, List.cons_append, List.nil_append, Nat.zero_add, Nat.reduceAdd, Nat.reduceSub, Nat.sub_self,
  sNil, sSeq, sBreak, sCont, sExpr, sRet, sRetN, sIf, sSet, sAsg, sPar2, sPar3, sFor, sSetIdx, sSetFld, gN, gT, setAll, vC, vVar, vMove, vP1, vP2, vP3, kP, vChain, evO, evOs, getR, vTup, vLst, lNil, lCons, lStar, mNil, mCons, vCall, vCallD, vFld, vProp, tvV, kB, tvNot, tvAnd, tvOr, vNot, vAnd, vOr, vIf, iSeq, iTp,
  vAppend, vIndexT, vCut, evP, vDnew, vMake, Rv.d, Rv.sl, restE, wipeE, tvYes, List.getElem?_cons_zero, List.getElem?_cons_succ, List.set_cons_zero, List.set_cons_succ, true_and, and_true, Bool.not_true, Bool.not_false, List.append_nil, decide_true, decide_false, List.getD_cons_zero, List.getD_cons_succ, opTuple_lst]
      refine rows_lc N is _ _ (.inr rfl) (fun q hq => hi q (by simp [hq])) fun x' => ?_
      rw [e, List.append_assoc]
      exact h x'
theorem range_d (n : Nat) : rangeD 0 1 n = (List.range n).map fun i : Nat => D.int (i : Int) := by
  unfold rangeD
  refine List.map_congr_left fun i _ => ?_
  simp
theorem S_ne (m : Nat) : 0 < (S m).length := by rw [S_len]; exact Nat.pow_pos (by decide)
theorem p__law_made {m : Nat} {nx : List Int → List Int} {K : Rv → Prop} (N : Nx m nx) (h : K (.ow (madeD m nx))) : f__law_made [nextsD m nx] K := by
  have hS : opSorted (nextsD m nx) = some (.ow (.lst ((S m).map stD))) := opSorted_S N.lo N.hi
  have h0 : ∃ s, s ∈ S m ∧ opIdx (.lst ((S m).map stD)) (.int 0) = some (.sh (stD s)) := by
    have hp := S_ne m
    refine ⟨(S m)[0], List.getElem_mem hp, ?_⟩
    show (L2.atI ((S m).map stD) 0).map Rv.sh = _
    unfold L2.atI L2.ixN
    rw [if_pos (by decide), if_pos (by simp; omega)]
    simp [List.getElem?_eq_getElem hp]
  obtain ⟨s, hs, e0⟩ := h0
  have e1 : opLen (stD s) = some (.sh (.int m)) := by
    have := (S_mem m s hs).1
    show some (Rv.sh (.int (iL s).length)) = _
    simp [iL, this]
  have hm := N.hi
  unfold f__law_made w__law_made
  simp only [fnV, env0, List.map_cons, List.map_nil, List.length_cons, List.length_nil, List.replicate, List.cons_append, List.nil_append, Nat.zero_add, Nat.reduceAdd, Nat.reduceSub, Nat.sub_self,
  sNil, sSeq, sBreak, sCont, sExpr, sRet, sRetN, sIf, sSet, sAsg, sPar2, sPar3, sFor, sSetIdx, sSetFld, gN, gT, setAll, vC, vVar, vMove, vP1, vP2, vP3, kP, vChain, evO, evOs, getR, vTup, vLst, lNil, lCons, lStar, mNil, mCons, vCall, vCallD, vFld, vProp, tvV, kB, tvNot, tvAnd, tvOr, vNot, vAnd, vOr, vIf, iSeq, iTp,
  vAppend, vIndexT, vCut, evP, vDnew, vMake, Rv.d, Rv.sl, restE, wipeE, tvYes, List.getElem?_cons_zero, List.getElem?_cons_succ, List.set_cons_zero, List.set_cons_succ, true_and, and_true, Bool.not_true, Bool.not_false, List.append_nil, decide_true, decide_false, List.getD_cons_zero, List.getD_cons_succ, hS, vLc, iRange1, e0, e1]
  refine ⟨by omega, by rw [len_range]; omega, ?_⟩
  rw [Int.toNat_natCast, range_d]
  refine rows_lc N (List.range m) [] _ (.inl rfl) (fun i hi => List.mem_range.mp hi) fun x' => ?_
  simp only [fnV, env0, List.map_cons, List.map_nil, List.length_cons, List.length_nil, List.replicate, List.cons_append, List.nil_append, Nat.zero_add, Nat.reduceAdd, Nat.reduceSub, Nat.sub_self,
  sNil, sSeq, sBreak, sCont, sExpr, sRet, sRetN, sIf, sSet, sAsg, sPar2, sPar3, sFor, sSetIdx, sSetFld, gN, gT, setAll, vC, vVar, vMove, vP1, vP2, vP3, kP, vChain, evO, evOs, getR, vTup, vLst, lNil, lCons, lStar, mNil, mCons, vCall, vCallD, vFld, vProp, tvV, kB, tvNot, tvAnd, tvOr, vNot, vAnd, vOr, vIf, iSeq, iTp,
  vAppend, vIndexT, vCut, evP, vDnew, vMake, Rv.d, Rv.sl, restE, wipeE, tvYes, List.getElem?_cons_zero, List.getElem?_cons_succ, List.set_cons_zero, List.set_cons_succ, true_and, and_true, Bool.not_true, Bool.not_false, List.append_nil, decide_true, decide_false, List.getD_cons_zero, List.getD_cons_succ]
  have e : ((List.range m).map fun i => stD ((S m).map fun s => (nx s).getD i 0)) = (rowsOf m nx).map stD := by
    unfold rowsOf
    rw [List.map_map]
    rfl
  rw [e]
  refine p_Net_init (rows_ok N) ?_
  have e2 : netD ((rowsOf m nx).map stD) m (nxR m (rowsOf m nx)) = madeD m nx := by
    unfold madeD netD
    rw [nexts_congr fun s hs => nxR_rows N hs]
  rw [e2]
  exact h
/-! ### the law's own run -/
theorem trk_ok {m : Nat} {nx : List Int → List Int} (cl : ∀ s ∈ S m, nx s ∈ S m) : ∀ (n : Nat) (line : List (List Int)) (s : List Int), Lin m line → s ∈ S m → n + line.length = 2 ^ m + 1 →
    ∃ line' s', Lin m line' ∧ s' ∈ line' ∧ trk nx n line s = (line'.take (line'.idxOf s'), line'.drop (line'.idxOf s'))
  | 0, line, s, L, _, hn => by
    have := L.le
    omega
  | n + 1, line, s, L, hs, hn => by
    by_cases h : s ∈ line
    · exact ⟨line, s, L, h, by rw [trk, if_pos h]⟩
    · obtain ⟨l', s', a, b, c⟩ := trk_ok cl n (line ++ [s]) (nx s) (L.add h hs) (cl s hs) (by simp; omega)
      exact ⟨l', s', a, b, by rw [trk, if_neg h]; exact c⟩
structure Tr' (m : Nat) (p : List (List Int) × List (List Int)) : Prop where
  lin : Lin m (p.1 ++ p.2)
  pos : 0 < p.2.length
theorem track_ok {m : Nat} {nx : List Int → List Int} (cl : ∀ s ∈ S m, nx s ∈ S m) {s : List Int} (hs : s ∈ S m) : Tr' m (track m nx s) := by
  obtain ⟨l, s', L, h, e⟩ := trk_ok cl (2 ^ m + 1) [] s ⟨List.nodup_nil, fun x h => nomatch h⟩ hs rfl
  have hi := List.idxOf_lt_length_of_mem h
  unfold track
  rw [e]
  exact ⟨by rw [List.take_append_drop]; exact L, by rw [List.length_drop]; omega⟩
theorem opIn_lst (L : List (List Int)) (s : List Int) : opIn (stD s) (.lst (L.map stD)) = some (.sh (.bl (decide (s ∈ L)))) := by
  unfold opIn
  rw [isIn_lst]
  rfl
theorem opIn_tup (L : List (List Int)) (s : List Int) : opIn (stD s) (.tup (L.map stD)) = some (.sh (.bl (decide (s ∈ L)))) := by
  unfold opIn
  rw [isIn_tup]
  rfl
theorem run_loop {m : Nat} {nx : List Int → List Int} (N : Nx m nx) {k : K4} : ∀ (items : List D) (line : List (List Int)) (s : List Int) (x : Sl), Lin m line → s ∈ S m → items.length + line.length = 2 ^ m + 1 →
    k.rt (.sh (trkD (trk nx items.length line s))) →
    forL (gN 3) (sSeq (sIf (tvV (vP2 opIn (.v 1) (.v 2))) (sSeq (sSet 4 (vIndexT "list" (.v 2) (vVar 1)))
    (sRet (vTup (lCons (vP1 opTuple (.e (vCut (.v 2) .no (.e (vVar 4))))) (lCons (vP1 opTuple (.e (vCut (.v 2) (.e (vVar 4)) .no))) lNil))))) sNil)
    (sSeq (sExpr (vAppend 2 (vVar 1)))
    (sSet 1 (vP2 opIdx (.v 0) (.v 1))))) items k [.sh (nextsD m nx), .sh (stD s), .ow (.lst (line.map stD)), x, .no]
  | [], line, s, x, L, _, hn, _ => by
    have := L.le
    simp at hn
    omega
  | d :: items, line, s, x, L, hs, hn, h => by
    have hl := L.le
    have h5 := p_pow5 N.hi
    have hl2 : line.length < 16777216 := by omega
    rw [List.length_cons] at hn h
    unfold forL
    simp only [fnV, env0, List.map_cons, List.map_nil, List.length_cons, List.length_nil, List.replicate, List.cons_append, List.nil_append, Nat.zero_add, Nat.reduceAdd, Nat.reduceSub, Nat.sub_self,
  sNil, sSeq, sBreak, sCont, sExpr, sRet, sRetN, sIf, sSet, sAsg, sPar2, sPar3, sFor, sSetIdx, sSetFld, gN, gT, setAll, vC, vVar, vMove, vP1, vP2, vP3, kP, vChain, evO, evOs, getR, vTup, vLst, lNil, lCons, lStar, mNil, mCons, vCall, vCallD, vFld, vProp, tvV, kB, tvNot, tvAnd, tvOr, vNot, vAnd, vOr, vIf, iSeq, iTp,
  vAppend, vIndexT, vCut, evP, vDnew, vMake, Rv.d, Rv.sl, restE, wipeE, tvYes, List.getElem?_cons_zero, List.getElem?_cons_succ, List.set_cons_zero, List.set_cons_succ, true_and, and_true, Bool.not_true, Bool.not_false, List.append_nil, decide_true, decide_false, List.getD_cons_zero, List.getD_cons_succ, opIn_lst]
    by_cases hm : s ∈ line
    · have hi : line.idxOf s ≤ (line.map stD).length := by
        rw [List.length_map]
        exact Nat.le_of_lt (List.idxOf_lt_length_of_mem hm)
      simp only [fnV, env0, List.map_cons, List.map_nil, List.length_cons, List.length_nil, List.replicate, List.cons_append, List.nil_append, Nat.zero_add, Nat.reduceAdd, Nat.reduceSub, Nat.sub_self,
  sNil, sSeq, sBreak, sCont, sExpr, sRet, sRetN, sIf, sSet, sAsg, sPar2, sPar3, sFor, sSetIdx, sSetFld, gN, gT, setAll, vC, vVar, vMove, vP1, vP2, vP3, kP, vChain, evO, evOs, getR, vTup, vLst, lNil, lCons, lStar, mNil, mCons, vCall, vCallD, vFld, vProp, tvV, kB, tvNot, tvAnd, tvOr, vNot, vAnd, vOr, vIf, iSeq, iTp,
  vAppend, vIndexT, vCut, evP, vDnew, vMake, Rv.d, Rv.sl, restE, wipeE, tvYes, List.getElem?_cons_zero, List.getElem?_cons_succ, List.set_cons_zero, List.set_cons_succ, true_and, and_true, Bool.not_true, Bool.not_false, List.append_nil, decide_true, decide_false, List.getD_cons_zero, List.getD_cons_succ, hm, opIndex_lst hm (by omega), opCut_lo hi, opCut_hi hi, opTuple_lst]
      refine ⟨⟨_, rfl, .inl ⟨_, rfl⟩⟩, by decide, ?_⟩
      rw [trk, if_pos hm] at h
      have e2 : trkD (line.take (line.idxOf s), line.drop (line.idxOf s)) = .tup [.tup ((line.map stD).take (line.idxOf s)), .tup ((line.map stD).drop (line.idxOf s))] := by
        unfold trkD
        simp [List.map_take, List.map_drop]
      rw [e2] at h
      exact h
    · have e : opIdx (nextsD m nx) (stD s) = some (.sh (stD (nx s))) := opIdx_kvs _ hs
      have e3 : line.map stD ++ [stD s] = (line ++ [s]).map stD := by simp
      simp only [fnV, env0, List.map_cons, List.map_nil, List.length_cons, List.length_nil, List.replicate, List.cons_append, List.nil_append, Nat.zero_add, Nat.reduceAdd, Nat.reduceSub, Nat.sub_self,
  sNil, sSeq, sBreak, sCont, sExpr, sRet, sRetN, sIf, sSet, sAsg, sPar2, sPar3, sFor, sSetIdx, sSetFld, gN, gT, setAll, vC, vVar, vMove, vP1, vP2, vP3, kP, vChain, evO, evOs, getR, vTup, vLst, lNil, lCons, lStar, mNil, mCons, vCall, vCallD, vFld, vProp, tvV, kB, tvNot, tvAnd, tvOr, vNot, vAnd, vOr, vIf, iSeq, iTp,
  vAppend, vIndexT, vCut, evP, vDnew, vMake, Rv.d, Rv.sl, restE, wipeE, tvYes, List.getElem?_cons_zero, List.getElem?_cons_succ, List.set_cons_zero, List.set_cons_succ, true_and, and_true, Bool.not_true, Bool.not_false, List.append_nil, decide_true, decide_false, List.getD_cons_zero, List.getD_cons_succ, hm, e, e3, List.length_map]
      refine ⟨hl2, run_loop N items (line ++ [s]) (nx s) _ (L.add hm hs) (N.cl s hs) (by simp; omega) ?_⟩
      rw [trk, if_neg hm] at h
      exact h
theorem p_lt62 {m : Nat} (h5 : 2 ^ m ≤ 32) : ((2 ^ m : Nat) : Int) + 1 < 2 ^ 62 := by
  have : ((2 ^ m : Nat) : Int) ≤ 32 := by exact_mod_cast h5
  omega
theorem p_ge62 {m : Nat} : -(2 ^ 62) ≤ ((2 ^ m : Nat) : Int) + 1 := by
  have : 0 ≤ ((2 ^ m : Nat) : Int) := Int.natCast_nonneg _
  omega
theorem kvs_len (L : List (List Int)) (g : List Int → D) : (kvsD L g).length = L.length := by simp [kvsD]
theorem opLen_nexts {m : Nat} {nx : List Int → List Int} : opLen (nextsD m nx) = some (.sh (.int (2 ^ m : Nat))) := by
  show some (Rv.sh (.int (kvsD (S m) fun s => stD (nx s)).length)) = _
  rw [kvs_len, S_len]
theorem p__law_run {m : Nat} {nx : List Int → List Int} {s : List Int} {K : Rv → Prop} (N : Nx m nx) (hs : s ∈ S m) (h : K (.sh (trkD (track m nx s)))) : f__law_run [nextsD m nx, stD s] K := by
  have h5 := p_pow5 N.hi
  have hl : (rangeD 0 1 (((2 ^ m : Nat) : Int) + 1).toNat).length = 2 ^ m + 1 := by
    rw [len_range, show ((2 ^ m : Nat) : Int) + 1 = ((2 ^ m + 1 : Nat) : Int) from rfl, Int.toNat_natCast]
  unfold f__law_run w__law_run
  simp only [fnV, env0, List.map_cons, List.map_nil, List.length_cons, List.length_nil, List.replicate, List.cons_append, List.nil_append, Nat.zero_add, Nat.reduceAdd, Nat.reduceSub, Nat.sub_self,
  sNil, sSeq, sBreak, sCont, sExpr, sRet, sRetN, sIf, sSet, sAsg, sPar2, sPar3, sFor, sSetIdx, sSetFld, gN, gT, setAll, vC, vVar, vMove, vP1, vP2, vP3, kP, vChain, evO, evOs, getR, vTup, vLst, lNil, lCons, lStar, mNil, mCons, vCall, vCallD, vFld, vProp, tvV, kB, tvNot, tvAnd, tvOr, vNot, vAnd, vOr, vIf, iSeq, iTp,
  vAppend, vIndexT, vCut, evP, vDnew, vMake, Rv.d, Rv.sl, restE, wipeE, tvYes, List.getElem?_cons_zero, List.getElem?_cons_succ, List.set_cons_zero, List.set_cons_succ, true_and, and_true, Bool.not_true, Bool.not_false, List.append_nil, decide_true, decide_false, List.getD_cons_zero, List.getD_cons_succ, opLen_nexts, opAdd_int, iRange1]
  refine ⟨by decide, ⟨p_ge62, p_lt62 h5⟩, run_loop N _ [] s _ ⟨List.nodup_nil, fun x h => nomatch h⟩ hs (by rw [hl]; rfl) ?_⟩
  rw [hl]
  exact h
/-! ### after, time, the longest tail -/
section
variable {R : List D} {m : Nat} {nx : List Int → List Int} {s t : List Int} {K : Rv → Prop}
theorem p_beat_run (N : Nt R m nx) (hs : s ∈ S m) (h : K (.sh (trkD (track m nx s)))) : f_beat_run [netD R m nx, stD s] K := by
  unfold f_beat_run w_beat_run
  simp only [fnV, env0, List.map_cons, List.map_nil, List.length_cons, List.length_nil, List.replicate, List.cons_append, List.nil_append, Nat.zero_add, Nat.reduceAdd, Nat.reduceSub, Nat.sub_self,
  sNil, sSeq, sBreak, sCont, sExpr, sRet, sRetN, sIf, sSet, sAsg, sPar2, sPar3, sFor, sSetIdx, sSetFld, gN, gT, setAll, vC, vVar, vMove, vP1, vP2, vP3, kP, vChain, evO, evOs, getR, vTup, vLst, lNil, lCons, lStar, mNil, mCons, vCall, vCallD, vFld, vProp, tvV, kB, tvNot, tvAnd, tvOr, vNot, vAnd, vOr, vIf, iSeq, iTp,
  vAppend, vIndexT, vCut, evP, vDnew, vMake, Rv.d, Rv.sl, restE, wipeE, tvYes, List.getElem?_cons_zero, List.getElem?_cons_succ, List.set_cons_zero, List.set_cons_succ, true_and, and_true, Bool.not_true, Bool.not_false, List.append_nil, decide_true, decide_false, List.getD_cons_zero, List.getD_cons_succ]
  refine p_need_net_state N hs ?_
  exact p_beat_track N hs h
def aft (p : List (List Int) × List (List Int)) (t : Int) : List Int := if t < p.1.length then p.1.getD t.toNat [] else p.2.getD ((t - p.1.length).fmod p.2.length).toNat []
theorem opIdx_sts {L : List (List Int)} {i : Int} (h0 : 0 ≤ i) (h : i < L.length) : opIdx (.tup (L.map stD)) (.int i) = some (.sh (stD (L.getD i.toNat []))) := by
  have h1 : i.toNat < L.length := by omega
  have e : L2.atI (L.map stD) i = some (stD (L.getD i.toNat [])) := by
    unfold L2.atI L2.ixN
    rw [if_pos h0, if_pos (by simpa using h)]
    simp [List.getElem?_eq_getElem h1, List.getD_eq_getElem?_getD]
  show (L2.atI (L.map stD) i).map Rv.sh = _
  rw [e]
  rfl
theorem trkD_eq (p : List (List Int) × List (List Int)) : trkD p = .tup [.tup (p.1.map stD), .tup (p.2.map stD)] := rfl
theorem p_state_after (N : Nt R m nx) (hs : s ∈ S m) {t : Int} (ht : 0 ≤ t) (h : K (.sh (stD (aft (track m nx s) t)))) : f_state_after [netD R m nx, stD s, .int t] K := by
  have T := track_ok N.cl hs
  unfold f_state_after w_state_after
  simp only [fnV, env0, List.map_cons, List.map_nil, List.length_cons, List.length_nil, List.replicate, List.cons_append, List.nil_append, Nat.zero_add, Nat.reduceAdd, Nat.reduceSub, Nat.sub_self,
  sNil, sSeq, sBreak, sCont, sExpr, sRet, sRetN, sIf, sSet, sAsg, sPar2, sPar3, sFor, sSetIdx, sSetFld, gN, gT, setAll, vC, vVar, vMove, vP1, vP2, vP3, kP, vChain, evO, evOs, getR, vTup, vLst, lNil, lCons, lStar, mNil, mCons, vCall, vCallD, vFld, vProp, tvV, kB, tvNot, tvAnd, tvOr, vNot, vAnd, vOr, vIf, iSeq, iTp,
  vAppend, vIndexT, vCut, evP, vDnew, vMake, Rv.d, Rv.sl, restE, wipeE, tvYes, List.getElem?_cons_zero, List.getElem?_cons_succ, List.set_cons_zero, List.set_cons_succ, true_and, and_true, Bool.not_true, Bool.not_false, List.append_nil, decide_true, decide_false, List.getD_cons_zero, List.getD_cons_succ]
  refine p_beat_track N hs ?_
  rw [trkD_eq]
  unfold aft at h
  by_cases h1 : t < ((track m nx s).1.length : Nat)
  · have e := opIdx_sts (L := (track m nx s).1) ht h1
    rw [if_pos h1] at h
    simp only [fnV, env0, List.map_cons, List.map_nil, List.length_cons, List.length_nil, List.replicate, List.cons_append, List.nil_append, Nat.zero_add, Nat.reduceAdd, Nat.reduceSub, Nat.sub_self,
  sNil, sSeq, sBreak, sCont, sExpr, sRet, sRetN, sIf, sSet, sAsg, sPar2, sPar3, sFor, sSetIdx, sSetFld, gN, gT, setAll, vC, vVar, vMove, vP1, vP2, vP3, kP, vChain, evO, evOs, getR, vTup, vLst, lNil, lCons, lStar, mNil, mCons, vCall, vCallD, vFld, vProp, tvV, kB, tvNot, tvAnd, tvOr, vNot, vAnd, vOr, vIf, iSeq, iTp,
  vAppend, vIndexT, vCut, evP, vDnew, vMake, Rv.d, Rv.sl, restE, wipeE, tvYes, List.getElem?_cons_zero, List.getElem?_cons_succ, List.set_cons_zero, List.set_cons_succ, true_and, and_true, Bool.not_true, Bool.not_false, List.append_nil, decide_true, decide_false, List.getD_cons_zero, List.getD_cons_succ, opLen_tup, List.length_map, opLt_int, h1, e]
    exact h
  · have hp := T.pos
    have h2 : ((track m nx s).2.length : Int) ≠ 0 := by omega
    have h3 : (0 : Int) < ((track m nx s).2.length : Nat) := by omega
    have e := opIdx_sts (L := (track m nx s).2) (i := (t - ((track m nx s).1.length : Nat)).fmod ((track m nx s).2.length : Nat)) (Int.fmod_nonneg_of_pos _ h3) (Int.fmod_lt_of_pos _ h3)
    rw [if_neg h1] at h
    simp only [fnV, env0, List.map_cons, List.map_nil, List.length_cons, List.length_nil, List.replicate, List.cons_append, List.nil_append, Nat.zero_add, Nat.reduceAdd, Nat.reduceSub, Nat.sub_self,
  sNil, sSeq, sBreak, sCont, sExpr, sRet, sRetN, sIf, sSet, sAsg, sPar2, sPar3, sFor, sSetIdx, sSetFld, gN, gT, setAll, vC, vVar, vMove, vP1, vP2, vP3, kP, vChain, evO, evOs, getR, vTup, vLst, lNil, lCons, lStar, mNil, mCons, vCall, vCallD, vFld, vProp, tvV, kB, tvNot, tvAnd, tvOr, vNot, vAnd, vOr, vIf, iSeq, iTp,
  vAppend, vIndexT, vCut, evP, vDnew, vMake, Rv.d, Rv.sl, restE, wipeE, tvYes, List.getElem?_cons_zero, List.getElem?_cons_succ, List.set_cons_zero, List.set_cons_succ, true_and, and_true, Bool.not_true, Bool.not_false, List.append_nil, decide_true, decide_false, List.getD_cons_zero, List.getD_cons_succ, opLen_tup, List.length_map, opLt_int, h1, opSub_int, opMod_int h2, e]
    exact h
theorem p_need_times {t : Int} (h0 : 0 ≤ t) (h1 : t ≤ 1000000000000000000) (h : K (.sh .non)) : f_need_times [.int t] K := by
  unfold f_need_times w_need_times
  simp only [fnV, env0, List.map_cons, List.map_nil, List.length_cons, List.length_nil, List.replicate, List.cons_append, List.nil_append, Nat.zero_add, Nat.reduceAdd, Nat.reduceSub, Nat.sub_self,
  sNil, sSeq, sBreak, sCont, sExpr, sRet, sRetN, sIf, sSet, sAsg, sPar2, sPar3, sFor, sSetIdx, sSetFld, gN, gT, setAll, vC, vVar, vMove, vP1, vP2, vP3, kP, vChain, evO, evOs, getR, vTup, vLst, lNil, lCons, lStar, mNil, mCons, vCall, vCallD, vFld, vProp, tvV, kB, tvNot, tvAnd, tvOr, vNot, vAnd, vOr, vIf, iSeq, iTp,
  vAppend, vIndexT, vCut, evP, vDnew, vMake, Rv.d, Rv.sl, restE, wipeE, tvYes, List.getElem?_cons_zero, List.getElem?_cons_succ, List.set_cons_zero, List.set_cons_succ, true_and, and_true, Bool.not_true, Bool.not_false, List.append_nil, decide_true, decide_false, List.getD_cons_zero, List.getD_cons_succ]
  refine p_is_between h0 h1 ?_
  simp only [fnV, env0, List.map_cons, List.map_nil, List.length_cons, List.length_nil, List.replicate, List.cons_append, List.nil_append, Nat.zero_add, Nat.reduceAdd, Nat.reduceSub, Nat.sub_self,
  sNil, sSeq, sBreak, sCont, sExpr, sRet, sRetN, sIf, sSet, sAsg, sPar2, sPar3, sFor, sSetIdx, sSetFld, gN, gT, setAll, vC, vVar, vMove, vP1, vP2, vP3, kP, vChain, evO, evOs, getR, vTup, vLst, lNil, lCons, lStar, mNil, mCons, vCall, vCallD, vFld, vProp, tvV, kB, tvNot, tvAnd, tvOr, vNot, vAnd, vOr, vIf, iSeq, iTp,
  vAppend, vIndexT, vCut, evP, vDnew, vMake, Rv.d, Rv.sl, restE, wipeE, tvYes, List.getElem?_cons_zero, List.getElem?_cons_succ, List.set_cons_zero, List.set_cons_succ, true_and, and_true, Bool.not_true, Bool.not_false, List.append_nil, decide_true, decide_false, List.getD_cons_zero, List.getD_cons_succ]
  exact h
theorem p_after (N : Nt R m nx) (hs : s ∈ S m) {t : Int} (h0 : 0 ≤ t) (h1 : t ≤ 1000000000000000000) (h : K (.sh (stD (aft (track m nx s) t)))) : f_after [netD R m nx, stD s, .int t] K := by
  unfold f_after w_after
  simp only [fnV, env0, List.map_cons, List.map_nil, List.length_cons, List.length_nil, List.replicate, List.cons_append, List.nil_append, Nat.zero_add, Nat.reduceAdd, Nat.reduceSub, Nat.sub_self,
  sNil, sSeq, sBreak, sCont, sExpr, sRet, sRetN, sIf, sSet, sAsg, sPar2, sPar3, sFor, sSetIdx, sSetFld, gN, gT, setAll, vC, vVar, vMove, vP1, vP2, vP3, kP, vChain, evO, evOs, getR, vTup, vLst, lNil, lCons, lStar, mNil, mCons, vCall, vCallD, vFld, vProp, tvV, kB, tvNot, tvAnd, tvOr, vNot, vAnd, vOr, vIf, iSeq, iTp,
  vAppend, vIndexT, vCut, evP, vDnew, vMake, Rv.d, Rv.sl, restE, wipeE, tvYes, List.getElem?_cons_zero, List.getElem?_cons_succ, List.set_cons_zero, List.set_cons_succ, true_and, and_true, Bool.not_true, Bool.not_false, List.append_nil, decide_true, decide_false, List.getD_cons_zero, List.getD_cons_succ]
  refine p_need_net_state N hs ?_
  refine p_need_times h0 h1 ?_
  exact p_state_after N hs h0 h
def tmD (p : List (List Int) × List (List Int)) (o : List Int) : D := if o ∈ p.1 ++ p.2 then .int ((p.1 ++ p.2).idxOf o) else .non
theorem p_time_by (N : Nt R m nx) (hs : s ∈ S m) (h : K (.sh (tmD (track m nx s) t))) : f_time_by [netD R m nx, stD s, stD t] K := by
  have T := track_ok N.cl hs
  have hl := T.lin.le
  have h5 := p_pow5 N.hi
  unfold f_time_by w_time_by
  simp only [fnV, env0, List.map_cons, List.map_nil, List.length_cons, List.length_nil, List.replicate, List.cons_append, List.nil_append, Nat.zero_add, Nat.reduceAdd, Nat.reduceSub, Nat.sub_self,
  sNil, sSeq, sBreak, sCont, sExpr, sRet, sRetN, sIf, sSet, sAsg, sPar2, sPar3, sFor, sSetIdx, sSetFld, gN, gT, setAll, vC, vVar, vMove, vP1, vP2, vP3, kP, vChain, evO, evOs, getR, vTup, vLst, lNil, lCons, lStar, mNil, mCons, vCall, vCallD, vFld, vProp, tvV, kB, tvNot, tvAnd, tvOr, vNot, vAnd, vOr, vIf, iSeq, iTp,
  vAppend, vIndexT, vCut, evP, vDnew, vMake, Rv.d, Rv.sl, restE, wipeE, tvYes, List.getElem?_cons_zero, List.getElem?_cons_succ, List.set_cons_zero, List.set_cons_succ, true_and, and_true, Bool.not_true, Bool.not_false, List.append_nil, decide_true, decide_false, List.getD_cons_zero, List.getD_cons_succ]
  refine p_beat_track N hs ?_
  rw [trkD_eq]
  simp only [fnV, env0, List.map_cons, List.map_nil, List.length_cons, List.length_nil, List.replicate, List.cons_append, List.nil_append, Nat.zero_add, Nat.reduceAdd, Nat.reduceSub, Nat.sub_self,
  sNil, sSeq, sBreak, sCont, sExpr, sRet, sRetN, sIf, sSet, sAsg, sPar2, sPar3, sFor, sSetIdx, sSetFld, gN, gT, setAll, vC, vVar, vMove, vP1, vP2, vP3, kP, vChain, evO, evOs, getR, vTup, vLst, lNil, lCons, lStar, mNil, mCons, vCall, vCallD, vFld, vProp, tvV, kB, tvNot, tvAnd, tvOr, vNot, vAnd, vOr, vIf, iSeq, iTp,
  vAppend, vIndexT, vCut, evP, vDnew, vMake, Rv.d, Rv.sl, restE, wipeE, tvYes, List.getElem?_cons_zero, List.getElem?_cons_succ, List.set_cons_zero, List.set_cons_succ, true_and, and_true, Bool.not_true, Bool.not_false, List.append_nil, decide_true, decide_false, List.getD_cons_zero, List.getD_cons_succ]
  have e : (track m nx s).1.map stD ++ (track m nx s).2.map stD = ((track m nx s).1 ++ (track m nx s).2).map stD := by simp
  rw [e]
  refine ⟨by rw [List.length_map]; omega, ?_⟩
  simp only [fnV, env0, List.map_cons, List.map_nil, List.length_cons, List.length_nil, List.replicate, List.cons_append, List.nil_append, Nat.zero_add, Nat.reduceAdd, Nat.reduceSub, Nat.sub_self,
  sNil, sSeq, sBreak, sCont, sExpr, sRet, sRetN, sIf, sSet, sAsg, sPar2, sPar3, sFor, sSetIdx, sSetFld, gN, gT, setAll, vC, vVar, vMove, vP1, vP2, vP3, kP, vChain, evO, evOs, getR, vTup, vLst, lNil, lCons, lStar, mNil, mCons, vCall, vCallD, vFld, vProp, tvV, kB, tvNot, tvAnd, tvOr, vNot, vAnd, vOr, vIf, iSeq, iTp,
  vAppend, vIndexT, vCut, evP, vDnew, vMake, Rv.d, Rv.sl, restE, wipeE, tvYes, List.getElem?_cons_zero, List.getElem?_cons_succ, List.set_cons_zero, List.set_cons_succ, true_and, and_true, Bool.not_true, Bool.not_false, List.append_nil, decide_true, decide_false, List.getD_cons_zero, List.getD_cons_succ, opIn_tup]
  unfold tmD at h
  by_cases hm : t ∈ (track m nx s).1 ++ (track m nx s).2
  · rw [if_pos hm] at h
    simp only [fnV, env0, List.map_cons, List.map_nil, List.length_cons, List.length_nil, List.replicate, List.cons_append, List.nil_append, Nat.zero_add, Nat.reduceAdd, Nat.reduceSub, Nat.sub_self,
  sNil, sSeq, sBreak, sCont, sExpr, sRet, sRetN, sIf, sSet, sAsg, sPar2, sPar3, sFor, sSetIdx, sSetFld, gN, gT, setAll, vC, vVar, vMove, vP1, vP2, vP3, kP, vChain, evO, evOs, getR, vTup, vLst, lNil, lCons, lStar, mNil, mCons, vCall, vCallD, vFld, vProp, tvV, kB, tvNot, tvAnd, tvOr, vNot, vAnd, vOr, vIf, iSeq, iTp,
  vAppend, vIndexT, vCut, evP, vDnew, vMake, Rv.d, Rv.sl, restE, wipeE, tvYes, List.getElem?_cons_zero, List.getElem?_cons_succ, List.set_cons_zero, List.set_cons_succ, true_and, and_true, Bool.not_true, Bool.not_false, List.append_nil, decide_true, decide_false, List.getD_cons_zero, List.getD_cons_succ, hm, opIndex_tup hm (by omega)]
    exact ⟨⟨_, rfl, .inr ⟨_, rfl⟩⟩, h⟩
  · rw [if_neg hm] at h
    simp only [fnV, env0, List.map_cons, List.map_nil, List.length_cons, List.length_nil, List.replicate, List.cons_append, List.nil_append, Nat.zero_add, Nat.reduceAdd, Nat.reduceSub, Nat.sub_self,
  sNil, sSeq, sBreak, sCont, sExpr, sRet, sRetN, sIf, sSet, sAsg, sPar2, sPar3, sFor, sSetIdx, sSetFld, gN, gT, setAll, vC, vVar, vMove, vP1, vP2, vP3, kP, vChain, evO, evOs, getR, vTup, vLst, lNil, lCons, lStar, mNil, mCons, vCall, vCallD, vFld, vProp, tvV, kB, tvNot, tvAnd, tvOr, vNot, vAnd, vOr, vIf, iSeq, iTp,
  vAppend, vIndexT, vCut, evP, vDnew, vMake, Rv.d, Rv.sl, restE, wipeE, tvYes, List.getElem?_cons_zero, List.getElem?_cons_succ, List.set_cons_zero, List.set_cons_succ, true_and, and_true, Bool.not_true, Bool.not_false, List.append_nil, decide_true, decide_false, List.getD_cons_zero, List.getD_cons_succ, hm]
    exact h
theorem p_need_two (N : Nt R m nx) (hs : s ∈ S m) (ht : t ∈ S m) (h : K (.sh .non)) : f_need_two_states [netD R m nx, stD s, stD t] K := by
  unfold f_need_two_states w_need_two_states
  simp only [fnV, env0, List.map_cons, List.map_nil, List.length_cons, List.length_nil, List.replicate, List.cons_append, List.nil_append, Nat.zero_add, Nat.reduceAdd, Nat.reduceSub, Nat.sub_self,
  sNil, sSeq, sBreak, sCont, sExpr, sRet, sRetN, sIf, sSet, sAsg, sPar2, sPar3, sFor, sSetIdx, sSetFld, gN, gT, setAll, vC, vVar, vMove, vP1, vP2, vP3, kP, vChain, evO, evOs, getR, vTup, vLst, lNil, lCons, lStar, mNil, mCons, vCall, vCallD, vFld, vProp, tvV, kB, tvNot, tvAnd, tvOr, vNot, vAnd, vOr, vIf, iSeq, iTp,
  vAppend, vIndexT, vCut, evP, vDnew, vMake, Rv.d, Rv.sl, restE, wipeE, tvYes, List.getElem?_cons_zero, List.getElem?_cons_succ, List.set_cons_zero, List.set_cons_succ, true_and, and_true, Bool.not_true, Bool.not_false, List.append_nil, decide_true, decide_false, List.getD_cons_zero, List.getD_cons_succ]
  refine p_need_net ?_
  refine p_need_state N hs ?_
  exact p_need_state N ht h
theorem p_beat_time (N : Nt R m nx) (hs : s ∈ S m) (ht : t ∈ S m) (h : K (.sh (tmD (track m nx s) t))) : f_beat_time [netD R m nx, stD s, stD t] K := by
  unfold f_beat_time w_beat_time
  simp only [fnV, env0, List.map_cons, List.map_nil, List.length_cons, List.length_nil, List.replicate, List.cons_append, List.nil_append, Nat.zero_add, Nat.reduceAdd, Nat.reduceSub, Nat.sub_self,
  sNil, sSeq, sBreak, sCont, sExpr, sRet, sRetN, sIf, sSet, sAsg, sPar2, sPar3, sFor, sSetIdx, sSetFld, gN, gT, setAll, vC, vVar, vMove, vP1, vP2, vP3, kP, vChain, evO, evOs, getR, vTup, vLst, lNil, lCons, lStar, mNil, mCons, vCall, vCallD, vFld, vProp, tvV, kB, tvNot, tvAnd, tvOr, vNot, vAnd, vOr, vIf, iSeq, iTp,
  vAppend, vIndexT, vCut, evP, vDnew, vMake, Rv.d, Rv.sl, restE, wipeE, tvYes, List.getElem?_cons_zero, List.getElem?_cons_succ, List.set_cons_zero, List.set_cons_succ, true_and, and_true, Bool.not_true, Bool.not_false, List.append_nil, decide_true, decide_false, List.getD_cons_zero, List.getD_cons_succ]
  refine p_need_two N hs ht ?_
  exact p_time_by N hs h
end
/-! ### the longest tail, the law's check of one net -/
def pairD (m : Nat) (nx : List Int → List Int) (s : List Int) : D := .tup [.int (0 - ((track m nx s).1.length : Nat)), stD s]
theorem alike_iL : ∀ a b : List Int, PySem.W.alikeAll (pys (iL a)) (pys (iL b)) = true
  | [], _ => by simp [iL, pys, PySem.W.alikeAll]
  | x :: a, [] => by simp [iL, pys, PySem.W.alikeAll]
  | x :: a, y :: b => by
    have := alike_iL a b
    simp only [iL] at this
    simp [iL, pys, py, PySem.W.alikeAll, PySem.W.alike, this]
theorem alike_pair (i j : Int) (a b : List Int) : PySem.W.alike (py (.tup [.int i, stD a])) (py (.tup [.int j, stD b])) = true := by
  simp [py, pys, PySem.W.alike, PySem.W.alikeAll, stD, alike_iL]
theorem minL_mem : ∀ (xs : List D) (x : D), minL x xs ∈ x :: xs
  | [], x => by simp [minL]
  | y :: xs, x => by
    unfold minL
    rw [List.foldl_cons]
    by_cases h : PySem.W.dataLt (py y) (py x) = true
    · rw [if_pos h]
      have := minL_mem xs y
      unfold minL at this
      exact List.mem_cons_of_mem _ this
    · rw [if_neg h]
      have := minL_mem xs x
      unfold minL at this
      rcases List.mem_cons.mp this with e | e
      · rw [e]; simp
      · simp [e]
theorem pln_pair (i : Int) (a : List Int) : pln 60 (.tup [.int i, stD a]) = true := by
  rw [pln]
  simp [plns, pln, pln_st]
theorem min_pairs {f : List Int → Int} {L : List (List Int)} (h : 0 < L.length) : ∃ s, s ∈ L ∧ opMin (.lst (L.map fun s => .tup [.int (f s), stD s])) = some (.sh (.tup [.int (f s), stD s])) := by
  have hp : ∀ L : List (List Int), plns 60 (L.map fun s => D.tup [.int (f s), stD s]) = true := by
    intro L
    induction L with
    | nil => rfl
    | cons x L ih => simp [plns, pln, pln_st, ih]
  cases L with
  | nil => simp at h
  | cons x L =>
    have hb : minB ((x :: L).map fun s => D.tup [.int (f s), stD s]) = true := by
      unfold minB
      simp only [Bool.and_eq_true, List.all_eq_true]
      refine ⟨⟨hp _, fun a ha b hb => ?_⟩, fun a ha => ?_⟩
      · obtain ⟨s, _, rfl⟩ := List.mem_map.mp ha
        obtain ⟨t, _, rfl⟩ := List.mem_map.mp hb
        exact alike_pair _ _ _ _
      · obtain ⟨s, _, rfl⟩ := List.mem_map.mp ha
        simp [py, isNonP]
    have hm := minL_mem (L.map fun s => D.tup [.int (f s), stD s]) (.tup [.int (f x), stD x])
    rw [← List.map_cons (f := fun s => D.tup [.int (f s), stD s])] at hm
    obtain ⟨s, hs, e⟩ := List.mem_map.mp hm
    refine ⟨s, hs, ?_⟩
    rw [List.map_cons] at hb ⊢
    simp only [opMin, hb, if_true, ← e]
theorem idx_pair0 {i : Int} {d : D} : opIdx (.tup [.int i, d]) (.int 0) = some (.sh (.int i)) := rfl
theorem idx_pair1 {i : Int} {d : D} : opIdx (.tup [.int i, d]) (.int 1) = some (.sh d) := rfl
theorem idx_trk {p : List (List Int) × List (List Int)} : opIdx (trkD p) (.int 0) = some (.sh (.tup (p.1.map stD))) := rfl
section
variable {R : List D} {m : Nat} {nx : List Int → List Int} {s t : List Int} {K : Rv → Prop}
theorem tails_lc (N : Nt R m nx) {b : Sl} {K : List D → Ev → Prop} : ∀ (L : List (List Int)) (acc : List D), (∀ s ∈ L, s ∈ S m) → K (acc ++ L.map (pairD m nx)) [.sh (netD R m nx), b, .no] →
    lcL (gN 2) tvYes (vTup (lCons (vP2 opSub (.e (vC (.int 0))) (.e (vP1 opLen (.e (vP2 opIdx (.e (vCall 2 f_beat_track (lCons (vVar 0) (lCons (vVar 2) lNil)))) (.e (vC (.int 0)))))))) (lCons (vVar 2) lNil))) [2] (L.map stD) acc [.sh (netD R m nx), b, .no] K
  | [], acc, _, h => by
    rw [List.map_nil, List.append_nil] at h
    exact h
  | s :: L, acc, hL, h => by
    rw [List.map_cons]
    unfold lcL
    simp only [fnV, env0, List.map_cons, List.map_nil, List.length_cons, List.length_nil, List.replicate, List.cons_append, List.nil_append, Nat.zero_add, Nat.reduceAdd, Nat.reduceSub, Nat.sub_self,
  sNil, sSeq, sBreak, sCont, sExpr, sRet, sRetN, sIf, sSet, sAsg, sPar2, sPar3, sFor, sSetIdx, sSetFld, gN, gT, setAll, vC, vVar, vMove, vP1, vP2, vP3, kP, vChain, evO, evOs, getR, vTup, vLst, lNil, lCons, lStar, mNil, mCons, vCall, vCallD, vFld, vProp, tvV, kB, tvNot, tvAnd, tvOr, vNot, vAnd, vOr, vIf, iSeq, iTp,
  vAppend, vIndexT, vCut, evP, vDnew, vMake, Rv.d, Rv.sl, restE, wipeE, tvYes, List.getElem?_cons_zero, List.getElem?_cons_succ, List.set_cons_zero, List.set_cons_succ, true_and, and_true, Bool.not_true, Bool.not_false, List.append_nil, decide_true, decide_false, List.getD_cons_zero, List.getD_cons_succ]
    refine p_beat_track N (hL s (by simp)) ?_
    simp only [fnV, env0, List.map_cons, List.map_nil, List.length_cons, List.length_nil, List.replicate, List.cons_append, List.nil_append, Nat.zero_add, Nat.reduceAdd, Nat.reduceSub, Nat.sub_self,
  sNil, sSeq, sBreak, sCont, sExpr, sRet, sRetN, sIf, sSet, sAsg, sPar2, sPar3, sFor, sSetIdx, sSetFld, gN, gT, setAll, vC, vVar, vMove, vP1, vP2, vP3, kP, vChain, evO, evOs, getR, vTup, vLst, lNil, lCons, lStar, mNil, mCons, vCall, vCallD, vFld, vProp, tvV, kB, tvNot, tvAnd, tvOr, vNot, vAnd, vOr, vIf, iSeq, iTp,
  vAppend, vIndexT, vCut, evP, vDnew, vMake, Rv.d, Rv.sl, restE, wipeE, tvYes, List.getElem?_cons_zero, List.getElem?_cons_succ, List.set_cons_zero, List.set_cons_succ, true_and, and_true, Bool.not_true, Bool.not_false, List.append_nil, decide_true, decide_false, List.getD_cons_zero, List.getD_cons_succ, idx_trk, opLen_tup, List.length_map, opSub_int]
    refine ⟨by decide, tails_lc N L _ (fun q hq => hL q (by simp [hq])) ?_⟩
    rw [List.append_assoc]
    exact h
theorem p_longest_tail (N : Nt R m nx) {a : Int} (he : opMin (.lst ((S m).map (pairD m nx))) = some (.sh (.tup [.int a, stD s]))) (h : K (.sh (.tup [.int (0 - a), stD s]))) : f_longest_tail [netD R m nx] K := by
  have h5 := p_pow5 N.hi
  have hl := S_len m
  unfold f_longest_tail w_longest_tail
  simp only [fnV, env0, List.map_cons, List.map_nil, List.length_cons, List.length_nil, List.replicate, List.cons_append, List.nil_append, Nat.zero_add, Nat.reduceAdd, Nat.reduceSub, Nat.sub_self,
  sNil, sSeq, sBreak, sCont, sExpr, sRet, sRetN, sIf, sSet, sAsg, sPar2, sPar3, sFor, sSetIdx, sSetFld, gN, gT, setAll, vC, vVar, vMove, vP1, vP2, vP3, kP, vChain, evO, evOs, getR, vTup, vLst, lNil, lCons, lStar, mNil, mCons, vCall, vCallD, vFld, vProp, tvV, kB, tvNot, tvAnd, tvOr, vNot, vAnd, vOr, vIf, iSeq, iTp,
  vAppend, vIndexT, vCut, evP, vDnew, vMake, Rv.d, Rv.sl, restE, wipeE, tvYes, List.getElem?_cons_zero, List.getElem?_cons_succ, List.set_cons_zero, List.set_cons_succ, true_and, and_true, Bool.not_true, Bool.not_false, List.append_nil, decide_true, decide_false, List.getD_cons_zero, List.getD_cons_succ, vLc]
  refine p_need_net ?_
  refine ⟨rfl, ?_⟩
  show f_Net_switches [netD R m nx] _
  refine p_switches N ?_
  simp only [fnV, env0, List.map_cons, List.map_nil, List.length_cons, List.length_nil, List.replicate, List.cons_append, List.nil_append, Nat.zero_add, Nat.reduceAdd, Nat.reduceSub, Nat.sub_self,
  sNil, sSeq, sBreak, sCont, sExpr, sRet, sRetN, sIf, sSet, sAsg, sPar2, sPar3, sFor, sSetIdx, sSetFld, gN, gT, setAll, vC, vVar, vMove, vP1, vP2, vP3, kP, vChain, evO, evOs, getR, vTup, vLst, lNil, lCons, lStar, mNil, mCons, vCall, vCallD, vFld, vProp, tvV, kB, tvNot, tvAnd, tvOr, vNot, vAnd, vOr, vIf, iSeq, iTp,
  vAppend, vIndexT, vCut, evP, vDnew, vMake, Rv.d, Rv.sl, restE, wipeE, tvYes, List.getElem?_cons_zero, List.getElem?_cons_succ, List.set_cons_zero, List.set_cons_succ, true_and, and_true, Bool.not_true, Bool.not_false, List.append_nil, decide_true, decide_false, List.getD_cons_zero, List.getD_cons_succ]
  refine p_all_states N.hi ?_
  simp only [fnV, env0, List.map_cons, List.map_nil, List.length_cons, List.length_nil, List.replicate, List.cons_append, List.nil_append, Nat.zero_add, Nat.reduceAdd, Nat.reduceSub, Nat.sub_self,
  sNil, sSeq, sBreak, sCont, sExpr, sRet, sRetN, sIf, sSet, sAsg, sPar2, sPar3, sFor, sSetIdx, sSetFld, gN, gT, setAll, vC, vVar, vMove, vP1, vP2, vP3, kP, vChain, evO, evOs, getR, vTup, vLst, lNil, lCons, lStar, mNil, mCons, vCall, vCallD, vFld, vProp, tvV, kB, tvNot, tvAnd, tvOr, vNot, vAnd, vOr, vIf, iSeq, iTp,
  vAppend, vIndexT, vCut, evP, vDnew, vMake, Rv.d, Rv.sl, restE, wipeE, tvYes, List.getElem?_cons_zero, List.getElem?_cons_succ, List.set_cons_zero, List.set_cons_succ, true_and, and_true, Bool.not_true, Bool.not_false, List.append_nil, decide_true, decide_false, List.getD_cons_zero, List.getD_cons_succ]
  refine ⟨by rw [List.length_map]; omega, tails_lc N (S m) [] (fun _ h => h) ?_⟩
  simp only [fnV, env0, List.map_cons, List.map_nil, List.length_cons, List.length_nil, List.replicate, List.cons_append, List.nil_append, Nat.zero_add, Nat.reduceAdd, Nat.reduceSub, Nat.sub_self,
  sNil, sSeq, sBreak, sCont, sExpr, sRet, sRetN, sIf, sSet, sAsg, sPar2, sPar3, sFor, sSetIdx, sSetFld, gN, gT, setAll, vC, vVar, vMove, vP1, vP2, vP3, kP, vChain, evO, evOs, getR, vTup, vLst, lNil, lCons, lStar, mNil, mCons, vCall, vCallD, vFld, vProp, tvV, kB, tvNot, tvAnd, tvOr, vNot, vAnd, vOr, vIf, iSeq, iTp,
  vAppend, vIndexT, vCut, evP, vDnew, vMake, Rv.d, Rv.sl, restE, wipeE, tvYes, List.getElem?_cons_zero, List.getElem?_cons_succ, List.set_cons_zero, List.set_cons_succ, true_and, and_true, Bool.not_true, Bool.not_false, List.append_nil, decide_true, decide_false, List.getD_cons_zero, List.getD_cons_succ, he, idx_pair0, idx_pair1, opSub_int]
  exact ⟨by decide, h⟩
end
/-! ### equal things are equal -/
theorem opNe_of {x : D} (h1 : pln 60 x = true) (h2 : eqb x x = true) : opNe x x = some (.sh (.bl false)) := by
  unfold opNe pl2
  rw [h1, h2]
  rfl
theorem opNe_st (s : List Int) : opNe (stD s) (stD s) = some (.sh (.bl false)) := opNe_of (pln_st 59 s) (by rw [eqb_st]; simp)
theorem opNe_pair (i : Int) (s : List Int) : opNe (.tup [.int i, stD s]) (.tup [.int i, stD s]) = some (.sh (.bl false)) := opNe_of (pln_pair i s) (by simp [eqb, eqbs, eqb_st])
theorem eqbs_sts : ∀ L : List (List Int), eqbs (L.map stD) (L.map stD) = true
  | [] => by simp [eqbs]
  | x :: L => by simp [eqbs, eqb_st, eqbs_sts L]
theorem opNe_trk (p : List (List Int) × List (List Int)) : opNe (trkD p) (trkD p) = some (.sh (.bl false)) :=
  opNe_of (by simp [trkD, pln, plns, plns_sts]) (by simp [trkD, eqb, eqbs, eqbs_sts])
theorem opNe_tm (p : List (List Int) × List (List Int)) (o : List Int) : opNe (tmD p o) (tmD p o) = some (.sh (.bl false)) := by
  unfold tmD
  split
  · exact opNe_of (by simp [pln]) (by simp [eqb])
  · exact opNe_of (by simp [pln]) (by simp [eqb])
section
variable {m : Nat} {nx : List Int → List Int} {s t : List Int}
theorem len_loop (N : Nx m nx) {a c d : Sl} {r : Ev} {k : K4} : ∀ (L : List (List Int)) (acc : List D) (x : Sl), acc.length + L.length ≤ 1000 → (∀ s ∈ L, s ∈ S m) → (∀ x', k.nx ([a, .sh (nextsD m nx), c, d, .ow (.lst (acc ++ L.map (pairD m nx))), x'] ++ r)) →
    forL (gN 5) (sExpr (vAppend 4 (vTup (lCons (vP2 opSub (.e (vC (.int 0))) (.e (vP1 opLen (.e (vP2 opIdx (.e (vCall 2 f__law_run (lCons (vVar 1) (lCons (vVar 5) lNil)))) (.e (vC (.int 0)))))))) (lCons (vVar 5) lNil))))) (L.map stD) k ([a, .sh (nextsD m nx), c, d, .ow (.lst acc), x] ++ r)
  | [], acc, x, _, _, h => by
    have h := h x
    rw [List.map_nil, List.append_nil] at h
    exact h
  | s :: L, acc, x, hl, hL, h => by
    rw [List.length_cons] at hl
    rw [List.map_cons]
    unfold forL
    simp only [fnV, env0, List.map_cons, List.map_nil, List.length_cons, List.length_nil, List.replicate, List.cons_append, List.nil_append, Nat.zero_add, Nat.reduceAdd, Nat.reduceSub, Nat.sub_self,
  sNil, sSeq, sBreak, sCont, sExpr, sRet, sRetN, sIf, sSet, sAsg, sPar2, sPar3, sFor, sSetIdx, sSetFld, gN, gT, setAll, vC, vVar, vMove, vP1, vP2, vP3, kP, vChain, evO, evOs, getR, vTup, vLst, lNil, lCons, lStar, mNil, mCons, vCall, vCallD, vFld, vProp, tvV, kB, tvNot, tvAnd, tvOr, vNot, vAnd, vOr, vIf, iSeq, iTp,
  vAppend, vIndexT, vCut, evP, vDnew, vMake, Rv.d, Rv.sl, restE, wipeE, tvYes, List.getElem?_cons_zero, List.getElem?_cons_succ, List.set_cons_zero, List.set_cons_succ, true_and, and_true, Bool.not_true, Bool.not_false, List.append_nil, decide_true, decide_false, List.getD_cons_zero, List.getD_cons_succ]
    refine p__law_run N (hL s (by simp)) ?_
    simp only [fnV, env0, List.map_cons, List.map_nil, List.length_cons, List.length_nil, List.replicate, List.cons_append, List.nil_append, Nat.zero_add, Nat.reduceAdd, Nat.reduceSub, Nat.sub_self,
  sNil, sSeq, sBreak, sCont, sExpr, sRet, sRetN, sIf, sSet, sAsg, sPar2, sPar3, sFor, sSetIdx, sSetFld, gN, gT, setAll, vC, vVar, vMove, vP1, vP2, vP3, kP, vChain, evO, evOs, getR, vTup, vLst, lNil, lCons, lStar, mNil, mCons, vCall, vCallD, vFld, vProp, tvV, kB, tvNot, tvAnd, tvOr, vNot, vAnd, vOr, vIf, iSeq, iTp,
  vAppend, vIndexT, vCut, evP, vDnew, vMake, Rv.d, Rv.sl, restE, wipeE, tvYes, List.getElem?_cons_zero, List.getElem?_cons_succ, List.set_cons_zero, List.set_cons_succ, true_and, and_true, Bool.not_true, Bool.not_false, List.append_nil, decide_true, decide_false, List.getD_cons_zero, List.getD_cons_succ, idx_trk, opLen_tup, List.length_map, opSub_int]
    refine ⟨by decide, by omega, len_loop N L _ _ (by simp; omega) (fun q hq => hL q (by simp [hq])) fun x' => ?_⟩
    rw [List.append_assoc]
    exact h x'
theorem times_loop {R : List D} (N : Nt R m nx) (hs : s ∈ S m) {a b c e x9 x10 : Sl} {k : K4} : ∀ (ts : List Int) (x8 x11 : Sl), (∀ t ∈ ts, 0 ≤ t ∧ t ≤ 1000000000000000000) → (∀ x8' x11', k.nx [a, b, c, .sh (netD R m nx), e, .sh (stD s), .sh (.tup ((track m nx s).1.map stD)), .sh (.tup ((track m nx s).2.map stD)), x8', x9, x10, x11']) →
    forL (gN 8) (sSeq (sSet 11 (vIf (tvV (vP2 opLt (.v 8) (.e (vP1 opLen (.v 6))))) (vP2 opIdx (.v 6) (.v 8)) (vP2 opIdx (.v 7) (.e (vP2 opMod (.e (vP1 opInt (.e (vP2 opSub (.v 8) (.e (vP1 opLen (.v 6))))))) (.e (vP1 opLen (.v 7))))))))
    (sIf (tvV (vP2 opNe (.e (vCall 3 f_after (lCons (vVar 3) (lCons (vVar 5) (lCons (vVar 8) lNil))))) (.v 11))) (sRet (vC (.bl false))) sNil)) (ts.map D.int) k [a, b, c, .sh (netD R m nx), e, .sh (stD s), .sh (.tup ((track m nx s).1.map stD)), .sh (.tup ((track m nx s).2.map stD)), x8, x9, x10, x11]
  | [], x8, x11, _, h => h x8 x11
  | t :: ts, x8, x11, ht, h => by
    obtain ⟨h0, h1⟩ := ht t (by simp)
    have T := track_ok N.cl hs
    have ih := times_loop N hs (a := a) (b := b) (c := c) (e := e) (x9 := x9) (x10 := x10) (k := k) ts (.sh (.int t)) (.sh (stD (aft (track m nx s) t))) (fun q hq => ht q (by simp [hq])) h
    rw [List.map_cons]
    unfold forL
    by_cases hlt : t < ((track m nx s).1.length : Nat)
    · have ei := opIdx_sts (L := (track m nx s).1) h0 hlt
      have ea : aft (track m nx s) t = (track m nx s).1.getD t.toNat [] := by unfold aft; rw [if_pos hlt]
      rw [← ea] at ei
      simp only [fnV, env0, List.map_cons, List.map_nil, List.length_cons, List.length_nil, List.replicate, List.cons_append, List.nil_append, Nat.zero_add, Nat.reduceAdd, Nat.reduceSub, Nat.sub_self,
  sNil, sSeq, sBreak, sCont, sExpr, sRet, sRetN, sIf, sSet, sAsg, sPar2, sPar3, sFor, sSetIdx, sSetFld, gN, gT, setAll, vC, vVar, vMove, vP1, vP2, vP3, kP, vChain, evO, evOs, getR, vTup, vLst, lNil, lCons, lStar, mNil, mCons, vCall, vCallD, vFld, vProp, tvV, kB, tvNot, tvAnd, tvOr, vNot, vAnd, vOr, vIf, iSeq, iTp,
  vAppend, vIndexT, vCut, evP, vDnew, vMake, Rv.d, Rv.sl, restE, wipeE, tvYes, List.getElem?_cons_zero, List.getElem?_cons_succ, List.set_cons_zero, List.set_cons_succ, true_and, and_true, Bool.not_true, Bool.not_false, List.append_nil, decide_true, decide_false, List.getD_cons_zero, List.getD_cons_succ, opLen_tup, List.length_map, opLt_int, hlt, ei]
      refine p_after N hs h0 h1 ?_
      simp only [fnV, env0, List.map_cons, List.map_nil, List.length_cons, List.length_nil, List.replicate, List.cons_append, List.nil_append, Nat.zero_add, Nat.reduceAdd, Nat.reduceSub, Nat.sub_self,
  sNil, sSeq, sBreak, sCont, sExpr, sRet, sRetN, sIf, sSet, sAsg, sPar2, sPar3, sFor, sSetIdx, sSetFld, gN, gT, setAll, vC, vVar, vMove, vP1, vP2, vP3, kP, vChain, evO, evOs, getR, vTup, vLst, lNil, lCons, lStar, mNil, mCons, vCall, vCallD, vFld, vProp, tvV, kB, tvNot, tvAnd, tvOr, vNot, vAnd, vOr, vIf, iSeq, iTp,
  vAppend, vIndexT, vCut, evP, vDnew, vMake, Rv.d, Rv.sl, restE, wipeE, tvYes, List.getElem?_cons_zero, List.getElem?_cons_succ, List.set_cons_zero, List.set_cons_succ, true_and, and_true, Bool.not_true, Bool.not_false, List.append_nil, decide_true, decide_false, List.getD_cons_zero, List.getD_cons_succ, opNe_st]
      exact ih
    · have hp := T.pos
      have h2 : ((track m nx s).2.length : Int) ≠ 0 := by omega
      have h3 : (0 : Int) < ((track m nx s).2.length : Nat) := by omega
      have ei := opIdx_sts (L := (track m nx s).2) (i := (t - ((track m nx s).1.length : Nat)).fmod ((track m nx s).2.length : Nat)) (Int.fmod_nonneg_of_pos _ h3) (Int.fmod_lt_of_pos _ h3)
      have ea : aft (track m nx s) t = (track m nx s).2.getD ((t - ((track m nx s).1.length : Nat)).fmod ((track m nx s).2.length : Nat)).toNat [] := by unfold aft; rw [if_neg hlt]
      rw [← ea] at ei
      simp only [fnV, env0, List.map_cons, List.map_nil, List.length_cons, List.length_nil, List.replicate, List.cons_append, List.nil_append, Nat.zero_add, Nat.reduceAdd, Nat.reduceSub, Nat.sub_self,
  sNil, sSeq, sBreak, sCont, sExpr, sRet, sRetN, sIf, sSet, sAsg, sPar2, sPar3, sFor, sSetIdx, sSetFld, gN, gT, setAll, vC, vVar, vMove, vP1, vP2, vP3, kP, vChain, evO, evOs, getR, vTup, vLst, lNil, lCons, lStar, mNil, mCons, vCall, vCallD, vFld, vProp, tvV, kB, tvNot, tvAnd, tvOr, vNot, vAnd, vOr, vIf, iSeq, iTp,
  vAppend, vIndexT, vCut, evP, vDnew, vMake, Rv.d, Rv.sl, restE, wipeE, tvYes, List.getElem?_cons_zero, List.getElem?_cons_succ, List.set_cons_zero, List.set_cons_succ, true_and, and_true, Bool.not_true, Bool.not_false, List.append_nil, decide_true, decide_false, List.getD_cons_zero, List.getD_cons_succ, opLen_tup, List.length_map, opLt_int, hlt, opSub_int, opInt_int, opMod_int h2, ei]
      refine p_after N hs h0 h1 ?_
      simp only [fnV, env0, List.map_cons, List.map_nil, List.length_cons, List.length_nil, List.replicate, List.cons_append, List.nil_append, Nat.zero_add, Nat.reduceAdd, Nat.reduceSub, Nat.sub_self,
  sNil, sSeq, sBreak, sCont, sExpr, sRet, sRetN, sIf, sSet, sAsg, sPar2, sPar3, sFor, sSetIdx, sSetFld, gN, gT, setAll, vC, vVar, vMove, vP1, vP2, vP3, kP, vChain, evO, evOs, getR, vTup, vLst, lNil, lCons, lStar, mNil, mCons, vCall, vCallD, vFld, vProp, tvV, kB, tvNot, tvAnd, tvOr, vNot, vAnd, vOr, vIf, iSeq, iTp,
  vAppend, vIndexT, vCut, evP, vDnew, vMake, Rv.d, Rv.sl, restE, wipeE, tvYes, List.getElem?_cons_zero, List.getElem?_cons_succ, List.set_cons_zero, List.set_cons_succ, true_and, and_true, Bool.not_true, Bool.not_false, List.append_nil, decide_true, decide_false, List.getD_cons_zero, List.getD_cons_succ, opNe_st]
      exact ih
theorem time_loop {R : List D} (N : Nt R m nx) (hs : s ∈ S m) {a b c e x6 x7 x8 x11 : Sl} {k : K4} : ∀ (L : List (List Int)) (x10 : Sl), (∀ t ∈ L, t ∈ S m) → (∀ x10', k.nx [a, b, c, .sh (netD R m nx), e, .sh (stD s), x6, x7, x8, .sh (.tup (((track m nx s).1 ++ (track m nx s).2).map stD)), x10', x11]) →
    forL (gN 10) (sIf (tvV (vP2 opNe (.e (vCall 3 f_beat_time (lCons (vVar 3) (lCons (vVar 5) (lCons (vVar 10) lNil))))) (.e (vIf (tvV (vP2 opIn (.v 10) (.v 9))) (vIndexT "tuple" (.v 9) (vVar 10)) (vC .non))))) (sRet (vC (.bl false))) sNil) (L.map stD) k [a, b, c, .sh (netD R m nx), e, .sh (stD s), x6, x7, x8, .sh (.tup (((track m nx s).1 ++ (track m nx s).2).map stD)), x10, x11]
  | [], x10, _, h => h x10
  | t :: L, x10, hL, h => by
    have T := track_ok N.cl hs
    have hl := T.lin.le
    have h5 := p_pow5 N.hi
    have ih := time_loop N hs (a := a) (b := b) (c := c) (e := e) (x6 := x6) (x7 := x7) (x8 := x8) (x11 := x11) (k := k) L (.sh (stD t)) (fun q hq => hL q (by simp [hq])) h
    rw [List.map_cons]
    unfold forL
    simp only [fnV, env0, List.map_cons, List.map_nil, List.length_cons, List.length_nil, List.replicate, List.cons_append, List.nil_append, Nat.zero_add, Nat.reduceAdd, Nat.reduceSub, Nat.sub_self,
  sNil, sSeq, sBreak, sCont, sExpr, sRet, sRetN, sIf, sSet, sAsg, sPar2, sPar3, sFor, sSetIdx, sSetFld, gN, gT, setAll, vC, vVar, vMove, vP1, vP2, vP3, kP, vChain, evO, evOs, getR, vTup, vLst, lNil, lCons, lStar, mNil, mCons, vCall, vCallD, vFld, vProp, tvV, kB, tvNot, tvAnd, tvOr, vNot, vAnd, vOr, vIf, iSeq, iTp,
  vAppend, vIndexT, vCut, evP, vDnew, vMake, Rv.d, Rv.sl, restE, wipeE, tvYes, List.getElem?_cons_zero, List.getElem?_cons_succ, List.set_cons_zero, List.set_cons_succ, true_and, and_true, Bool.not_true, Bool.not_false, List.append_nil, decide_true, decide_false, List.getD_cons_zero, List.getD_cons_succ]
    refine p_beat_time N hs (hL t (by simp)) ?_
    simp only [fnV, env0, List.map_cons, List.map_nil, List.length_cons, List.length_nil, List.replicate, List.cons_append, List.nil_append, Nat.zero_add, Nat.reduceAdd, Nat.reduceSub, Nat.sub_self,
  sNil, sSeq, sBreak, sCont, sExpr, sRet, sRetN, sIf, sSet, sAsg, sPar2, sPar3, sFor, sSetIdx, sSetFld, gN, gT, setAll, vC, vVar, vMove, vP1, vP2, vP3, kP, vChain, evO, evOs, getR, vTup, vLst, lNil, lCons, lStar, mNil, mCons, vCall, vCallD, vFld, vProp, tvV, kB, tvNot, tvAnd, tvOr, vNot, vAnd, vOr, vIf, iSeq, iTp,
  vAppend, vIndexT, vCut, evP, vDnew, vMake, Rv.d, Rv.sl, restE, wipeE, tvYes, List.getElem?_cons_zero, List.getElem?_cons_succ, List.set_cons_zero, List.set_cons_succ, true_and, and_true, Bool.not_true, Bool.not_false, List.append_nil, decide_true, decide_false, List.getD_cons_zero, List.getD_cons_succ, opIn_tup]
    have hn := opNe_tm (track m nx s) t
    by_cases hm : t ∈ (track m nx s).1 ++ (track m nx s).2
    · have et : tmD (track m nx s) t = .int (((track m nx s).1 ++ (track m nx s).2).idxOf t) := by unfold tmD; rw [if_pos hm]
      rw [et] at hn ⊢
      simp only [fnV, env0, List.map_cons, List.map_nil, List.length_cons, List.length_nil, List.replicate, List.cons_append, List.nil_append, Nat.zero_add, Nat.reduceAdd, Nat.reduceSub, Nat.sub_self,
  sNil, sSeq, sBreak, sCont, sExpr, sRet, sRetN, sIf, sSet, sAsg, sPar2, sPar3, sFor, sSetIdx, sSetFld, gN, gT, setAll, vC, vVar, vMove, vP1, vP2, vP3, kP, vChain, evO, evOs, getR, vTup, vLst, lNil, lCons, lStar, mNil, mCons, vCall, vCallD, vFld, vProp, tvV, kB, tvNot, tvAnd, tvOr, vNot, vAnd, vOr, vIf, iSeq, iTp,
  vAppend, vIndexT, vCut, evP, vDnew, vMake, Rv.d, Rv.sl, restE, wipeE, tvYes, List.getElem?_cons_zero, List.getElem?_cons_succ, List.set_cons_zero, List.set_cons_succ, true_and, and_true, Bool.not_true, Bool.not_false, List.append_nil, decide_true, decide_false, List.getD_cons_zero, List.getD_cons_succ, hm, opIndex_tup hm (by omega), hn]
      exact ⟨⟨_, rfl, .inr ⟨_, rfl⟩⟩, ih⟩
    · have et : tmD (track m nx s) t = .non := by unfold tmD; rw [if_neg hm]
      rw [et] at hn ⊢
      simp only [fnV, env0, List.map_cons, List.map_nil, List.length_cons, List.length_nil, List.replicate, List.cons_append, List.nil_append, Nat.zero_add, Nat.reduceAdd, Nat.reduceSub, Nat.sub_self,
  sNil, sSeq, sBreak, sCont, sExpr, sRet, sRetN, sIf, sSet, sAsg, sPar2, sPar3, sFor, sSetIdx, sSetFld, gN, gT, setAll, vC, vVar, vMove, vP1, vP2, vP3, kP, vChain, evO, evOs, getR, vTup, vLst, lNil, lCons, lStar, mNil, mCons, vCall, vCallD, vFld, vProp, tvV, kB, tvNot, tvAnd, tvOr, vNot, vAnd, vOr, vIf, iSeq, iTp,
  vAppend, vIndexT, vCut, evP, vDnew, vMake, Rv.d, Rv.sl, restE, wipeE, tvYes, List.getElem?_cons_zero, List.getElem?_cons_succ, List.set_cons_zero, List.set_cons_succ, true_and, and_true, Bool.not_true, Bool.not_false, List.append_nil, decide_true, decide_false, List.getD_cons_zero, List.getD_cons_succ, hm, hn]
      exact ih
end
theorem pow18 : opPow (.int 10) (.int 18) = some (.sh (.int 1000000000000000000)) := by
  rw [opPow_int (by decide)]
  rfl
theorem p_draw {n : Int} {K : Rv → Prop} (h0 : 0 < n) (h1 : n < 1073741824) (h : ∀ r : Int, 0 ≤ r → r < n → K (.sh (.int r))) : f__law_draw [.tape, .int n] K := ⟨h0, h1, h⟩
theorem tup_app {xs ys : List D} (h : xs.length + ys.length ≤ 16777216) : opAdd (.tup xs) (.tup ys) = some (.sh (.tup (xs ++ ys))) := by
  show (if xs.length + ys.length ≤ 16777216 then some (Rv.sh (D.tup (xs ++ ys))) else none) = _
  rw [if_pos h]
theorem sSeq_eq (w u : WS) (k : K4) (env : Ev) : sSeq w u k env = w { k with nx := u k } env := rfl
theorem sFor_eq (wi : WI) (g : WG) (b : WS) (k : K4) (env : Ev) : sFor wi g b k env = wi env fun items e1 => forL g b items k e1 := rfl
theorem forL_cons (g : WG) (b : WS) (x : D) (xs : List D) (k : K4) (env : Ev) : forL g b (x :: xs) k env = g x env fun e1 => b { nx := forL g b xs k, ct := forL g b xs k, bk := k.nx, rt := k.rt } e1 := rfl
theorem gN_eq (i : Nat) (d : D) (env : Ev) (K : Ev → Prop) : gN i d env K = K (env.set i (.sh d)) := rfl
section
variable {m : Nat} {nx : List Int → List Int} {s t : List Int}
theorem if_seg (N : Nx m nx) (hs : s ∈ S m) {a c e x8 x9 x10 x11 : Sl} {w : WS} {k : K4} (h : k.nx [a, .sh (nextsD m nx), c, .sh (madeD m nx), e, .sh (stD s), .sh (.tup ((track m nx s).1.map stD)), .sh (.tup ((track m nx s).2.map stD)), x8, x9, x10, x11]) :
    sIf (tvOr (tvV (vP2 opNe (.e (vCall 2 f_beat_run (lCons (vVar 3) (lCons (vVar 5) lNil)))) (.e (vTup (lCons (vVar 6) (lCons (vVar 7) lNil)))))) (tvV (vP2 opNe (.e (vCall 2 f_next_state (lCons (vVar 3) (lCons (vVar 5) lNil)))) (.e (vP2 opIdx (.v 1) (.v 5)))))) w sNil k
      [a, .sh (nextsD m nx), c, .sh (madeD m nx), e, .sh (stD s), .sh (.tup ((track m nx s).1.map stD)), .sh (.tup ((track m nx s).2.map stD)), x8, x9, x10, x11] := by
  have M := made_nt N
  have ei : opIdx (nextsD m nx) (stD s) = some (.sh (stD (nx s))) := opIdx_kvs _ hs
  have en := opNe_trk (track m nx s)
  simp only [fnV, env0, List.map_cons, List.map_nil, List.length_cons, List.length_nil, List.replicate, List.cons_append, List.nil_append, Nat.zero_add, Nat.reduceAdd, Nat.reduceSub, Nat.sub_self,
  sNil, sSeq, sBreak, sCont, sExpr, sRet, sRetN, sIf, sSet, sAsg, sPar2, sPar3, sFor, sSetIdx, sSetFld, gN, gT, setAll, vC, vVar, vMove, vP1, vP2, vP3, kP, vChain, evO, evOs, getR, vTup, vLst, lNil, lCons, lStar, mNil, mCons, vCall, vCallD, vFld, vProp, tvV, kB, tvNot, tvAnd, tvOr, vNot, vAnd, vOr, vIf, iSeq, iTp,
  vAppend, vIndexT, vCut, evP, vDnew, vMake, Rv.d, Rv.sl, restE, wipeE, tvYes, List.getElem?_cons_zero, List.getElem?_cons_succ, List.set_cons_zero, List.set_cons_succ, true_and, and_true, Bool.not_true, Bool.not_false, List.append_nil, decide_true, decide_false, List.getD_cons_zero, List.getD_cons_succ]
  refine p_beat_run M hs ?_
  rw [trkD_eq] at en ⊢
  simp only [fnV, env0, List.map_cons, List.map_nil, List.length_cons, List.length_nil, List.replicate, List.cons_append, List.nil_append, Nat.zero_add, Nat.reduceAdd, Nat.reduceSub, Nat.sub_self,
  sNil, sSeq, sBreak, sCont, sExpr, sRet, sRetN, sIf, sSet, sAsg, sPar2, sPar3, sFor, sSetIdx, sSetFld, gN, gT, setAll, vC, vVar, vMove, vP1, vP2, vP3, kP, vChain, evO, evOs, getR, vTup, vLst, lNil, lCons, lStar, mNil, mCons, vCall, vCallD, vFld, vProp, tvV, kB, tvNot, tvAnd, tvOr, vNot, vAnd, vOr, vIf, iSeq, iTp,
  vAppend, vIndexT, vCut, evP, vDnew, vMake, Rv.d, Rv.sl, restE, wipeE, tvYes, List.getElem?_cons_zero, List.getElem?_cons_succ, List.set_cons_zero, List.set_cons_succ, true_and, and_true, Bool.not_true, Bool.not_false, List.append_nil, decide_true, decide_false, List.getD_cons_zero, List.getD_cons_succ, en]
  refine ⟨by decide, ?_⟩
  refine p_next_state M hs ?_
  simp only [fnV, env0, List.map_cons, List.map_nil, List.length_cons, List.length_nil, List.replicate, List.cons_append, List.nil_append, Nat.zero_add, Nat.reduceAdd, Nat.reduceSub, Nat.sub_self,
  sNil, sSeq, sBreak, sCont, sExpr, sRet, sRetN, sIf, sSet, sAsg, sPar2, sPar3, sFor, sSetIdx, sSetFld, gN, gT, setAll, vC, vVar, vMove, vP1, vP2, vP3, kP, vChain, evO, evOs, getR, vTup, vLst, lNil, lCons, lStar, mNil, mCons, vCall, vCallD, vFld, vProp, tvV, kB, tvNot, tvAnd, tvOr, vNot, vAnd, vOr, vIf, iSeq, iTp,
  vAppend, vIndexT, vCut, evP, vDnew, vMake, Rv.d, Rv.sl, restE, wipeE, tvYes, List.getElem?_cons_zero, List.getElem?_cons_succ, List.set_cons_zero, List.set_cons_succ, true_and, and_true, Bool.not_true, Bool.not_false, List.append_nil, decide_true, decide_false, List.getD_cons_zero, List.getD_cons_succ, ei, opNe_st]
  exact h
theorem items_seg {p : List (List Int) × List (List Int)} {b c d e f x8 x9 x10 x11 : Sl} {K : List D → Ev → Prop} (h : ∀ r q : Int, 0 ≤ r → r < 100 → 0 ≤ q → q < 50 → K (([0, 1, 2, 3, (p.1.length : Nat), (p.1.length : Nat) + (p.2.length : Nat), r, 1000000000000000000 - q] : List Int).map D.int) [.sh .tape, b, c, d, e, f, .sh (.tup (p.1.map stD)), .sh (.tup (p.2.map stD)), x8, x9, x10, x11]) :
    iSeq (vLst (lCons (vC (.int 0)) (lCons (vC (.int 1)) (lCons (vC (.int 2)) (lCons (vC (.int 3)) (lCons (vP1 opLen (.v 6)) (lCons (vP2 opAdd (.e (vP1 opLen (.v 6))) (.e (vP1 opLen (.v 7)))) (lCons (vCall 2 f__law_draw (lCons (vVar 0) (lCons (vC (.int 100)) lNil))) (lCons (vP2 opSub (.e (vP2 opPow (.e (vC (.int 10))) (.e (vC (.int 18))))) (.e (vCall 2 f__law_draw (lCons (vVar 0) (lCons (vC (.int 50)) lNil))))) lNil)))))))))
      [.sh .tape, b, c, d, e, f, .sh (.tup (p.1.map stD)), .sh (.tup (p.2.map stD)), x8, x9, x10, x11] K := by
  simp only [fnV, env0, List.map_cons, List.map_nil, List.length_cons, List.length_nil, List.replicate, List.cons_append, List.nil_append, Nat.zero_add, Nat.reduceAdd, Nat.reduceSub, Nat.sub_self,
  sNil, sSeq, sBreak, sCont, sExpr, sRet, sRetN, sIf, sSet, sAsg, sPar2, sPar3, sFor, sSetIdx, sSetFld, gN, gT, setAll, vC, vVar, vMove, vP1, vP2, vP3, kP, vChain, evO, evOs, getR, vTup, vLst, lNil, lCons, lStar, mNil, mCons, vCall, vCallD, vFld, vProp, tvV, kB, tvNot, tvAnd, tvOr, vNot, vAnd, vOr, vIf, iSeq, iTp,
  vAppend, vIndexT, vCut, evP, vDnew, vMake, Rv.d, Rv.sl, restE, wipeE, tvYes, List.getElem?_cons_zero, List.getElem?_cons_succ, List.set_cons_zero, List.set_cons_succ, true_and, and_true, Bool.not_true, Bool.not_false, List.append_nil, decide_true, decide_false, List.getD_cons_zero, List.getD_cons_succ, opLen_tup, List.length_map, opAdd_int]
  refine p_draw (by decide) (by decide) fun r r0 r1 => ?_
  simp only [fnV, env0, List.map_cons, List.map_nil, List.length_cons, List.length_nil, List.replicate, List.cons_append, List.nil_append, Nat.zero_add, Nat.reduceAdd, Nat.reduceSub, Nat.sub_self,
  sNil, sSeq, sBreak, sCont, sExpr, sRet, sRetN, sIf, sSet, sAsg, sPar2, sPar3, sFor, sSetIdx, sSetFld, gN, gT, setAll, vC, vVar, vMove, vP1, vP2, vP3, kP, vChain, evO, evOs, getR, vTup, vLst, lNil, lCons, lStar, mNil, mCons, vCall, vCallD, vFld, vProp, tvV, kB, tvNot, tvAnd, tvOr, vNot, vAnd, vOr, vIf, iSeq, iTp,
  vAppend, vIndexT, vCut, evP, vDnew, vMake, Rv.d, Rv.sl, restE, wipeE, tvYes, List.getElem?_cons_zero, List.getElem?_cons_succ, List.set_cons_zero, List.set_cons_succ, true_and, and_true, Bool.not_true, Bool.not_false, List.append_nil, decide_true, decide_false, List.getD_cons_zero, List.getD_cons_succ, pow18]
  refine p_draw (by decide) (by decide) fun q q0 q1 => ?_
  simp only [fnV, env0, List.map_cons, List.map_nil, List.length_cons, List.length_nil, List.replicate, List.cons_append, List.nil_append, Nat.zero_add, Nat.reduceAdd, Nat.reduceSub, Nat.sub_self,
  sNil, sSeq, sBreak, sCont, sExpr, sRet, sRetN, sIf, sSet, sAsg, sPar2, sPar3, sFor, sSetIdx, sSetFld, gN, gT, setAll, vC, vVar, vMove, vP1, vP2, vP3, kP, vChain, evO, evOs, getR, vTup, vLst, lNil, lCons, lStar, mNil, mCons, vCall, vCallD, vFld, vProp, tvV, kB, tvNot, tvAnd, tvOr, vNot, vAnd, vOr, vIf, iSeq, iTp,
  vAppend, vIndexT, vCut, evP, vDnew, vMake, Rv.d, Rv.sl, restE, wipeE, tvYes, List.getElem?_cons_zero, List.getElem?_cons_succ, List.set_cons_zero, List.set_cons_succ, true_and, and_true, Bool.not_true, Bool.not_false, List.append_nil, decide_true, decide_false, List.getD_cons_zero, List.getD_cons_succ, opSub_int]
  exact ⟨by decide, h r q r0 r1 q0 q1⟩
theorem line_seg {p : List (List Int) × List (List Int)} (hl : p.1.length + p.2.length ≤ 32) {a b c d e f x8 x9 x10 x11 : Sl} {k : K4} (h : k.nx [a, b, c, d, e, f, .sh (.tup (p.1.map stD)), .sh (.tup (p.2.map stD)), x8, .sh (.tup ((p.1 ++ p.2).map stD)), x10, x11]) :
    sSet 9 (vP2 opAdd (.v 6) (.v 7)) k [a, b, c, d, e, f, .sh (.tup (p.1.map stD)), .sh (.tup (p.2.map stD)), x8, x9, x10, x11] := by
  have ea := tup_app (xs := p.1.map stD) (ys := p.2.map stD) (by rw [List.length_map, List.length_map]; omega)
  rw [← List.map_append] at ea
  simp only [fnV, env0, List.map_cons, List.map_nil, List.length_cons, List.length_nil, List.replicate, List.cons_append, List.nil_append, Nat.zero_add, Nat.reduceAdd, Nat.reduceSub, Nat.sub_self,
  sNil, sSeq, sBreak, sCont, sExpr, sRet, sRetN, sIf, sSet, sAsg, sPar2, sPar3, sFor, sSetIdx, sSetFld, gN, gT, setAll, vC, vVar, vMove, vP1, vP2, vP3, kP, vChain, evO, evOs, getR, vTup, vLst, lNil, lCons, lStar, mNil, mCons, vCall, vCallD, vFld, vProp, tvV, kB, tvNot, tvAnd, tvOr, vNot, vAnd, vOr, vIf, iSeq, iTp,
  vAppend, vIndexT, vCut, evP, vDnew, vMake, Rv.d, Rv.sl, restE, wipeE, tvYes, List.getElem?_cons_zero, List.getElem?_cons_succ, List.set_cons_zero, List.set_cons_succ, true_and, and_true, Bool.not_true, Bool.not_false, List.append_nil, decide_true, decide_false, List.getD_cons_zero, List.getD_cons_succ, ea]
  exact h
theorem sorted_seg (N : Nx m nx) {a : Sl} {r : Ev} {K : List D → Ev → Prop} (h : K ((S m).map stD) (a :: .sh (nextsD m nx) :: r)) : iSeq (vP1 opSorted (.v 1)) (a :: .sh (nextsD m nx) :: r) K := by
  have eS : opSorted (nextsD m nx) = some (.ow (.lst ((S m).map stD))) := opSorted_S N.lo N.hi
  simp only [fnV, env0, List.map_cons, List.map_nil, List.length_cons, List.length_nil, List.replicate, List.cons_append, List.nil_append, Nat.zero_add, Nat.reduceAdd, Nat.reduceSub, Nat.sub_self,
  sNil, sSeq, sBreak, sCont, sExpr, sRet, sRetN, sIf, sSet, sAsg, sPar2, sPar3, sFor, sSetIdx, sSetFld, gN, gT, setAll, vC, vVar, vMove, vP1, vP2, vP3, kP, vChain, evO, evOs, getR, vTup, vLst, lNil, lCons, lStar, mNil, mCons, vCall, vCallD, vFld, vProp, tvV, kB, tvNot, tvAnd, tvOr, vNot, vAnd, vOr, vIf, iSeq, iTp,
  vAppend, vIndexT, vCut, evP, vDnew, vMake, Rv.d, Rv.sl, restE, wipeE, tvYes, List.getElem?_cons_zero, List.getElem?_cons_succ, List.set_cons_zero, List.set_cons_succ, true_and, and_true, Bool.not_true, Bool.not_false, List.append_nil, decide_true, decide_false, List.getD_cons_zero, List.getD_cons_succ, eS]
  exact h
theorem states_loop (N : Nx m nx) {c e : Sl} {k : K4} : ∀ (L : List (List Int)) (x5 x6 x7 x8 x9 x10 x11 : Sl), (∀ s ∈ L, s ∈ S m) → (∀ x5 x6 x7 x8 x9 x10 x11, k.nx [.sh .tape, .sh (nextsD m nx), c, .sh (madeD m nx), e, x5, x6, x7, x8, x9, x10, x11]) →
    forL (gN 5) (sSeq (sAsg (gT [6, 7]) (vCall 2 f__law_run (lCons (vVar 1) (lCons (vVar 5) lNil))))
    (sSeq (sIf (tvOr (tvV (vP2 opNe (.e (vCall 2 f_beat_run (lCons (vVar 3) (lCons (vVar 5) lNil)))) (.e (vTup (lCons (vVar 6) (lCons (vVar 7) lNil)))))) (tvV (vP2 opNe (.e (vCall 2 f_next_state (lCons (vVar 3) (lCons (vVar 5) lNil)))) (.e (vP2 opIdx (.v 1) (.v 5)))))) (sRet (vC (.bl false))) sNil)
    (sSeq (sFor (iSeq (vLst (lCons (vC (.int 0)) (lCons (vC (.int 1)) (lCons (vC (.int 2)) (lCons (vC (.int 3)) (lCons (vP1 opLen (.v 6)) (lCons (vP2 opAdd (.e (vP1 opLen (.v 6))) (.e (vP1 opLen (.v 7)))) (lCons (vCall 2 f__law_draw (lCons (vVar 0) (lCons (vC (.int 100)) lNil))) (lCons (vP2 opSub (.e (vP2 opPow (.e (vC (.int 10))) (.e (vC (.int 18))))) (.e (vCall 2 f__law_draw (lCons (vVar 0) (lCons (vC (.int 50)) lNil))))) lNil)))))))))) (gN 8) (sSeq (sSet 11 (vIf (tvV (vP2 opLt (.v 8) (.e (vP1 opLen (.v 6))))) (vP2 opIdx (.v 6) (.v 8)) (vP2 opIdx (.v 7) (.e (vP2 opMod (.e (vP1 opInt (.e (vP2 opSub (.v 8) (.e (vP1 opLen (.v 6))))))) (.e (vP1 opLen (.v 7))))))))
    (sIf (tvV (vP2 opNe (.e (vCall 3 f_after (lCons (vVar 3) (lCons (vVar 5) (lCons (vVar 8) lNil))))) (.v 11))) (sRet (vC (.bl false))) sNil)))
    (sSeq (sSet 9 (vP2 opAdd (.v 6) (.v 7)))
    (sFor (iSeq (vP1 opSorted (.v 1))) (gN 10) (sIf (tvV (vP2 opNe (.e (vCall 3 f_beat_time (lCons (vVar 3) (lCons (vVar 5) (lCons (vVar 10) lNil))))) (.e (vIf (tvV (vP2 opIn (.v 10) (.v 9))) (vIndexT "tuple" (.v 9) (vVar 10)) (vC .non))))) (sRet (vC (.bl false))) sNil)))))) (L.map stD) k [.sh .tape, .sh (nextsD m nx), c, .sh (madeD m nx), e, x5, x6, x7, x8, x9, x10, x11]
  | [], x5, x6, x7, x8, x9, x10, x11, _, h => h x5 x6 x7 x8 x9 x10 x11
  | s :: L, x5, x6, x7, x8, x9, x10, x11, hL, h => by
    have hs := hL s (by simp)
    have M := made_nt N
    have T := track_ok N.cl hs
    have hl := T.lin.le
    have h5 := p_pow5 N.hi
    rw [List.length_append] at hl
    rw [List.map_cons, forL_cons, gN_eq]
    simp only [List.set_cons_succ, List.set_cons_zero]
    rw [sSeq_eq]
    refine ⟨rfl, p__law_run N hs ?_⟩
    refine ⟨rfl, ?_⟩
    simp only [setAll, List.set_cons_succ, List.set_cons_zero]
    rw [sSeq_eq]
    refine if_seg N hs ?_
    simp only []
    rw [sSeq_eq, sFor_eq]
    refine items_seg fun r q r0 r1 q0 q1 => ?_
    refine times_loop M hs _ _ _ (fun t ht => ?_) fun x8' x11' => ?_
    · simp only [List.mem_cons, List.not_mem_nil, or_false] at ht
      rcases ht with rfl | rfl | rfl | rfl | rfl | rfl | rfl | rfl <;> omega
    simp only []
    rw [sSeq_eq]
    refine line_seg (by omega) ?_
    simp only []
    rw [sFor_eq]
    refine sorted_seg N ?_
    refine time_loop M hs (S m) _ (fun _ h => h) fun x10' => ?_
    exact states_loop N L _ _ _ _ _ _ _ (fun q hq => hL q (by simp [hq])) h
theorem p_net_right {L : List (List Int)} {K : Rv → Prop} (N : Nx m nx) (hL : ∀ s ∈ L, s ∈ S m) (h : K (.sh (.bl true))) : f__law_net_right [.tape, nextsD m nx, .lst (L.map stD)] K := by
  have M := made_nt N
  have h5 := p_pow5 N.hi
  have hl := S_len m
  have eS : opSorted (nextsD m nx) = some (.ow (.lst ((S m).map stD))) := opSorted_S N.lo N.hi
  obtain ⟨s, hs, em⟩ := min_pairs (f := fun s => 0 - ((track m nx s).1.length : Nat)) (S_ne m)
  have em : opMin (.lst ((S m).map (pairD m nx))) = some (.sh (.tup [.int (0 - ((track m nx s).1.length : Nat)), stD s])) := em
  have p1 : ∀ {k : K4}, k.nx [.sh .tape, .sh (nextsD m nx), .sh (.lst (L.map stD)), .ow (madeD m nx), .ow (.lst []), .no, .no, .no, .no, .no, .no, .no] → sPar2 3 4 (mCons (vCall 1 f__law_made (lCons (vVar 1) lNil)) (mCons (vLst lNil) mNil)) k [.sh .tape, .sh (nextsD m nx), .sh (.lst (L.map stD)), .no, .no, .no, .no, .no, .no, .no, .no, .no] := by
    intro k h
    simp only [fnV, env0, List.map_cons, List.map_nil, List.length_cons, List.length_nil, List.replicate, List.cons_append, List.nil_append, Nat.zero_add, Nat.reduceAdd, Nat.reduceSub, Nat.sub_self,
  sNil, sSeq, sBreak, sCont, sExpr, sRet, sRetN, sIf, sSet, sAsg, sPar2, sPar3, sFor, sSetIdx, sSetFld, gN, gT, setAll, vC, vVar, vMove, vP1, vP2, vP3, kP, vChain, evO, evOs, getR, vTup, vLst, lNil, lCons, lStar, mNil, mCons, vCall, vCallD, vFld, vProp, tvV, kB, tvNot, tvAnd, tvOr, vNot, vAnd, vOr, vIf, iSeq, iTp,
  vAppend, vIndexT, vCut, evP, vDnew, vMake, Rv.d, Rv.sl, restE, wipeE, tvYes, List.getElem?_cons_zero, List.getElem?_cons_succ, List.set_cons_zero, List.set_cons_succ, true_and, and_true, Bool.not_true, Bool.not_false, List.append_nil, decide_true, decide_false, List.getD_cons_zero, List.getD_cons_succ]
    refine p__law_made N ?_
    simp only [fnV, env0, List.map_cons, List.map_nil, List.length_cons, List.length_nil, List.replicate, List.cons_append, List.nil_append, Nat.zero_add, Nat.reduceAdd, Nat.reduceSub, Nat.sub_self,
  sNil, sSeq, sBreak, sCont, sExpr, sRet, sRetN, sIf, sSet, sAsg, sPar2, sPar3, sFor, sSetIdx, sSetFld, gN, gT, setAll, vC, vVar, vMove, vP1, vP2, vP3, kP, vChain, evO, evOs, getR, vTup, vLst, lNil, lCons, lStar, mNil, mCons, vCall, vCallD, vFld, vProp, tvV, kB, tvNot, tvAnd, tvOr, vNot, vAnd, vOr, vIf, iSeq, iTp,
  vAppend, vIndexT, vCut, evP, vDnew, vMake, Rv.d, Rv.sl, restE, wipeE, tvYes, List.getElem?_cons_zero, List.getElem?_cons_succ, List.set_cons_zero, List.set_cons_succ, true_and, and_true, Bool.not_true, Bool.not_false, List.append_nil, decide_true, decide_false, List.getD_cons_zero, List.getD_cons_succ]
    exact ⟨by decide, h⟩
  have p2 : ∀ {k : K4} {w : WS} {c x : Sl} {r : Ev}, k.nx ([.sh .tape, .sh (nextsD m nx), c, .sh (madeD m nx), .ow (.lst ((S m).map (pairD m nx))), x] ++ r) →
      sIf (tvV (vP2 opNe (.e (vCall 1 f_longest_tail (lCons (vVar 3) lNil))) (.e (vTup (lCons (vP2 opSub (.e (vC (.int 0))) (.e (vP2 opIdx (.e (vP1 opMin (.v 4))) (.e (vC (.int 0)))))) (lCons (vP2 opIdx (.e (vP1 opMin (.v 4))) (.e (vC (.int 1)))) lNil)))))) w sNil k ([.sh .tape, .sh (nextsD m nx), c, .ow (madeD m nx), .ow (.lst ((S m).map (pairD m nx))), x] ++ r) := by
    intro k w c x r h
    simp only [fnV, env0, List.map_cons, List.map_nil, List.length_cons, List.length_nil, List.replicate, List.cons_append, List.nil_append, Nat.zero_add, Nat.reduceAdd, Nat.reduceSub, Nat.sub_self,
  sNil, sSeq, sBreak, sCont, sExpr, sRet, sRetN, sIf, sSet, sAsg, sPar2, sPar3, sFor, sSetIdx, sSetFld, gN, gT, setAll, vC, vVar, vMove, vP1, vP2, vP3, kP, vChain, evO, evOs, getR, vTup, vLst, lNil, lCons, lStar, mNil, mCons, vCall, vCallD, vFld, vProp, tvV, kB, tvNot, tvAnd, tvOr, vNot, vAnd, vOr, vIf, iSeq, iTp,
  vAppend, vIndexT, vCut, evP, vDnew, vMake, Rv.d, Rv.sl, restE, wipeE, tvYes, List.getElem?_cons_zero, List.getElem?_cons_succ, List.set_cons_zero, List.set_cons_succ, true_and, and_true, Bool.not_true, Bool.not_false, List.append_nil, decide_true, decide_false, List.getD_cons_zero, List.getD_cons_succ]
    refine p_longest_tail M em ?_
    simp only [fnV, env0, List.map_cons, List.map_nil, List.length_cons, List.length_nil, List.replicate, List.cons_append, List.nil_append, Nat.zero_add, Nat.reduceAdd, Nat.reduceSub, Nat.sub_self,
  sNil, sSeq, sBreak, sCont, sExpr, sRet, sRetN, sIf, sSet, sAsg, sPar2, sPar3, sFor, sSetIdx, sSetFld, gN, gT, setAll, vC, vVar, vMove, vP1, vP2, vP3, kP, vChain, evO, evOs, getR, vTup, vLst, lNil, lCons, lStar, mNil, mCons, vCall, vCallD, vFld, vProp, tvV, kB, tvNot, tvAnd, tvOr, vNot, vAnd, vOr, vIf, iSeq, iTp,
  vAppend, vIndexT, vCut, evP, vDnew, vMake, Rv.d, Rv.sl, restE, wipeE, tvYes, List.getElem?_cons_zero, List.getElem?_cons_succ, List.set_cons_zero, List.set_cons_succ, true_and, and_true, Bool.not_true, Bool.not_false, List.append_nil, decide_true, decide_false, List.getD_cons_zero, List.getD_cons_succ, em, idx_pair0, idx_pair1, opSub_int, opNe_pair]
    exact ⟨by decide, h⟩
  unfold f__law_net_right w__law_net_right
  show sSeq _ _ _ [.sh .tape, .sh (nextsD m nx), .sh (.lst (L.map stD)), .no, .no, .no, .no, .no, .no, .no, .no, .no]
  rw [sSeq_eq]
  refine p1 ?_
  simp only []
  rw [sSeq_eq, sFor_eq]
  refine sorted_seg N ?_
  refine len_loop N (r := [.no, .no, .no, .no, .no, .no]) (S m) [] _ (by simp; omega) (fun _ h => h) fun x' => ?_
  simp only []
  rw [sSeq_eq]
  refine p2 ?_
  simp only [List.cons_append, List.nil_append]
  rw [sSeq_eq, sFor_eq]
  show forL _ _ (L.map stD) _ _
  refine states_loop N L _ _ _ _ _ _ _ hL fun _ _ _ _ _ _ _ => ?_
  exact h
end
/-! ### the law's nets -/
theorem opIdx_lsts {L : List (List Int)} {i : Int} (h0 : 0 ≤ i) (h : i < L.length) : ∃ s, s ∈ L ∧ opIdx (.lst (L.map stD)) (.int i) = some (.sh (stD s)) := by
  have h1 : i.toNat < L.length := by omega
  refine ⟨L[i.toNat], List.getElem_mem h1, ?_⟩
  show (L2.atI (L.map stD) i).map Rv.sh = _
  unfold L2.atI L2.ixN
  rw [if_pos h0, if_pos (by simpa using h)]
  simp [List.getElem?_eq_getElem h1]
theorem p__law_pick {L : List (List Int)} {K : Rv → Prop} (h0 : 0 < L.length) (hl : L.length ≤ 32) (h : ∀ s ∈ L, K (.sh (stD s))) : f__law_pick [.tape, .lst (L.map stD)] K := by
  unfold f__law_pick w__law_pick
  simp only [fnV, env0, List.map_cons, List.map_nil, List.length_cons, List.length_nil, List.replicate, List.cons_append, List.nil_append, Nat.zero_add, Nat.reduceAdd, Nat.reduceSub, Nat.sub_self,
  sNil, sSeq, sBreak, sCont, sExpr, sRet, sRetN, sIf, sSet, sAsg, sPar2, sPar3, sFor, sSetIdx, sSetFld, gN, gT, setAll, vC, vVar, vMove, vP1, vP2, vP3, kP, vChain, evO, evOs, getR, vTup, vLst, lNil, lCons, lStar, mNil, mCons, vCall, vCallD, vFld, vProp, tvV, kB, tvNot, tvAnd, tvOr, vNot, vAnd, vOr, vIf, iSeq, iTp,
  vAppend, vIndexT, vCut, evP, vDnew, vMake, Rv.d, Rv.sl, restE, wipeE, tvYes, List.getElem?_cons_zero, List.getElem?_cons_succ, List.set_cons_zero, List.set_cons_succ, true_and, and_true, Bool.not_true, Bool.not_false, List.append_nil, decide_true, decide_false, List.getD_cons_zero, List.getD_cons_succ, opLen_lst, List.length_map]
  refine p_draw (by omega) (by omega) fun r r0 r1 => ?_
  obtain ⟨s, hs, e⟩ := opIdx_lsts r0 r1
  simp only [fnV, env0, List.map_cons, List.map_nil, List.length_cons, List.length_nil, List.replicate, List.cons_append, List.nil_append, Nat.zero_add, Nat.reduceAdd, Nat.reduceSub, Nat.sub_self,
  sNil, sSeq, sBreak, sCont, sExpr, sRet, sRetN, sIf, sSet, sAsg, sPar2, sPar3, sFor, sSetIdx, sSetFld, gN, gT, setAll, vC, vVar, vMove, vP1, vP2, vP3, kP, vChain, evO, evOs, getR, vTup, vLst, lNil, lCons, lStar, mNil, mCons, vCall, vCallD, vFld, vProp, tvV, kB, tvNot, tvAnd, tvOr, vNot, vAnd, vOr, vIf, iSeq, iTp,
  vAppend, vIndexT, vCut, evP, vDnew, vMake, Rv.d, Rv.sl, restE, wipeE, tvYes, List.getElem?_cons_zero, List.getElem?_cons_succ, List.set_cons_zero, List.set_cons_succ, true_and, and_true, Bool.not_true, Bool.not_false, List.append_nil, decide_true, decide_false, List.getD_cons_zero, List.getD_cons_succ, e]
  exact h s hs
theorem st_sh {a : Sl} {k : K4} : ∀ (items : List D) (i : Nat) (x y z : Sl), i + items.length ≤ 5 → (∀ x' y' z', k.nx [a, .sh (.lst ((S (i + items.length)).map stD)), x', y', z']) →
    forL (gN 2) (sSeq (sSet 3 (vLst lNil)) (sSeq (sFor (iSeq (vVar 1)) (gN 4) (sSet 3 (vP2 opAdd (.v 3) (.e (vLst (lCons (vP2 opAdd (.v 4) (.e (vTup (lCons (vC (.int 0)) lNil)))) (lCons (vP2 opAdd (.v 4) (.e (vTup (lCons (vC (.int 1)) lNil)))) lNil)))))))
    (sSet 1 (vVar 3)))) items k [a, .sh (.lst ((S i).map stD)), x, y, z]
  | [], i, x, y, z, _, h => h x y z
  | d :: items, i, x, y, z, hi, h => by
    rw [List.length_cons] at hi
    have h5 := p_pow5 (m := i) (by omega)
    have hl := S_len i
    have e : i + 1 + items.length = i + (d :: items).length := by simp; omega
    unfold forL
    simp only [fnV, env0, List.map_cons, List.map_nil, List.length_cons, List.length_nil, List.replicate, List.cons_append, List.nil_append, Nat.zero_add, Nat.reduceAdd, Nat.reduceSub, Nat.sub_self,
  sNil, sSeq, sBreak, sCont, sExpr, sRet, sRetN, sIf, sSet, sAsg, sPar2, sPar3, sFor, sSetIdx, sSetFld, gN, gT, setAll, vC, vVar, vMove, vP1, vP2, vP3, kP, vChain, evO, evOs, getR, vTup, vLst, lNil, lCons, lStar, mNil, mCons, vCall, vCallD, vFld, vProp, tvV, kB, tvNot, tvAnd, tvOr, vNot, vAnd, vOr, vIf, iSeq, iTp,
  vAppend, vIndexT, vCut, evP, vDnew, vMake, Rv.d, Rv.sl, restE, wipeE, tvYes, List.getElem?_cons_zero, List.getElem?_cons_succ, List.set_cons_zero, List.set_cons_succ, true_and, and_true, Bool.not_true, Bool.not_false, List.append_nil, decide_true, decide_false, List.getD_cons_zero, List.getD_cons_succ]
    refine ⟨by decide, st_inner (S i) [] _ (by simp; omega) (fun s hs => by rw [(S_mem i s hs).1]; omega) fun x' => ?_⟩
    simp only [fnV, env0, List.map_cons, List.map_nil, List.length_cons, List.length_nil, List.replicate, List.cons_append, List.nil_append, Nat.zero_add, Nat.reduceAdd, Nat.reduceSub, Nat.sub_self,
  sNil, sSeq, sBreak, sCont, sExpr, sRet, sRetN, sIf, sSet, sAsg, sPar2, sPar3, sFor, sSetIdx, sSetFld, gN, gT, setAll, vC, vVar, vMove, vP1, vP2, vP3, kP, vChain, evO, evOs, getR, vTup, vLst, lNil, lCons, lStar, mNil, mCons, vCall, vCallD, vFld, vProp, tvV, kB, tvNot, tvAnd, tvOr, vNot, vAnd, vOr, vIf, iSeq, iTp,
  vAppend, vIndexT, vCut, evP, vDnew, vMake, Rv.d, Rv.sl, restE, wipeE, tvYes, List.getElem?_cons_zero, List.getElem?_cons_succ, List.set_cons_zero, List.set_cons_succ, true_and, and_true, Bool.not_true, Bool.not_false, List.append_nil, decide_true, decide_false, List.getD_cons_zero, List.getD_cons_succ, ← S_succ]
    exact st_sh items (i + 1) _ _ _ (by omega) (by rw [e]; exact h)
theorem st_ow {a : Sl} {k : K4} {d : D} {items : List D} {x y z : Sl} (hi : items.length + 1 ≤ 5) (h : ∀ x' y' z', k.nx [a, .sh (.lst ((S (items.length + 1)).map stD)), x', y', z']) :
    forL (gN 2) (sSeq (sSet 3 (vLst lNil)) (sSeq (sFor (iSeq (vVar 1)) (gN 4) (sSet 3 (vP2 opAdd (.v 3) (.e (vLst (lCons (vP2 opAdd (.v 4) (.e (vTup (lCons (vC (.int 0)) lNil)))) (lCons (vP2 opAdd (.v 4) (.e (vTup (lCons (vC (.int 1)) lNil)))) lNil)))))))
    (sSet 1 (vVar 3)))) (d :: items) k [a, .ow (.lst ((S 0).map stD)), x, y, z] := by
  unfold forL
  simp only [fnV, env0, List.map_cons, List.map_nil, List.length_cons, List.length_nil, List.replicate, List.cons_append, List.nil_append, Nat.zero_add, Nat.reduceAdd, Nat.reduceSub, Nat.sub_self,
  sNil, sSeq, sBreak, sCont, sExpr, sRet, sRetN, sIf, sSet, sAsg, sPar2, sPar3, sFor, sSetIdx, sSetFld, gN, gT, setAll, vC, vVar, vMove, vP1, vP2, vP3, kP, vChain, evO, evOs, getR, vTup, vLst, lNil, lCons, lStar, mNil, mCons, vCall, vCallD, vFld, vProp, tvV, kB, tvNot, tvAnd, tvOr, vNot, vAnd, vOr, vIf, iSeq, iTp,
  vAppend, vIndexT, vCut, evP, vDnew, vMake, Rv.d, Rv.sl, restE, wipeE, tvYes, List.getElem?_cons_zero, List.getElem?_cons_succ, List.set_cons_zero, List.set_cons_succ, true_and, and_true, Bool.not_true, Bool.not_false, List.append_nil, decide_true, decide_false, List.getD_cons_zero, List.getD_cons_succ]
  refine ⟨by decide, st_inner (S 0) [] _ (by simp [S]) (fun s hs => by rw [(S_mem 0 s hs).1]; omega) fun x' => ?_⟩
  simp only [fnV, env0, List.map_cons, List.map_nil, List.length_cons, List.length_nil, List.replicate, List.cons_append, List.nil_append, Nat.zero_add, Nat.reduceAdd, Nat.reduceSub, Nat.sub_self,
  sNil, sSeq, sBreak, sCont, sExpr, sRet, sRetN, sIf, sSet, sAsg, sPar2, sPar3, sFor, sSetIdx, sSetFld, gN, gT, setAll, vC, vVar, vMove, vP1, vP2, vP3, kP, vChain, evO, evOs, getR, vTup, vLst, lNil, lCons, lStar, mNil, mCons, vCall, vCallD, vFld, vProp, tvV, kB, tvNot, tvAnd, tvOr, vNot, vAnd, vOr, vIf, iSeq, iTp,
  vAppend, vIndexT, vCut, evP, vDnew, vMake, Rv.d, Rv.sl, restE, wipeE, tvYes, List.getElem?_cons_zero, List.getElem?_cons_succ, List.set_cons_zero, List.set_cons_succ, true_and, and_true, Bool.not_true, Bool.not_false, List.append_nil, decide_true, decide_false, List.getD_cons_zero, List.getD_cons_succ, ← S_succ]
  refine st_sh items 1 _ _ _ (by omega) ?_
  rw [Nat.add_comm]
  exact h
theorem p__law_states2 {m : Nat} {K : Rv → Prop} (h0 : 1 ≤ m) (hm : m ≤ 5) (h : K (.sh (.lst ((S m).map stD)))) : f__law_states [.int m] K := by
  unfold f__law_states w__law_states
  simp only [fnV, env0, List.map_cons, List.map_nil, List.length_cons, List.length_nil, List.replicate, List.cons_append, List.nil_append, Nat.zero_add, Nat.reduceAdd, Nat.reduceSub, Nat.sub_self,
  sNil, sSeq, sBreak, sCont, sExpr, sRet, sRetN, sIf, sSet, sAsg, sPar2, sPar3, sFor, sSetIdx, sSetFld, gN, gT, setAll, vC, vVar, vMove, vP1, vP2, vP3, kP, vChain, evO, evOs, getR, vTup, vLst, lNil, lCons, lStar, mNil, mCons, vCall, vCallD, vFld, vProp, tvV, kB, tvNot, tvAnd, tvOr, vNot, vAnd, vOr, vIf, iSeq, iTp,
  vAppend, vIndexT, vCut, evP, vDnew, vMake, Rv.d, Rv.sl, restE, wipeE, tvYes, List.getElem?_cons_zero, List.getElem?_cons_succ, List.set_cons_zero, List.set_cons_succ, true_and, and_true, Bool.not_true, Bool.not_false, List.append_nil, decide_true, decide_false, List.getD_cons_zero, List.getD_cons_succ, iRange1]
  refine ⟨by decide, by decide, by omega, ?_⟩
  obtain ⟨d, items, e⟩ : ∃ d items, rangeD 0 1 (m : Int).toNat = d :: items := by
    cases q : rangeD 0 1 (m : Int).toNat with
    | nil =>
      have := congrArg List.length q
      rw [len_range] at this
      simp at this
      omega
    | cons d items => exact ⟨d, items, rfl⟩
  have el : items.length + 1 = m := by
    have := congrArg List.length e
    rw [len_range, List.length_cons] at this
    omega
  rw [e]
  refine st_ow (by omega) fun x' y' z' => ?_
  rw [el]
  simp only [fnV, env0, List.map_cons, List.map_nil, List.length_cons, List.length_nil, List.replicate, List.cons_append, List.nil_append, Nat.zero_add, Nat.reduceAdd, Nat.reduceSub, Nat.sub_self,
  sNil, sSeq, sBreak, sCont, sExpr, sRet, sRetN, sIf, sSet, sAsg, sPar2, sPar3, sFor, sSetIdx, sSetFld, gN, gT, setAll, vC, vVar, vMove, vP1, vP2, vP3, kP, vChain, evO, evOs, getR, vTup, vLst, lNil, lCons, lStar, mNil, mCons, vCall, vCallD, vFld, vProp, tvV, kB, tvNot, tvAnd, tvOr, vNot, vAnd, vOr, vIf, iSeq, iTp,
  vAppend, vIndexT, vCut, evP, vDnew, vMake, Rv.d, Rv.sl, restE, wipeE, tvYes, List.getElem?_cons_zero, List.getElem?_cons_succ, List.set_cons_zero, List.set_cons_succ, true_and, and_true, Bool.not_true, Bool.not_false, List.append_nil, decide_true, decide_false, List.getD_cons_zero, List.getD_cons_succ]
  exact h
def put (nx : List Int → List Int) (s t : List Int) (x : List Int) : List Int := if x = s then t else nx x
theorem kvs_put {line : List (List Int)} {nx : List Int → List Int} {s t : List Int} (h : s ∉ line) : kvsD line (fun x => stD (nx x)) = kvsD line (fun x => stD (put nx s t x)) := by
  unfold kvsD
  refine List.map_congr_left fun x hx => ?_
  have : x ≠ s := fun e => h (e ▸ hx)
  simp only [put, if_neg this]
theorem put_new {line : List (List Int)} {nx : List Int → List Int} {s t : List Int} (h : s ∉ line) (hl : line.length < 16777216) : opSet (.dct (kvsD line fun x => stD (nx x))) (stD s) (stD t) = some (.dct (kvsD (line ++ [s]) fun x => stD (put nx s t x))) := by
  have e : stD t = (fun x => stD (put nx s t x)) s := by simp [put]
  rw [kvs_put h (t := t), e]
  exact opSet_new _ h hl
theorem put_cl {m : Nat} {line : List (List Int)} {nx : List Int → List Int} {s t : List Int} (h : ∀ x ∈ line, nx x ∈ S m) (ht : t ∈ S m) : ∀ x ∈ line ++ [s], put nx s t x ∈ S m := by
  intro x hx
  unfold put
  by_cases e : x = s
  · rw [if_pos e]; exact ht
  · rw [if_neg e]
    rcases List.mem_append.mp hx with hx | hx
    · exact h x hx
    · simp at hx; exact absurd hx e
theorem net_loop {m : Nat} (h1 : 1 ≤ m) (hm : m ≤ 5) {a b c d e x7 x9 x10 x11 : Sl} {X : Sl → Prop} {w : WE} {k : K4}
    (hw : ∀ (y5 x6 : Sl) (s : List Int) (K : Rv → Ev → Prop), X x6 → s ∈ S m → (∀ (t : List Int) (x6' : Sl), t ∈ S m → X x6' → K (.sh (stD t)) [a, b, c, d, e, y5, x6', x7, .sh (stD s), x9, x10, x11]) → w [a, b, c, d, e, y5, x6, x7, .sh (stD s), x9, x10, x11] K)
    (h : ∀ nx x6 x8, Nx m nx → X x6 → k.nx [a, b, c, d, e, .ow (nextsD m nx), x6, x7, x8, x9, x10, x11]) :
    ∀ (rest line : List (List Int)) (nx : List Int → List Int) (x6 x8 : Sl), X x6 → S m = line ++ rest → (∀ x ∈ line, nx x ∈ S m) →
    forL (gN 8) (sSetIdx 5 (.v 8) w) (rest.map stD) k [a, b, c, d, e, .ow (.dct (kvsD line fun x => stD (nx x))), x6, x7, x8, x9, x10, x11]
  | [], line, nx, x6, x8, hx, hS, hn => by
    rw [List.append_nil] at hS
    have := h nx x6 x8 ⟨h1, hm, by rw [hS] at hn ⊢; exact hn⟩ hx
    unfold nextsD at this
    rw [hS] at this
    exact this
  | s :: rest, line, nx, x6, x8, hx, hS, hn => by
    have nd := S_nodup5 m hm
    have hl := S_len m
    have h5 := p_pow5 hm
    have hs : s ∈ S m := by rw [hS]; simp
    rw [hS] at nd hl
    have hs2 : s ∉ line := fun hs => by
      rw [List.nodup_append] at nd
      exact nd.2.2 s hs s (by simp) rfl
    rw [List.length_append, List.length_cons] at hl
    rw [List.map_cons]
    unfold forL
    simp only [fnV, env0, List.map_cons, List.map_nil, List.length_cons, List.length_nil, List.replicate, List.cons_append, List.nil_append, Nat.zero_add, Nat.reduceAdd, Nat.reduceSub, Nat.sub_self,
  sNil, sSeq, sBreak, sCont, sExpr, sRet, sRetN, sIf, sSet, sAsg, sPar2, sPar3, sFor, sSetIdx, sSetFld, gN, gT, setAll, vC, vVar, vMove, vP1, vP2, vP3, kP, vChain, evO, evOs, getR, vTup, vLst, lNil, lCons, lStar, mNil, mCons, vCall, vCallD, vFld, vProp, tvV, kB, tvNot, tvAnd, tvOr, vNot, vAnd, vOr, vIf, iSeq, iTp,
  vAppend, vIndexT, vCut, evP, vDnew, vMake, Rv.d, Rv.sl, restE, wipeE, tvYes, List.getElem?_cons_zero, List.getElem?_cons_succ, List.set_cons_zero, List.set_cons_succ, true_and, and_true, Bool.not_true, Bool.not_false, List.append_nil, decide_true, decide_false, List.getD_cons_zero, List.getD_cons_succ]
    refine hw _ x6 s _ hx hs fun t x6' ht hx' => ?_
    simp only [fnV, env0, List.map_cons, List.map_nil, List.length_cons, List.length_nil, List.replicate, List.cons_append, List.nil_append, Nat.zero_add, Nat.reduceAdd, Nat.reduceSub, Nat.sub_self,
  sNil, sSeq, sBreak, sCont, sExpr, sRet, sRetN, sIf, sSet, sAsg, sPar2, sPar3, sFor, sSetIdx, sSetFld, gN, gT, setAll, vC, vVar, vMove, vP1, vP2, vP3, kP, vChain, evO, evOs, getR, vTup, vLst, lNil, lCons, lStar, mNil, mCons, vCall, vCallD, vFld, vProp, tvV, kB, tvNot, tvAnd, tvOr, vNot, vAnd, vOr, vIf, iSeq, iTp,
  vAppend, vIndexT, vCut, evP, vDnew, vMake, Rv.d, Rv.sl, restE, wipeE, tvYes, List.getElem?_cons_zero, List.getElem?_cons_succ, List.set_cons_zero, List.set_cons_succ, true_and, and_true, Bool.not_true, Bool.not_false, List.append_nil, decide_true, decide_false, List.getD_cons_zero, List.getD_cons_succ, put_new hs2 (show line.length < 16777216 by omega)]
    exact net_loop h1 hm hw h rest (line ++ [s]) (put nx s t) x6' _ hx' (by rw [hS, List.append_assoc]; rfl) (put_cl hn ht)
/-! ### shuffled, zipped -/
theorem opNe_nil : ∀ L : List (List Int), opNe (.lst (L.map stD)) (.lst []) = some (.sh (.bl (!L.isEmpty))) := by
  intro L
  have h1 : pl2 (.lst (L.map stD)) (.lst []) = true := by simp [pl2, pln, plns, plns_sts]
  unfold opNe
  rw [if_pos h1]
  cases L with
  | nil => simp [eqb, eqbs]
  | cons x L => simp [eqb, eqbs]
theorem map_eraseIdx' : ∀ (L : List (List Int)) (i : Nat), (L.map stD).eraseIdx i = (L.eraseIdx i).map stD
  | [], _ => rfl
  | x :: L, 0 => rfl
  | x :: L, i + 1 => by
    rw [List.map_cons, List.eraseIdx_cons_succ, List.eraseIdx_cons_succ, List.map_cons, map_eraseIdx' L i]
theorem shuf_while {tp : Sl} {m : Nat} {k : K4} (ht : tp = .sh .tape) {x1 : Sl} : ∀ (n : Nat) (left found : List (List Int)), left.length = n → left.length + found.length ≤ 32 → (∀ s ∈ left, s ∈ S m) → (∀ s ∈ found, s ∈ S m) →
    (∀ fd : List (List Int), fd.length = n + found.length → (∀ s ∈ fd, s ∈ S m) → k.nx [tp, x1, .ow (.lst []), .ow (.lst (fd.map stD))]) →
    whileN (tvV (vP2 opNe (.v 2) (.e (vLst lNil)))) (sExpr (vAppend 3 (vPopAt 2 (vCall 2 f__law_draw (lCons (vVar 0) (lCons (vP1 opLen (.v 2)) lNil)))))) (n + 1) k [tp, x1, .ow (.lst (left.map stD)), .ow (.lst (found.map stD))]
  | 0, left, found, hn, _, _, hf, h => by
    have : left = [] := List.length_eq_zero_iff.mp hn
    subst this
    unfold whileN
    simp only [fnV, env0, List.map_cons, List.map_nil, List.length_cons, List.length_nil, List.replicate, List.cons_append, List.nil_append, Nat.zero_add, Nat.reduceAdd, Nat.reduceSub, Nat.sub_self,
  sNil, sSeq, sBreak, sCont, sExpr, sRet, sRetN, sIf, sSet, sAsg, sPar2, sPar3, sFor, sSetIdx, sSetFld, gN, gT, setAll, vC, vVar, vMove, vP1, vP2, vP3, kP, vChain, evO, evOs, getR, vTup, vLst, lNil, lCons, lStar, mNil, mCons, vCall, vCallD, vFld, vProp, tvV, kB, tvNot, tvAnd, tvOr, vNot, vAnd, vOr, vIf, iSeq, iTp,
  vAppend, vIndexT, vCut, evP, vDnew, vMake, Rv.d, Rv.sl, restE, wipeE, tvYes, List.getElem?_cons_zero, List.getElem?_cons_succ, List.set_cons_zero, List.set_cons_succ, true_and, and_true, Bool.not_true, Bool.not_false, List.append_nil, decide_true, decide_false, List.getD_cons_zero, List.getD_cons_succ, opNe_nil]
    exact ⟨by decide, h found (by simp) hf⟩
  | n + 1, left, found, hn, hl, hL, hf, h => by
    subst ht
    have hne : left.isEmpty = false := by
      cases left with
      | nil => simp at hn
      | cons _ _ => rfl
    unfold whileN
    simp only [fnV, env0, List.map_cons, List.map_nil, List.length_cons, List.length_nil, List.replicate, List.cons_append, List.nil_append, Nat.zero_add, Nat.reduceAdd, Nat.reduceSub, Nat.sub_self,
  sNil, sSeq, sBreak, sCont, sExpr, sRet, sRetN, sIf, sSet, sAsg, sPar2, sPar3, sFor, sSetIdx, sSetFld, gN, gT, setAll, vC, vVar, vMove, vP1, vP2, vP3, kP, vChain, evO, evOs, getR, vTup, vLst, lNil, lCons, lStar, mNil, mCons, vCall, vCallD, vFld, vProp, tvV, kB, tvNot, tvAnd, tvOr, vNot, vAnd, vOr, vIf, iSeq, iTp,
  vAppend, vIndexT, vCut, evP, vDnew, vMake, Rv.d, Rv.sl, restE, wipeE, tvYes, List.getElem?_cons_zero, List.getElem?_cons_succ, List.set_cons_zero, List.set_cons_succ, true_and, and_true, Bool.not_true, Bool.not_false, List.append_nil, decide_true, decide_false, List.getD_cons_zero, List.getD_cons_succ, opNe_nil, hne, vPopAt, opLen_lst, List.length_map]
    refine ⟨by decide, p_draw (by omega) (by omega) fun r r0 r1 => ?_⟩
    have h1 : r.toNat < left.length := by omega
    have e1 : seqIndex? r (left.map stD).length = some r.toNat := by
      unfold seqIndex?
      rw [List.length_map]
      have c1 : ¬ r < 0 := by omega
      have c2 : r < (left.length : Nat) := by omega
      simp [c1, r0, c2]
    have e2 : (left.map stD)[r.toNat]? = some (stD left[r.toNat]) := by simp [List.getElem?_eq_getElem h1]
    have e3 : (left.map stD).eraseIdx r.toNat = (left.eraseIdx r.toNat).map stD := map_eraseIdx' _ _
    simp only [fnV, env0, List.map_cons, List.map_nil, List.length_cons, List.length_nil, List.replicate, List.cons_append, List.nil_append, Nat.zero_add, Nat.reduceAdd, Nat.reduceSub, Nat.sub_self,
  sNil, sSeq, sBreak, sCont, sExpr, sRet, sRetN, sIf, sSet, sAsg, sPar2, sPar3, sFor, sSetIdx, sSetFld, gN, gT, setAll, vC, vVar, vMove, vP1, vP2, vP3, kP, vChain, evO, evOs, getR, vTup, vLst, lNil, lCons, lStar, mNil, mCons, vCall, vCallD, vFld, vProp, tvV, kB, tvNot, tvAnd, tvOr, vNot, vAnd, vOr, vIf, iSeq, iTp,
  vAppend, vIndexT, vCut, evP, vDnew, vMake, Rv.d, Rv.sl, restE, wipeE, tvYes, List.getElem?_cons_zero, List.getElem?_cons_succ, List.set_cons_zero, List.set_cons_succ, true_and, and_true, Bool.not_true, Bool.not_false, List.append_nil, decide_true, decide_false, List.getD_cons_zero, List.getD_cons_succ, popAt, e1, e2, e3]
    have el : (left.eraseIdx r.toNat).length = n := by rw [List.length_eraseIdx, if_pos h1]; omega
    refine ⟨⟨by omega, by omega⟩, by rw [List.length_map]; omega, ?_⟩
    have e4 : found.map stD ++ [stD left[r.toNat]] = (found ++ [left[r.toNat]]).map stD := by simp
    rw [e4]
    refine shuf_while rfl n (left.eraseIdx r.toNat) (found ++ [left[r.toNat]]) el (by rw [el]; simp; omega) (fun s hs => hL s (List.mem_of_mem_eraseIdx hs)) (fun s hs => ?_) fun fd hd hf' => h fd (by rw [hd]; simp; omega) hf'
    rcases List.mem_append.mp hs with hs | hs
    · exact hf s hs
    · simp at hs
      rw [hs]
      exact hL _ (List.getElem_mem h1)
theorem p__law_shuffled {m : Nat} {K : Rv → Prop} (hm : m ≤ 5) (h : ∀ P : List (List Int), P.length = 2 ^ m → (∀ s ∈ P, s ∈ S m) → K (.ow (.lst (P.map stD)))) : f__law_shuffled [.tape, .lst ((S m).map stD)] K := by
  have h5 := p_pow5 hm
  have hl := S_len m
  have e : opListD (.lst ((S m).map stD)) = some (.ow (.lst ((S m).map stD))) := rfl
  unfold f__law_shuffled w__law_shuffled
  simp only [fnV, env0, List.map_cons, List.map_nil, List.length_cons, List.length_nil, List.replicate, List.cons_append, List.nil_append, Nat.zero_add, Nat.reduceAdd, Nat.reduceSub, Nat.sub_self,
  sNil, sSeq, sBreak, sCont, sExpr, sRet, sRetN, sIf, sSet, sAsg, sPar2, sPar3, sFor, sSetIdx, sSetFld, gN, gT, setAll, vC, vVar, vMove, vP1, vP2, vP3, kP, vChain, evO, evOs, getR, vTup, vLst, lNil, lCons, lStar, mNil, mCons, vCall, vCallD, vFld, vProp, tvV, kB, tvNot, tvAnd, tvOr, vNot, vAnd, vOr, vIf, iSeq, iTp,
  vAppend, vIndexT, vCut, evP, vDnew, vMake, Rv.d, Rv.sl, restE, wipeE, tvYes, List.getElem?_cons_zero, List.getElem?_cons_succ, List.set_cons_zero, List.set_cons_succ, true_and, and_true, Bool.not_true, Bool.not_false, List.append_nil, decide_true, decide_false, List.getD_cons_zero, List.getD_cons_succ, e, sWhile]
  refine ⟨by decide, 2 ^ m + 1, shuf_while rfl (2 ^ m) (S m) [] hl (by simp; omega) (fun _ h => h) (fun _ h => nomatch h) fun fd hd hf => ?_⟩
  simp only [fnV, env0, List.map_cons, List.map_nil, List.length_cons, List.length_nil, List.replicate, List.cons_append, List.nil_append, Nat.zero_add, Nat.reduceAdd, Nat.reduceSub, Nat.sub_self,
  sNil, sSeq, sBreak, sCont, sExpr, sRet, sRetN, sIf, sSet, sAsg, sPar2, sPar3, sFor, sSetIdx, sSetFld, gN, gT, setAll, vC, vVar, vMove, vP1, vP2, vP3, kP, vChain, evO, evOs, getR, vTup, vLst, lNil, lCons, lStar, mNil, mCons, vCall, vCallD, vFld, vProp, tvV, kB, tvNot, tvAnd, tvOr, vNot, vAnd, vOr, vIf, iSeq, iTp,
  vAppend, vIndexT, vCut, evP, vDnew, vMake, Rv.d, Rv.sl, restE, wipeE, tvYes, List.getElem?_cons_zero, List.getElem?_cons_succ, List.set_cons_zero, List.set_cons_succ, true_and, and_true, Bool.not_true, Bool.not_false, List.append_nil, decide_true, decide_false, List.getD_cons_zero, List.getD_cons_succ]
  exact h fd (by simpa using hd) hf
theorem dput_new {line : List (List Int)} {nx : List Int → List Int} {s t : List Int} (h : s ∉ line) : dputN (kvsD line fun x => stD (nx x)) (kst s) (stD s) (stD t) = kvsD (line ++ [s]) fun x => stD (put nx s t x) := by
  rw [kvs_put h (t := t)]
  unfold dputN
  rw [dhas_kvs]
  simp [h, kvsD, put]
theorem mk_zip {m : Nat} (hm : m ≤ 5) : ∀ (rest line P : List (List Int)) (nx : List Int → List Int), S m = line ++ rest → P.length = rest.length → (∀ s ∈ P, s ∈ S m) → (∀ x ∈ line, nx x ∈ S m) →
    ∃ nx' : List Int → List Int, (∀ x ∈ S m, nx' x ∈ S m) ∧ mkD (zipD (rest.map stD) (P.map stD)) (kvsD line fun x => stD (nx x)) = some (kvsD (S m) fun x => stD (nx' x))
  | [], line, P, nx, hS, hP, _, hn => by
    rw [List.append_nil] at hS
    refine ⟨nx, by rw [hS] at hn ⊢; exact hn, ?_⟩
    rw [hS]
    simp [zipD, mkD]
  | s :: rest, line, [], nx, hS, hP, _, hn => by simp at hP
  | s :: rest, line, t :: P, nx, hS, hP, hp, hn => by
    have nd := S_nodup5 m hm
    rw [hS] at nd
    have hs2 : s ∉ line := fun hs => by
      rw [List.nodup_append] at nd
      exact nd.2.2 s hs s (by simp) rfl
    rw [List.length_cons, List.length_cons] at hP
    obtain ⟨nx', h1, h2⟩ := mk_zip hm rest (line ++ [s]) P (put nx s t) (by rw [hS, List.append_assoc]; rfl) (by omega) (fun q hq => hp q (by simp [hq])) (put_cl hn (hp t (by simp)))
    refine ⟨nx', h1, ?_⟩
    rw [List.map_cons, List.map_cons, zipD, mkD, dkey_st]
    simp only [dput_new hs2]
    exact h2
theorem zip_len : ∀ xs ys : List D, (zipD xs ys).length ≤ xs.length
  | [], _ => by simp [zipD]
  | _ :: _, [] => by simp [zipD]
  | x :: xs, y :: ys => by
    have := zip_len xs ys
    simp [zipD]
    omega
theorem opDict_zip {m : Nat} (h1 : 1 ≤ m) (hm : m ≤ 5) {P : List (List Int)} (hP : P.length = 2 ^ m) (hp : ∀ s ∈ P, s ∈ S m) : ∃ nx, Nx m nx ∧ opDict (.lst (zipD ((S m).map stD) (P.map stD))) = some (.ow (nextsD m nx)) := by
  have h5 := p_pow5 hm
  have hl := S_len m
  obtain ⟨nx, a, b⟩ := mk_zip hm (S m) [] P (fun x => x) rfl (by rw [hP, hl]) hp (fun x h => nomatch h)
  refine ⟨nx, ⟨h1, hm, a⟩, ?_⟩
  have hz := zip_len ((S m).map stD) (P.map stD)
  rw [List.length_map, hl] at hz
  have b' : mkD (zipD ((S m).map stD) (P.map stD)) [] = some (kvsD (S m) fun x => stD (nx x)) := b
  show (if (zipD ((S m).map stD) (P.map stD)).length ≤ 16777216 then (mkD (zipD ((S m).map stD) (P.map stD)) []).map fun kvs => Rv.ow (.dct kvs) else none) = _
  rw [if_pos (by omega), b']
  rfl
/-! ### nets by rules -/
theorem ixN_ok {n : Nat} {i : Int} (h : -(n : Int) ≤ i) (h2 : i < n) : ∃ j, j < n ∧ L2.ixN n i = some j := by
  unfold L2.ixN
  by_cases h0 : 0 ≤ i
  · exact ⟨i.toNat, by omega, by rw [if_pos h0, if_pos h2]⟩
  · exact ⟨(i + n).toNat, by omega, by rw [if_neg h0, if_pos h]⟩
theorem at_ints {xs : List Int} {i : Int} (h : -(xs.length : Int) ≤ i) (h2 : i < xs.length) : ∃ x, x ∈ xs ∧ L2.atI (iL xs) i = some (.int x) := by
  obtain ⟨j, hj, e⟩ := ixN_ok h h2
  refine ⟨xs[j], List.getElem_mem hj, ?_⟩
  unfold L2.atI
  rw [show (iL xs).length = xs.length from by simp [iL], e]
  simp [iL, List.getElem?_eq_getElem hj]
theorem opIdx_ints {xs : List Int} {i : Int} (h : -(xs.length : Int) ≤ i) (h2 : i < xs.length) : ∃ x, x ∈ xs ∧ opIdx (.lst (iL xs)) (.int i) = some (.sh (.int x)) := by
  obtain ⟨x, hx, e⟩ := at_ints h h2
  refine ⟨x, hx, ?_⟩
  show (L2.atI (iL xs) i).map Rv.sh = _
  rw [e]
  rfl
theorem opIdx_stD {xs : List Int} {i : Int} (h : -(xs.length : Int) ≤ i) (h2 : i < xs.length) : ∃ x, x ∈ xs ∧ opIdx (stD xs) (.int i) = some (.sh (.int x)) := by
  obtain ⟨x, hx, e⟩ := at_ints h h2
  refine ⟨x, hx, ?_⟩
  show (L2.atI (iL xs) i).map Rv.sh = _
  rw [e]
  rfl
def RlD (m : Nat) (d : D) : Prop := ∃ asked table : List Int, d = .tup [.lst (iL asked), .lst (iL table)] ∧ 0 < asked.length ∧ (∀ x ∈ asked, 0 ≤ x ∧ x < m) ∧ table.length = 4 ∧ ∀ x ∈ table, x = 0 ∨ x = 1
theorem opNeg1 : opNeg (.int 1) = some (.sh (.int (-1))) := rfl
theorem rule_lc {m : Nat} {s : List Int} (hs : s ∈ S m) {a b c d e f g h' x10 : Sl} {K : List D → Ev → Prop} : ∀ (rules : List D) (acc : List Int), (∀ r ∈ rules, RlD m r) → (∀ x ∈ acc, x = 0 ∨ x = 1) →
    (∀ ns : List Int, ns.length = acc.length + rules.length → (∀ x ∈ ns, x = 0 ∨ x = 1) → K (iL ns) [a, b, c, d, e, f, g, h', .sh (stD s), .no, x10, .no]) →
    lcL (gT [9, 11]) tvYes (vP2 opIdx (.v 11) (.e (vP2 opAdd (.e (vP2 opMul (.e (vP2 opIdx (.v 8) (.e (vP2 opIdx (.v 9) (.e (vC (.int 0))))))) (.e (vC (.int 2))))) (.e (vP2 opIdx (.v 8) (.e (vP2 opIdx (.v 9) (.e (vP1 opNeg (.e (vC (.int 1)))))))))))) [9, 11] rules (iL acc) [a, b, c, d, e, f, g, h', .sh (stD s), .no, x10, .no] K
  | [], acc, _, ha, h => h acc (by simp) ha
  | r :: rules, acc, hr, ha, h => by
    obtain ⟨asked, table, rfl, h1, h2, h3, h4⟩ := hr r (by simp)
    obtain ⟨sl, sb⟩ := S_mem m s hs
    obtain ⟨p, hp, e1⟩ := opIdx_ints (xs := asked) (i := 0) (by omega) (by omega)
    obtain ⟨q, hq, e2⟩ := opIdx_ints (xs := asked) (i := -1) (by omega) (by omega)
    obtain ⟨u, hu, e3⟩ := opIdx_stD (xs := s) (i := p) (by have := h2 p hp; omega) (by have := h2 p hp; omega)
    obtain ⟨v, hv, e4⟩ := opIdx_stD (xs := s) (i := q) (by have := h2 q hq; omega) (by have := h2 q hq; omega)
    have bu := sb u hu
    have bv := sb v hv
    obtain ⟨y, hy, e5⟩ := opIdx_ints (xs := table) (i := u * 2 + v) (by omega) (by omega)
    have by' := h4 y hy
    unfold lcL
    simp only [fnV, env0, List.map_cons, List.map_nil, List.length_cons, List.length_nil, List.replicate, List.cons_append, List.nil_append, Nat.zero_add, Nat.reduceAdd, Nat.reduceSub, Nat.sub_self,
  sNil, sSeq, sBreak, sCont, sExpr, sRet, sRetN, sIf, sSet, sAsg, sPar2, sPar3, sFor, sSetIdx, sSetFld, gN, gT, setAll, vC, vVar, vMove, vP1, vP2, vP3, kP, vChain, evO, evOs, getR, vTup, vLst, lNil, lCons, lStar, mNil, mCons, vCall, vCallD, vFld, vProp, tvV, kB, tvNot, tvAnd, tvOr, vNot, vAnd, vOr, vIf, iSeq, iTp,
  vAppend, vIndexT, vCut, evP, vDnew, vMake, Rv.d, Rv.sl, restE, wipeE, tvYes, List.getElem?_cons_zero, List.getElem?_cons_succ, List.set_cons_zero, List.set_cons_succ, true_and, and_true, Bool.not_true, Bool.not_false, List.append_nil, decide_true, decide_false, List.getD_cons_zero, List.getD_cons_succ, e1, e2, e3, e4, e5, opNeg1, opAdd_int, opMulL_int (show -(2 ^ 64) < (2 : Int) ∧ (2 : Int) < 2 ^ 64 by decide)]
    have e6 : iL acc ++ [D.int y] = iL (acc ++ [y]) := by simp [iL]
    rw [e6]
    refine rule_lc hs rules (acc ++ [y]) (fun z hz => hr z (by simp [hz])) (fun x hx => ?_) fun ns hn hb => h ns (by rw [hn]; simp; omega) hb
    rcases List.mem_append.mp hx with hx | hx
    · exact ha x hx
    · simp at hx; rw [hx]; exact by'
theorem draws_lc {n : Int} {w : WE} {a b c d e f g h' i j l : Sl} {K : List D → Ev → Prop}
    (hw : ∀ (x : Sl) (K' : Rv → Ev → Prop), (∀ r : Int, 0 ≤ r → r < n → K' (.sh (.int r)) [a, b, c, d, e, f, g, h', i, j, x, l]) → w [a, b, c, d, e, f, g, h', i, j, x, l] K') :
    ∀ (items : List D) (acc : List Int), (∀ x ∈ acc, 0 ≤ x ∧ x < n) → (∀ ns : List Int, ns.length = acc.length + items.length → (∀ x ∈ ns, 0 ≤ x ∧ x < n) → K (iL ns) [a, b, c, d, e, f, g, h', i, j, .no, l]) →
    lcL (gN 10) tvYes w [10] items (iL acc) [a, b, c, d, e, f, g, h', i, j, .no, l] K
  | [], acc, ha, h => h acc (by simp) ha
  | x :: items, acc, ha, h => by
    unfold lcL
    simp only [fnV, env0, List.map_cons, List.map_nil, List.length_cons, List.length_nil, List.replicate, List.cons_append, List.nil_append, Nat.zero_add, Nat.reduceAdd, Nat.reduceSub, Nat.sub_self,
  sNil, sSeq, sBreak, sCont, sExpr, sRet, sRetN, sIf, sSet, sAsg, sPar2, sPar3, sFor, sSetIdx, sSetFld, gN, gT, setAll, vC, vVar, vMove, vP1, vP2, vP3, kP, vChain, evO, evOs, getR, vTup, vLst, lNil, lCons, lStar, mNil, mCons, vCall, vCallD, vFld, vProp, tvV, kB, tvNot, tvAnd, tvOr, vNot, vAnd, vOr, vIf, iSeq, iTp,
  vAppend, vIndexT, vCut, evP, vDnew, vMake, Rv.d, Rv.sl, restE, wipeE, tvYes, List.getElem?_cons_zero, List.getElem?_cons_succ, List.set_cons_zero, List.set_cons_succ, true_and, and_true, Bool.not_true, Bool.not_false, List.append_nil, decide_true, decide_false, List.getD_cons_zero, List.getD_cons_succ]
    refine hw _ _ fun r r0 r1 => ?_
    simp only [fnV, env0, List.map_cons, List.map_nil, List.length_cons, List.length_nil, List.replicate, List.cons_append, List.nil_append, Nat.zero_add, Nat.reduceAdd, Nat.reduceSub, Nat.sub_self,
  sNil, sSeq, sBreak, sCont, sExpr, sRet, sRetN, sIf, sSet, sAsg, sPar2, sPar3, sFor, sSetIdx, sSetFld, gN, gT, setAll, vC, vVar, vMove, vP1, vP2, vP3, kP, vChain, evO, evOs, getR, vTup, vLst, lNil, lCons, lStar, mNil, mCons, vCall, vCallD, vFld, vProp, tvV, kB, tvNot, tvAnd, tvOr, vNot, vAnd, vOr, vIf, iSeq, iTp,
  vAppend, vIndexT, vCut, evP, vDnew, vMake, Rv.d, Rv.sl, restE, wipeE, tvYes, List.getElem?_cons_zero, List.getElem?_cons_succ, List.set_cons_zero, List.set_cons_succ, true_and, and_true, Bool.not_true, Bool.not_false, List.append_nil, decide_true, decide_false, List.getD_cons_zero, List.getD_cons_succ]
    have e6 : iL acc ++ [D.int r] = iL (acc ++ [r]) := by simp [iL]
    rw [e6]
    refine draws_lc hw items (acc ++ [r]) (fun y hy => ?_) fun ns hn hb => h ns (by rw [hn]; simp; omega) hb
    rcases List.mem_append.mp hy with hy | hy
    · exact ha y hy
    · simp at hy; rw [hy]; exact ⟨r0, r1⟩
def bodyR : WS := sSeq (sSet 9 (vIf (tvV (vP2 opLt (.v 3) (.e (vC (.int 5))))) (vLc (iRange1 (lCons (vP2 opAdd (.e (vC (.int 1))) (.e (vCall 2 f__law_draw (lCons (vVar 0) (lCons (vC (.int 2)) lNil))))) lNil)) (gN 10) tvYes (vCall 2 f__law_draw (lCons (vVar 0) (lCons (vVar 2) lNil))) [10]) (vLst (lCons (vP2 opMod (.e (vP1 opInt (.e (vP2 opSub (.e (vP2 opAdd (.v 7) (.v 2))) (.e (vC (.int 1))))))) (.v 2)) lNil))))
    (sExpr (vAppend 6 (vTup (lCons (vVar 9) (lCons (vLc (iRange1 (lCons (vC (.int 4)) lNil)) (gN 10) tvYes (vCall 2 f__law_draw (lCons (vVar 0) (lCons (vC (.int 2)) lNil))) [10]) lNil)))))
theorem ruleS_loop {m : Nat} (h1 : 1 ≤ m) (hm : m ≤ 5) {turn : Int} {b e f x8 x11 : Sl} {k : K4} : ∀ (is : List Nat) (rules : List D) (x7 x9 : Sl), rules.length + is.length ≤ 5 → (∀ r ∈ rules, RlD m r) →
    (∀ rs x7' x9', rs.length = rules.length + is.length → (∀ r ∈ rs, RlD m r) → k.nx [.sh .tape, b, .sh (.int m), .sh (.int turn), e, f, .ow (.lst rs), x7', x8, x9', .no, x11]) →
    forL (gN 7) bodyR (is.map fun i : Nat => .int (i : Int)) k [.sh .tape, b, .sh (.int m), .sh (.int turn), e, f, .ow (.lst rules), x7, x8, x9, .no, x11]
  | [], rules, x7, x9, _, hr, h => h rules x7 x9 (by simp) hr
  | i :: is, rules, x7, x9, hl, hr, h => by
    rw [List.length_cons] at hl
    have fin : ∀ (asked : List Int), 0 < asked.length → (∀ x ∈ asked, 0 ≤ x ∧ x < m) → sExpr (vAppend 6 (vTup (lCons (vVar 9) (lCons (vLc (iRange1 (lCons (vC (.int 4)) lNil)) (gN 10) tvYes (vCall 2 f__law_draw (lCons (vVar 0) (lCons (vC (.int 2)) lNil))) [10]) lNil))))
        { nx := forL (gN 7) bodyR (is.map fun i : Nat => .int (i : Int)) k, ct := forL (gN 7) bodyR (is.map fun i : Nat => .int (i : Int)) k, bk := k.nx, rt := k.rt } [.sh .tape, b, .sh (.int m), .sh (.int turn), e, f, .ow (.lst rules), .sh (.int i), x8, .ow (.lst (iL asked)), .no, x11] := by
      intro asked ha hb
      simp only [fnV, env0, List.map_cons, List.map_nil, List.length_cons, List.length_nil, List.replicate, List.cons_append, List.nil_append, Nat.zero_add, Nat.reduceAdd, Nat.reduceSub, Nat.sub_self,
  sNil, sSeq, sBreak, sCont, sExpr, sRet, sRetN, sIf, sSet, sAsg, sPar2, sPar3, sFor, sSetIdx, sSetFld, gN, gT, setAll, vC, vVar, vMove, vP1, vP2, vP3, kP, vChain, evO, evOs, getR, vTup, vLst, lNil, lCons, lStar, mNil, mCons, vCall, vCallD, vFld, vProp, tvV, kB, tvNot, tvAnd, tvOr, vNot, vAnd, vOr, vIf, iSeq, iTp,
  vAppend, vIndexT, vCut, evP, vDnew, vMake, Rv.d, Rv.sl, restE, wipeE, tvYes, List.getElem?_cons_zero, List.getElem?_cons_succ, List.set_cons_zero, List.set_cons_succ, true_and, and_true, Bool.not_true, Bool.not_false, List.append_nil, decide_true, decide_false, List.getD_cons_zero, List.getD_cons_succ, vLc, iRange1]
      refine ⟨by decide, by rw [len_range]; decide, draws_lc (n := 2) (fun x K' h => ?_) (rangeD 0 1 (4 : Int).toNat) [] (fun x h => nomatch h) fun ns hn hb2 => ?_⟩
      · simp only [fnV, env0, List.map_cons, List.map_nil, List.length_cons, List.length_nil, List.replicate, List.cons_append, List.nil_append, Nat.zero_add, Nat.reduceAdd, Nat.reduceSub, Nat.sub_self,
  sNil, sSeq, sBreak, sCont, sExpr, sRet, sRetN, sIf, sSet, sAsg, sPar2, sPar3, sFor, sSetIdx, sSetFld, gN, gT, setAll, vC, vVar, vMove, vP1, vP2, vP3, kP, vChain, evO, evOs, getR, vTup, vLst, lNil, lCons, lStar, mNil, mCons, vCall, vCallD, vFld, vProp, tvV, kB, tvNot, tvAnd, tvOr, vNot, vAnd, vOr, vIf, iSeq, iTp,
  vAppend, vIndexT, vCut, evP, vDnew, vMake, Rv.d, Rv.sl, restE, wipeE, tvYes, List.getElem?_cons_zero, List.getElem?_cons_succ, List.set_cons_zero, List.set_cons_succ, true_and, and_true, Bool.not_true, Bool.not_false, List.append_nil, decide_true, decide_false, List.getD_cons_zero, List.getD_cons_succ]
        exact p_draw (by decide) (by decide) h
      · simp only [fnV, env0, List.map_cons, List.map_nil, List.length_cons, List.length_nil, List.replicate, List.cons_append, List.nil_append, Nat.zero_add, Nat.reduceAdd, Nat.reduceSub, Nat.sub_self,
  sNil, sSeq, sBreak, sCont, sExpr, sRet, sRetN, sIf, sSet, sAsg, sPar2, sPar3, sFor, sSetIdx, sSetFld, gN, gT, setAll, vC, vVar, vMove, vP1, vP2, vP3, kP, vChain, evO, evOs, getR, vTup, vLst, lNil, lCons, lStar, mNil, mCons, vCall, vCallD, vFld, vProp, tvV, kB, tvNot, tvAnd, tvOr, vNot, vAnd, vOr, vIf, iSeq, iTp,
  vAppend, vIndexT, vCut, evP, vDnew, vMake, Rv.d, Rv.sl, restE, wipeE, tvYes, List.getElem?_cons_zero, List.getElem?_cons_succ, List.set_cons_zero, List.set_cons_succ, true_and, and_true, Bool.not_true, Bool.not_false, List.append_nil, decide_true, decide_false, List.getD_cons_zero, List.getD_cons_succ]
        rw [len_range] at hn
        refine ⟨by decide, by omega, ?_⟩
        refine ruleS_loop h1 hm is _ _ _ (by simp; omega) (fun r hr' => ?_) fun rs x7' x9' hn' hr' => h rs x7' x9' (by rw [hn']; simp; omega) hr'
        rcases List.mem_append.mp hr' with hr' | hr'
        · exact hr r hr'
        · simp at hr'
          exact ⟨asked, ns, hr', ha, hb, by simpa using hn, fun x hx => by have := hb2 x hx; omega⟩
    rw [List.map_cons, forL_cons, gN_eq]
    simp only [List.set_cons_succ, List.set_cons_zero]
    unfold bodyR
    rw [sSeq_eq]
    by_cases ht : turn < 5
    · simp only [fnV, env0, List.map_cons, List.map_nil, List.length_cons, List.length_nil, List.replicate, List.cons_append, List.nil_append, Nat.zero_add, Nat.reduceAdd, Nat.reduceSub, Nat.sub_self,
  sNil, sSeq, sBreak, sCont, sExpr, sRet, sRetN, sIf, sSet, sAsg, sPar2, sPar3, sFor, sSetIdx, sSetFld, gN, gT, setAll, vC, vVar, vMove, vP1, vP2, vP3, kP, vChain, evO, evOs, getR, vTup, vLst, lNil, lCons, lStar, mNil, mCons, vCall, vCallD, vFld, vProp, tvV, kB, tvNot, tvAnd, tvOr, vNot, vAnd, vOr, vIf, iSeq, iTp,
  vAppend, vIndexT, vCut, evP, vDnew, vMake, Rv.d, Rv.sl, restE, wipeE, tvYes, List.getElem?_cons_zero, List.getElem?_cons_succ, List.set_cons_zero, List.set_cons_succ, true_and, and_true, Bool.not_true, Bool.not_false, List.append_nil, decide_true, decide_false, List.getD_cons_zero, List.getD_cons_succ, opLt_int, ht]
      show vLc _ _ _ _ _ _ _
      simp only [fnV, env0, List.map_cons, List.map_nil, List.length_cons, List.length_nil, List.replicate, List.cons_append, List.nil_append, Nat.zero_add, Nat.reduceAdd, Nat.reduceSub, Nat.sub_self,
  sNil, sSeq, sBreak, sCont, sExpr, sRet, sRetN, sIf, sSet, sAsg, sPar2, sPar3, sFor, sSetIdx, sSetFld, gN, gT, setAll, vC, vVar, vMove, vP1, vP2, vP3, kP, vChain, evO, evOs, getR, vTup, vLst, lNil, lCons, lStar, mNil, mCons, vCall, vCallD, vFld, vProp, tvV, kB, tvNot, tvAnd, tvOr, vNot, vAnd, vOr, vIf, iSeq, iTp,
  vAppend, vIndexT, vCut, evP, vDnew, vMake, Rv.d, Rv.sl, restE, wipeE, tvYes, List.getElem?_cons_zero, List.getElem?_cons_succ, List.set_cons_zero, List.set_cons_succ, true_and, and_true, Bool.not_true, Bool.not_false, List.append_nil, decide_true, decide_false, List.getD_cons_zero, List.getD_cons_succ, vLc, iRange1]
      refine p_draw (by decide) (by decide) fun r r0 r1 => ?_
      simp only [fnV, env0, List.map_cons, List.map_nil, List.length_cons, List.length_nil, List.replicate, List.cons_append, List.nil_append, Nat.zero_add, Nat.reduceAdd, Nat.reduceSub, Nat.sub_self,
  sNil, sSeq, sBreak, sCont, sExpr, sRet, sRetN, sIf, sSet, sAsg, sPar2, sPar3, sFor, sSetIdx, sSetFld, gN, gT, setAll, vC, vVar, vMove, vP1, vP2, vP3, kP, vChain, evO, evOs, getR, vTup, vLst, lNil, lCons, lStar, mNil, mCons, vCall, vCallD, vFld, vProp, tvV, kB, tvNot, tvAnd, tvOr, vNot, vAnd, vOr, vIf, iSeq, iTp,
  vAppend, vIndexT, vCut, evP, vDnew, vMake, Rv.d, Rv.sl, restE, wipeE, tvYes, List.getElem?_cons_zero, List.getElem?_cons_succ, List.set_cons_zero, List.set_cons_succ, true_and, and_true, Bool.not_true, Bool.not_false, List.append_nil, decide_true, decide_false, List.getD_cons_zero, List.getD_cons_succ, opAdd_int]
      refine ⟨⟨by omega, by omega⟩, by rw [len_range]; omega, draws_lc (n := m) (fun x K' h => ?_) _ [] (fun x h => nomatch h) fun ns hn hb2 => ?_⟩
      · simp only [fnV, env0, List.map_cons, List.map_nil, List.length_cons, List.length_nil, List.replicate, List.cons_append, List.nil_append, Nat.zero_add, Nat.reduceAdd, Nat.reduceSub, Nat.sub_self,
  sNil, sSeq, sBreak, sCont, sExpr, sRet, sRetN, sIf, sSet, sAsg, sPar2, sPar3, sFor, sSetIdx, sSetFld, gN, gT, setAll, vC, vVar, vMove, vP1, vP2, vP3, kP, vChain, evO, evOs, getR, vTup, vLst, lNil, lCons, lStar, mNil, mCons, vCall, vCallD, vFld, vProp, tvV, kB, tvNot, tvAnd, tvOr, vNot, vAnd, vOr, vIf, iSeq, iTp,
  vAppend, vIndexT, vCut, evP, vDnew, vMake, Rv.d, Rv.sl, restE, wipeE, tvYes, List.getElem?_cons_zero, List.getElem?_cons_succ, List.set_cons_zero, List.set_cons_succ, true_and, and_true, Bool.not_true, Bool.not_false, List.append_nil, decide_true, decide_false, List.getD_cons_zero, List.getD_cons_succ]
        exact p_draw (by omega) (by omega) h
      · simp only [fnV, env0, List.map_cons, List.map_nil, List.length_cons, List.length_nil, List.replicate, List.cons_append, List.nil_append, Nat.zero_add, Nat.reduceAdd, Nat.reduceSub, Nat.sub_self,
  sNil, sSeq, sBreak, sCont, sExpr, sRet, sRetN, sIf, sSet, sAsg, sPar2, sPar3, sFor, sSetIdx, sSetFld, gN, gT, setAll, vC, vVar, vMove, vP1, vP2, vP3, kP, vChain, evO, evOs, getR, vTup, vLst, lNil, lCons, lStar, mNil, mCons, vCall, vCallD, vFld, vProp, tvV, kB, tvNot, tvAnd, tvOr, vNot, vAnd, vOr, vIf, iSeq, iTp,
  vAppend, vIndexT, vCut, evP, vDnew, vMake, Rv.d, Rv.sl, restE, wipeE, tvYes, List.getElem?_cons_zero, List.getElem?_cons_succ, List.set_cons_zero, List.set_cons_succ, true_and, and_true, Bool.not_true, Bool.not_false, List.append_nil, decide_true, decide_false, List.getD_cons_zero, List.getD_cons_succ]
        rw [len_range] at hn
        exact fin ns (by simp at hn; omega) hb2
    · have hz : (m : Int) ≠ 0 := by omega
      have hz2 : (0 : Int) < m := by omega
      simp only [fnV, env0, List.map_cons, List.map_nil, List.length_cons, List.length_nil, List.replicate, List.cons_append, List.nil_append, Nat.zero_add, Nat.reduceAdd, Nat.reduceSub, Nat.sub_self,
  sNil, sSeq, sBreak, sCont, sExpr, sRet, sRetN, sIf, sSet, sAsg, sPar2, sPar3, sFor, sSetIdx, sSetFld, gN, gT, setAll, vC, vVar, vMove, vP1, vP2, vP3, kP, vChain, evO, evOs, getR, vTup, vLst, lNil, lCons, lStar, mNil, mCons, vCall, vCallD, vFld, vProp, tvV, kB, tvNot, tvAnd, tvOr, vNot, vAnd, vOr, vIf, iSeq, iTp,
  vAppend, vIndexT, vCut, evP, vDnew, vMake, Rv.d, Rv.sl, restE, wipeE, tvYes, List.getElem?_cons_zero, List.getElem?_cons_succ, List.set_cons_zero, List.set_cons_succ, true_and, and_true, Bool.not_true, Bool.not_false, List.append_nil, decide_true, decide_false, List.getD_cons_zero, List.getD_cons_succ, opLt_int, ht, opAdd_int, opSub_int, opInt_int, opMod_int hz]
      refine ⟨by decide, ?_⟩
      refine fin [((i : Int) + m - 1).fmod m] (by simp) fun x hx => ?_
      simp at hx
      rw [hx]
      exact ⟨Int.fmod_nonneg_of_pos _ hz2, Int.fmod_lt_of_pos _ hz2⟩
theorem p__law_net {K : Rv → Prop} (h : ∀ m nx, Nx m nx → K (.ow (nextsD m nx))) : f__law_net [.tape, .int 5] K := by
  unfold f__law_net w__law_net
  show sSeq _ _ _ [.sh .tape, .sh (.int 5), .no, .no, .no, .no, .no, .no, .no, .no, .no, .no]
  rw [sSeq_eq]
  refine ⟨rfl, p_draw (by decide) (by decide) fun r r0 r1 => ?_⟩
  refine ⟨rfl, p_draw (by decide) (by decide) fun turn t0 t1 => ?_⟩
  obtain ⟨m, hm⟩ : ∃ m : Nat, 1 + r = (m : Int) := ⟨(1 + r).toNat, by omega⟩
  have h1 : 1 ≤ m := by omega
  have h5 : m ≤ 5 := by omega
  have hp := p_pow5 h5
  have hl := S_len m
  refine ⟨by show 2 ≤ 16777216; decide, rfl, ?_⟩
  show sSeq _ _ _ [.sh .tape, .sh (.int 5), .sh (.int (1 + r)), .sh (.int turn), .no, .no, .no, .no, .no, .no, .no, .no]
  rw [hm, sSeq_eq]
  refine ⟨rfl, p__law_states2 h1 h5 ?_⟩
  simp only [mCons, mNil, vDnew, Rv.sl, List.set_cons_succ, List.set_cons_zero]
  have loop : ∀ {k : K4} {b c d x7 x9 x10 x11 x6 : Sl} {w : WE} {X : Sl → Prop}, X x6 → 
      (∀ (y5 x6 : Sl) (s : List Int) (K : Rv → Ev → Prop), X x6 → s ∈ S m → (∀ (t : List Int) (x6' : Sl), t ∈ S m → X x6' → K (.sh (stD t)) [.sh .tape, b, c, d, .sh (.lst ((S m).map stD)), y5, x6', x7, .sh (stD s), x9, x10, x11]) → w [.sh .tape, b, c, d, .sh (.lst ((S m).map stD)), y5, x6, x7, .sh (stD s), x9, x10, x11] K) →
      (∀ nx x6 x8, Nx m nx → X x6 → k.nx [.sh .tape, b, c, d, .sh (.lst ((S m).map stD)), .ow (nextsD m nx), x6, x7, x8, x9, x10, x11]) →
      sFor (iSeq (vVar 4)) (gN 8) (sSetIdx 5 (.v 8) w) k [.sh .tape, b, c, d, .sh (.lst ((S m).map stD)), .ow (.dct []), x6, x7, .no, x9, x10, x11] := by
    intro k b c d x7 x9 x10 x11 x6 w X hx hw hk
    rw [sFor_eq]
    exact net_loop h1 h5 hw hk (S m) [] (fun x => x) x6 .no hx rfl (fun x h => nomatch h)
  rw [sSeq_eq]
  by_cases q2 : turn < 2
  · have e : opLt (.int turn) (.int 2) = some (.sh (.bl true)) := by rw [opLt_int, decide_eq_true q2]
    have ifT : ∀ {w : WS} {k : K4} {env : Ev}, w k ([.sh .tape, .sh (.int 5), .sh (.int m), .sh (.int turn)] ++ env) → sIf (tvV (vP2 opLt (.v 3) (.e (vC (.int 2))))) w sNil k ([.sh .tape, .sh (.int 5), .sh (.int m), .sh (.int turn)] ++ env) := by
      intro w k env h
      simp only [fnV, env0, List.map_cons, List.map_nil, List.length_cons, List.length_nil, List.replicate, List.cons_append, List.nil_append, Nat.zero_add, Nat.reduceAdd, Nat.reduceSub, Nat.sub_self,
  sNil, sSeq, sBreak, sCont, sExpr, sRet, sRetN, sIf, sSet, sAsg, sPar2, sPar3, sFor, sSetIdx, sSetFld, gN, gT, setAll, vC, vVar, vMove, vP1, vP2, vP3, kP, vChain, evO, evOs, getR, vTup, vLst, lNil, lCons, lStar, mNil, mCons, vCall, vCallD, vFld, vProp, tvV, kB, tvNot, tvAnd, tvOr, vNot, vAnd, vOr, vIf, iSeq, iTp,
  vAppend, vIndexT, vCut, evP, vDnew, vMake, Rv.d, Rv.sl, restE, wipeE, tvYes, List.getElem?_cons_zero, List.getElem?_cons_succ, List.set_cons_zero, List.set_cons_succ, true_and, and_true, Bool.not_true, Bool.not_false, List.append_nil, decide_true, decide_false, List.getD_cons_zero, List.getD_cons_succ, e]
      exact h
    refine ifT (env := [.sh (.lst ((S m).map stD)), .ow (.dct []), .no, .no, .no, .no, .no, .no]) ?_
    simp only [List.cons_append, List.nil_append]
    rw [sSeq_eq]
    refine loop (X := fun x => x = .no) rfl (fun y5 x6 s K hx hs hK => ?_) fun nx x6 x8 N _ => ?_
    · subst hx
      simp only [fnV, env0, List.map_cons, List.map_nil, List.length_cons, List.length_nil, List.replicate, List.cons_append, List.nil_append, Nat.zero_add, Nat.reduceAdd, Nat.reduceSub, Nat.sub_self,
  sNil, sSeq, sBreak, sCont, sExpr, sRet, sRetN, sIf, sSet, sAsg, sPar2, sPar3, sFor, sSetIdx, sSetFld, gN, gT, setAll, vC, vVar, vMove, vP1, vP2, vP3, kP, vChain, evO, evOs, getR, vTup, vLst, lNil, lCons, lStar, mNil, mCons, vCall, vCallD, vFld, vProp, tvV, kB, tvNot, tvAnd, tvOr, vNot, vAnd, vOr, vIf, iSeq, iTp,
  vAppend, vIndexT, vCut, evP, vDnew, vMake, Rv.d, Rv.sl, restE, wipeE, tvYes, List.getElem?_cons_zero, List.getElem?_cons_succ, List.set_cons_zero, List.set_cons_succ, true_and, and_true, Bool.not_true, Bool.not_false, List.append_nil, decide_true, decide_false, List.getD_cons_zero, List.getD_cons_succ]
      exact p__law_pick (S_ne m) (by omega) fun t ht => hK t .no ht rfl
    · simp only [fnV, env0, List.map_cons, List.map_nil, List.length_cons, List.length_nil, List.replicate, List.cons_append, List.nil_append, Nat.zero_add, Nat.reduceAdd, Nat.reduceSub, Nat.sub_self,
  sNil, sSeq, sBreak, sCont, sExpr, sRet, sRetN, sIf, sSet, sAsg, sPar2, sPar3, sFor, sSetIdx, sSetFld, gN, gT, setAll, vC, vVar, vMove, vP1, vP2, vP3, kP, vChain, evO, evOs, getR, vTup, vLst, lNil, lCons, lStar, mNil, mCons, vCall, vCallD, vFld, vProp, tvV, kB, tvNot, tvAnd, tvOr, vNot, vAnd, vOr, vIf, iSeq, iTp,
  vAppend, vIndexT, vCut, evP, vDnew, vMake, Rv.d, Rv.sl, restE, wipeE, tvYes, List.getElem?_cons_zero, List.getElem?_cons_succ, List.set_cons_zero, List.set_cons_succ, true_and, and_true, Bool.not_true, Bool.not_false, List.append_nil, decide_true, decide_false, List.getD_cons_zero, List.getD_cons_succ]
      exact h m nx N
  · have e : opLt (.int turn) (.int 2) = some (.sh (.bl false)) := by rw [opLt_int, decide_eq_false q2]
    have ifF : ∀ {w : WS} {k : K4} {env : Ev}, k.nx ([.sh .tape, .sh (.int 5), .sh (.int m), .sh (.int turn)] ++ env) → sIf (tvV (vP2 opLt (.v 3) (.e (vC (.int 2))))) w sNil k ([.sh .tape, .sh (.int 5), .sh (.int m), .sh (.int turn)] ++ env) := by
      intro w k env h
      simp only [fnV, env0, List.map_cons, List.map_nil, List.length_cons, List.length_nil, List.replicate, List.cons_append, List.nil_append, Nat.zero_add, Nat.reduceAdd, Nat.reduceSub, Nat.sub_self,
  sNil, sSeq, sBreak, sCont, sExpr, sRet, sRetN, sIf, sSet, sAsg, sPar2, sPar3, sFor, sSetIdx, sSetFld, gN, gT, setAll, vC, vVar, vMove, vP1, vP2, vP3, kP, vChain, evO, evOs, getR, vTup, vLst, lNil, lCons, lStar, mNil, mCons, vCall, vCallD, vFld, vProp, tvV, kB, tvNot, tvAnd, tvOr, vNot, vAnd, vOr, vIf, iSeq, iTp,
  vAppend, vIndexT, vCut, evP, vDnew, vMake, Rv.d, Rv.sl, restE, wipeE, tvYes, List.getElem?_cons_zero, List.getElem?_cons_succ, List.set_cons_zero, List.set_cons_succ, true_and, and_true, Bool.not_true, Bool.not_false, List.append_nil, decide_true, decide_false, List.getD_cons_zero, List.getD_cons_succ, e]
      exact h
    refine ifF (env := [.sh (.lst ((S m).map stD)), .ow (.dct []), .no, .no, .no, .no, .no, .no]) ?_
    simp only [List.cons_append, List.nil_append]
    rw [sSeq_eq]
    by_cases q3 : turn = 2
    · subst q3
      have ifT : ∀ {k : K4}, (∀ nx, Nx m nx → k.rt (.ow (nextsD m nx))) → sIf (tvV (vP2 opEq (.v 3) (.e (vC (.int 2))))) (sRet (vP1 opDict (.e (vListZip (lCons (vVar 4) (lCons (vCall 2 f__law_shuffled (lCons (vVar 0) (lCons (vVar 4) lNil))) lNil)))))) sNil k [.sh .tape, .sh (.int 5), .sh (.int m), .sh (.int 2), .sh (.lst ((S m).map stD)), .ow (.dct []), .no, .no, .no, .no, .no, .no] := by
        intro k h
        simp only [fnV, env0, List.map_cons, List.map_nil, List.length_cons, List.length_nil, List.replicate, List.cons_append, List.nil_append, Nat.zero_add, Nat.reduceAdd, Nat.reduceSub, Nat.sub_self,
  sNil, sSeq, sBreak, sCont, sExpr, sRet, sRetN, sIf, sSet, sAsg, sPar2, sPar3, sFor, sSetIdx, sSetFld, gN, gT, setAll, vC, vVar, vMove, vP1, vP2, vP3, kP, vChain, evO, evOs, getR, vTup, vLst, lNil, lCons, lStar, mNil, mCons, vCall, vCallD, vFld, vProp, tvV, kB, tvNot, tvAnd, tvOr, vNot, vAnd, vOr, vIf, iSeq, iTp,
  vAppend, vIndexT, vCut, evP, vDnew, vMake, Rv.d, Rv.sl, restE, wipeE, tvYes, List.getElem?_cons_zero, List.getElem?_cons_succ, List.set_cons_zero, List.set_cons_succ, true_and, and_true, Bool.not_true, Bool.not_false, List.append_nil, decide_true, decide_false, List.getD_cons_zero, List.getD_cons_succ, opEq_int, beq_self_eq_true, vListZip]
        refine p__law_shuffled h5 fun P hP hp => ?_
        obtain ⟨nx, N, e⟩ := opDict_zip h1 h5 hP hp
        simp only [fnV, env0, List.map_cons, List.map_nil, List.length_cons, List.length_nil, List.replicate, List.cons_append, List.nil_append, Nat.zero_add, Nat.reduceAdd, Nat.reduceSub, Nat.sub_self,
  sNil, sSeq, sBreak, sCont, sExpr, sRet, sRetN, sIf, sSet, sAsg, sPar2, sPar3, sFor, sSetIdx, sSetFld, gN, gT, setAll, vC, vVar, vMove, vP1, vP2, vP3, kP, vChain, evO, evOs, getR, vTup, vLst, lNil, lCons, lStar, mNil, mCons, vCall, vCallD, vFld, vProp, tvV, kB, tvNot, tvAnd, tvOr, vNot, vAnd, vOr, vIf, iSeq, iTp,
  vAppend, vIndexT, vCut, evP, vDnew, vMake, Rv.d, Rv.sl, restE, wipeE, tvYes, List.getElem?_cons_zero, List.getElem?_cons_succ, List.set_cons_zero, List.set_cons_succ, true_and, and_true, Bool.not_true, Bool.not_false, List.append_nil, decide_true, decide_false, List.getD_cons_zero, List.getD_cons_succ, e]
        exact h nx N
      exact ifT fun nx N => h m nx N
    · have eb : (turn == 2) = false := by simpa using q3
      have ifF2 : ∀ {w : WS} {k : K4} {env : Ev}, k.nx ([.sh .tape, .sh (.int 5), .sh (.int m), .sh (.int turn)] ++ env) → sIf (tvV (vP2 opEq (.v 3) (.e (vC (.int 2))))) w sNil k ([.sh .tape, .sh (.int 5), .sh (.int m), .sh (.int turn)] ++ env) := by
        intro w k env h
        simp only [fnV, env0, List.map_cons, List.map_nil, List.length_cons, List.length_nil, List.replicate, List.cons_append, List.nil_append, Nat.zero_add, Nat.reduceAdd, Nat.reduceSub, Nat.sub_self,
  sNil, sSeq, sBreak, sCont, sExpr, sRet, sRetN, sIf, sSet, sAsg, sPar2, sPar3, sFor, sSetIdx, sSetFld, gN, gT, setAll, vC, vVar, vMove, vP1, vP2, vP3, kP, vChain, evO, evOs, getR, vTup, vLst, lNil, lCons, lStar, mNil, mCons, vCall, vCallD, vFld, vProp, tvV, kB, tvNot, tvAnd, tvOr, vNot, vAnd, vOr, vIf, iSeq, iTp,
  vAppend, vIndexT, vCut, evP, vDnew, vMake, Rv.d, Rv.sl, restE, wipeE, tvYes, List.getElem?_cons_zero, List.getElem?_cons_succ, List.set_cons_zero, List.set_cons_succ, true_and, and_true, Bool.not_true, Bool.not_false, List.append_nil, decide_true, decide_false, List.getD_cons_zero, List.getD_cons_succ, opEq_int, eb]
        exact h
      refine ifF2 (env := [.sh (.lst ((S m).map stD)), .ow (.dct []), .no, .no, .no, .no, .no, .no]) ?_
      simp only [List.cons_append, List.nil_append]
      rw [sSeq_eq]
      refine ⟨by decide, ?_⟩
      simp only [Rv.sl, List.set_cons_succ, List.set_cons_zero]
      rw [sSeq_eq, sFor_eq]
      refine ⟨⟨by omega, by omega⟩, ?_⟩
      rw [Int.toNat_natCast, range_d]
      refine ruleS_loop h1 h5 (List.range m) [] _ _ (by simp; omega) (fun r hr => nomatch hr) fun rs x7 x9 hrs hr => ?_
      rw [List.length_range] at hrs
      simp only []
      rw [sSeq_eq]
      refine loop (X := fun x => x = .ow (.lst rs) ∨ x = .sh (.lst rs)) (.inl rfl) (fun y5 x6 s K hx hs hK => ?_) fun nx x6 x8 N _ => ?_
      · have fin : ∀ ns : List Int, ns.length = ([] : List Int).length + rs.length → (∀ x ∈ ns, x = 0 ∨ x = 1) → ns ∈ S m := fun ns hn hb => S_of m ns (by rw [hn]; simpa using hrs) hb
        rcases hx with rfl | rfl
        · simp only [fnV, env0, List.map_cons, List.map_nil, List.length_cons, List.length_nil, List.replicate, List.cons_append, List.nil_append, Nat.zero_add, Nat.reduceAdd, Nat.reduceSub, Nat.sub_self,
  sNil, sSeq, sBreak, sCont, sExpr, sRet, sRetN, sIf, sSet, sAsg, sPar2, sPar3, sFor, sSetIdx, sSetFld, gN, gT, setAll, vC, vVar, vMove, vP1, vP2, vP3, kP, vChain, evO, evOs, getR, vTup, vLst, lNil, lCons, lStar, mNil, mCons, vCall, vCallD, vFld, vProp, tvV, kB, tvNot, tvAnd, tvOr, vNot, vAnd, vOr, vIf, iSeq, iTp,
  vAppend, vIndexT, vCut, evP, vDnew, vMake, Rv.d, Rv.sl, restE, wipeE, tvYes, List.getElem?_cons_zero, List.getElem?_cons_succ, List.set_cons_zero, List.set_cons_succ, true_and, and_true, Bool.not_true, Bool.not_false, List.append_nil, decide_true, decide_false, List.getD_cons_zero, List.getD_cons_succ, vLc]
          refine ⟨by simp at hrs; omega, rule_lc hs rs [] hr (fun x h => nomatch h) fun ns hn hb => ?_⟩
          simp only [fnV, env0, List.map_cons, List.map_nil, List.length_cons, List.length_nil, List.replicate, List.cons_append, List.nil_append, Nat.zero_add, Nat.reduceAdd, Nat.reduceSub, Nat.sub_self,
  sNil, sSeq, sBreak, sCont, sExpr, sRet, sRetN, sIf, sSet, sAsg, sPar2, sPar3, sFor, sSetIdx, sSetFld, gN, gT, setAll, vC, vVar, vMove, vP1, vP2, vP3, kP, vChain, evO, evOs, getR, vTup, vLst, lNil, lCons, lStar, mNil, mCons, vCall, vCallD, vFld, vProp, tvV, kB, tvNot, tvAnd, tvOr, vNot, vAnd, vOr, vIf, iSeq, iTp,
  vAppend, vIndexT, vCut, evP, vDnew, vMake, Rv.d, Rv.sl, restE, wipeE, tvYes, List.getElem?_cons_zero, List.getElem?_cons_succ, List.set_cons_zero, List.set_cons_succ, true_and, and_true, Bool.not_true, Bool.not_false, List.append_nil, decide_true, decide_false, List.getD_cons_zero, List.getD_cons_succ, opTuple_lst]
          exact hK ns _ (fin ns hn hb) (.inr rfl)
        · simp only [fnV, env0, List.map_cons, List.map_nil, List.length_cons, List.length_nil, List.replicate, List.cons_append, List.nil_append, Nat.zero_add, Nat.reduceAdd, Nat.reduceSub, Nat.sub_self,
  sNil, sSeq, sBreak, sCont, sExpr, sRet, sRetN, sIf, sSet, sAsg, sPar2, sPar3, sFor, sSetIdx, sSetFld, gN, gT, setAll, vC, vVar, vMove, vP1, vP2, vP3, kP, vChain, evO, evOs, getR, vTup, vLst, lNil, lCons, lStar, mNil, mCons, vCall, vCallD, vFld, vProp, tvV, kB, tvNot, tvAnd, tvOr, vNot, vAnd, vOr, vIf, iSeq, iTp,
  vAppend, vIndexT, vCut, evP, vDnew, vMake, Rv.d, Rv.sl, restE, wipeE, tvYes, List.getElem?_cons_zero, List.getElem?_cons_succ, List.set_cons_zero, List.set_cons_succ, true_and, and_true, Bool.not_true, Bool.not_false, List.append_nil, decide_true, decide_false, List.getD_cons_zero, List.getD_cons_succ, vLc]
          refine ⟨by simp at hrs; omega, rule_lc hs rs [] hr (fun x h => nomatch h) fun ns hn hb => ?_⟩
          simp only [fnV, env0, List.map_cons, List.map_nil, List.length_cons, List.length_nil, List.replicate, List.cons_append, List.nil_append, Nat.zero_add, Nat.reduceAdd, Nat.reduceSub, Nat.sub_self,
  sNil, sSeq, sBreak, sCont, sExpr, sRet, sRetN, sIf, sSet, sAsg, sPar2, sPar3, sFor, sSetIdx, sSetFld, gN, gT, setAll, vC, vVar, vMove, vP1, vP2, vP3, kP, vChain, evO, evOs, getR, vTup, vLst, lNil, lCons, lStar, mNil, mCons, vCall, vCallD, vFld, vProp, tvV, kB, tvNot, tvAnd, tvOr, vNot, vAnd, vOr, vIf, iSeq, iTp,
  vAppend, vIndexT, vCut, evP, vDnew, vMake, Rv.d, Rv.sl, restE, wipeE, tvYes, List.getElem?_cons_zero, List.getElem?_cons_succ, List.set_cons_zero, List.set_cons_succ, true_and, and_true, Bool.not_true, Bool.not_false, List.append_nil, decide_true, decide_false, List.getD_cons_zero, List.getD_cons_succ, opTuple_lst]
          exact hK ns _ (fin ns hn hb) (.inr rfl)
      · simp only [fnV, env0, List.map_cons, List.map_nil, List.length_cons, List.length_nil, List.replicate, List.cons_append, List.nil_append, Nat.zero_add, Nat.reduceAdd, Nat.reduceSub, Nat.sub_self,
  sNil, sSeq, sBreak, sCont, sExpr, sRet, sRetN, sIf, sSet, sAsg, sPar2, sPar3, sFor, sSetIdx, sSetFld, gN, gT, setAll, vC, vVar, vMove, vP1, vP2, vP3, kP, vChain, evO, evOs, getR, vTup, vLst, lNil, lCons, lStar, mNil, mCons, vCall, vCallD, vFld, vProp, tvV, kB, tvNot, tvAnd, tvOr, vNot, vAnd, vOr, vIf, iSeq, iTp,
  vAppend, vIndexT, vCut, evP, vDnew, vMake, Rv.d, Rv.sl, restE, wipeE, tvYes, List.getElem?_cons_zero, List.getElem?_cons_succ, List.set_cons_zero, List.set_cons_succ, true_and, and_true, Bool.not_true, Bool.not_false, List.append_nil, decide_true, decide_false, List.getD_cons_zero, List.getD_cons_succ]
        exact h m nx N

end K77
end
section
set_option autoImplicit false
set_option linter.all false
set_option maxRecDepth 100000
set_option Elab.async false
namespace K77
open PySem PySem.Spec PyProof.Rows L2 PV
/-! ### the small nets -/
theorem pow_loop {b n : Int} (hb : -(2 ^ 64) < b ∧ b < 2 ^ 64) {k : K4} : ∀ (items : List D) (f : Int) (x : Sl), (∀ x', k.nx [.sh (.int b), .sh (.int n), .sh (.int (f * b ^ items.length)), x']) →
    forL (gN 3) (sSet 2 (vP2 opMul (.v 2) (.v 0))) items k [.sh (.int b), .sh (.int n), .sh (.int f), x]
  | [], f, x, h => by
    have h := h x
    rw [List.length_nil, Int.pow_zero, Int.mul_one] at h
    exact h
  | d :: items, f, x, h => by
    unfold forL
    simp only [fnV, env0, List.map_cons, List.map_nil, List.length_cons, List.length_nil, List.replicate, List.cons_append, List.nil_append, Nat.zero_add, Nat.reduceAdd, Nat.reduceSub, Nat.sub_self,
  sNil, sSeq, sBreak, sCont, sExpr, sRet, sRetN, sIf, sSet, sAsg, sPar2, sPar3, sFor, sSetIdx, sSetFld, gN, gT, setAll, vC, vVar, vMove, vP1, vP2, vP3, kP, vChain, evO, evOs, getR, vTup, vLst, lNil, lCons, lStar, mNil, mCons, vCall, vCallD, vFld, vProp, tvV, kB, tvNot, tvAnd, tvOr, vNot, vAnd, vOr, vIf, iSeq, iTp,
  vAppend, vIndexT, vCut, evP, vDnew, vMake, Rv.d, Rv.sl, restE, wipeE, tvYes, List.getElem?_cons_zero, List.getElem?_cons_succ, List.set_cons_zero, List.set_cons_succ, true_and, and_true, Bool.not_true, Bool.not_false, List.append_nil, decide_true, decide_false, List.getD_cons_zero, List.getD_cons_succ, opMulL_int hb]
    refine pow_loop hb items (f * b) _ fun x' => ?_
    have e : f * b * b ^ items.length = f * b ^ (d :: items).length := by
      rw [List.length_cons, Int.pow_succ, Int.mul_assoc, Int.mul_comm b]
    rw [e]
    exact h x'
theorem p__law_power {b : Int} {n : Nat} {K : Rv → Prop} (hb : -(2 ^ 64) < b ∧ b < 2 ^ 64) (hn : n ≤ 100) (h : K (.sh (.int (b ^ n)))) : f__law_power [.int b, .int n] K := by
  unfold f__law_power w__law_power
  simp only [fnV, env0, List.map_cons, List.map_nil, List.length_cons, List.length_nil, List.replicate, List.cons_append, List.nil_append, Nat.zero_add, Nat.reduceAdd, Nat.reduceSub, Nat.sub_self,
  sNil, sSeq, sBreak, sCont, sExpr, sRet, sRetN, sIf, sSet, sAsg, sPar2, sPar3, sFor, sSetIdx, sSetFld, gN, gT, setAll, vC, vVar, vMove, vP1, vP2, vP3, kP, vChain, evO, evOs, getR, vTup, vLst, lNil, lCons, lStar, mNil, mCons, vCall, vCallD, vFld, vProp, tvV, kB, tvNot, tvAnd, tvOr, vNot, vAnd, vOr, vIf, iSeq, iTp,
  vAppend, vIndexT, vCut, evP, vDnew, vMake, Rv.d, Rv.sl, restE, wipeE, tvYes, List.getElem?_cons_zero, List.getElem?_cons_succ, List.set_cons_zero, List.set_cons_succ, true_and, and_true, Bool.not_true, Bool.not_false, List.append_nil, decide_true, decide_false, List.getD_cons_zero, List.getD_cons_succ, iRange1]
  refine ⟨⟨by omega, by omega⟩, pow_loop hb _ 1 _ fun x' => ?_⟩
  rw [len_range, Int.toNat_natCast, Int.one_mul]
  simp only [fnV, env0, List.map_cons, List.map_nil, List.length_cons, List.length_nil, List.replicate, List.cons_append, List.nil_append, Nat.zero_add, Nat.reduceAdd, Nat.reduceSub, Nat.sub_self,
  sNil, sSeq, sBreak, sCont, sExpr, sRet, sRetN, sIf, sSet, sAsg, sPar2, sPar3, sFor, sSetIdx, sSetFld, gN, gT, setAll, vC, vVar, vMove, vP1, vP2, vP3, kP, vChain, evO, evOs, getR, vTup, vLst, lNil, lCons, lStar, mNil, mCons, vCall, vCallD, vFld, vProp, tvV, kB, tvNot, tvAnd, tvOr, vNot, vAnd, vOr, vIf, iSeq, iTp,
  vAppend, vIndexT, vCut, evP, vDnew, vMake, Rv.d, Rv.sl, restE, wipeE, tvYes, List.getElem?_cons_zero, List.getElem?_cons_succ, List.set_cons_zero, List.set_cons_succ, true_and, and_true, Bool.not_true, Bool.not_false, List.append_nil, decide_true, decide_false, List.getD_cons_zero, List.getD_cons_succ]
  exact h
theorem digit_loop {m : Nat} (h1 : 1 ≤ m) (hm : m ≤ 5) {a b c d e f g : Sl} {k : K4} (h : ∀ nx x9 x10, Nx m nx → k.nx [a, b, c, d, .sh (.lst ((S m).map stD)), e, f, g, .ow (nextsD m nx), x9, x10]) :
    ∀ (rest line : List (List Int)) (nx : List Int → List Int) (left : Int) (x10 : Sl), S m = line ++ rest → (∀ x ∈ line, nx x ∈ S m) →
    forL (gN 10) (sSeq (sSetIdx 8 (.v 10) (vP2 opIdx (.v 4) (.e (vP2 opMod (.e (vP1 opInt (.v 9))) (.e (vP1 opLen (.v 4))))))) (sSet 9 (vP2 opDiv (.v 9) (.e (vP1 opLen (.v 4)))))) (rest.map stD) k [a, b, c, d, .sh (.lst ((S m).map stD)), e, f, g, .ow (.dct (kvsD line fun x => stD (nx x))), .sh (.int left), x10]
  | [], line, nx, left, x10, hS, hn => by
    rw [List.append_nil] at hS
    have := h nx (.sh (.int left)) x10 ⟨h1, hm, by rw [hS] at hn ⊢; exact hn⟩
    unfold nextsD at this
    rw [hS] at this ⊢
    exact this
  | s :: rest, line, nx, left, x10, hS, hn => by
    have nd := S_nodup5 m hm
    have hl := S_len m
    have h5 := p_pow5 hm
    have hp := S_ne m
    have hl' := hl
    have hs : s ∈ S m := by rw [hS]; simp
    rw [hS] at nd hl'
    have hs2 : s ∉ line := fun hs => by
      rw [List.nodup_append] at nd
      exact nd.2.2 s hs s (by simp) rfl
    rw [List.length_append, List.length_cons] at hl'
    have hz : ((S m).length : Int) ≠ 0 := by omega
    have hz2 : (0 : Int) < (S m).length := by omega
    have hz3 : ((S m).length : Int) ≠ 0 ∧ ((S m).length : Int).natAbs < 1073741824 := ⟨hz, by omega⟩
    obtain ⟨t, ht, et⟩ := opIdx_lsts (L := S m) (Int.fmod_nonneg_of_pos left hz2) (Int.fmod_lt_of_pos left hz2)
    rw [List.map_cons]
    unfold forL
    simp only [fnV, env0, List.map_cons, List.map_nil, List.length_cons, List.length_nil, List.replicate, List.cons_append, List.nil_append, Nat.zero_add, Nat.reduceAdd, Nat.reduceSub, Nat.sub_self,
  sNil, sSeq, sBreak, sCont, sExpr, sRet, sRetN, sIf, sSet, sAsg, sPar2, sPar3, sFor, sSetIdx, sSetFld, gN, gT, setAll, vC, vVar, vMove, vP1, vP2, vP3, kP, vChain, evO, evOs, getR, vTup, vLst, lNil, lCons, lStar, mNil, mCons, vCall, vCallD, vFld, vProp, tvV, kB, tvNot, tvAnd, tvOr, vNot, vAnd, vOr, vIf, iSeq, iTp,
  vAppend, vIndexT, vCut, evP, vDnew, vMake, Rv.d, Rv.sl, restE, wipeE, tvYes, List.getElem?_cons_zero, List.getElem?_cons_succ, List.set_cons_zero, List.set_cons_succ, true_and, and_true, Bool.not_true, Bool.not_false, List.append_nil, decide_true, decide_false, List.getD_cons_zero, List.getD_cons_succ, opLen_lst, List.length_map, opInt_int, opMod_int hz, et, put_new hs2 (show line.length < 16777216 by omega), opDiv_int hz3]
    exact digit_loop h1 hm h rest (line ++ [s]) (put nx s t) _ _ (by rw [hS, List.append_assoc]; rfl) (put_cl hn ht)
def Nets (L : List D) : Prop := ∀ d ∈ L, ∃ m nx, Nx m nx ∧ d = nextsD m nx
theorem num_loop {m : Nat} (h1 : 1 ≤ m) (hm : m ≤ 5) {a b d e f : Sl} {k : K4} : ∀ (ns : List Int) (found : List D) (x7 x8 x9 x10 : Sl), found.length + ns.length ≤ 1000 → Nets found →
    (∀ fd x7 x8 x9 x10, fd.length = found.length + ns.length → Nets fd → k.nx [a, b, .ow (.lst fd), d, .sh (.lst ((S m).map stD)), e, f, x7, x8, x9, x10]) →
    forL (gN 7) (sSeq (sPar2 8 9 (mCons vDnew (mCons (vVar 7) mNil)))
    (sSeq (sFor (iSeq (vVar 4)) (gN 10) (sSeq (sSetIdx 8 (.v 10) (vP2 opIdx (.v 4) (.e (vP2 opMod (.e (vP1 opInt (.v 9))) (.e (vP1 opLen (.v 4)))))))
    (sSet 9 (vP2 opDiv (.v 9) (.e (vP1 opLen (.v 4)))))))
    (sExpr (vAppend 2 (vVar 8))))) (ns.map D.int) k [a, b, .ow (.lst found), d, .sh (.lst ((S m).map stD)), e, f, x7, x8, x9, x10]
  | [], found, x7, x8, x9, x10, _, hN, h => h found x7 x8 x9 x10 (by simp) hN
  | n :: ns, found, x7, x8, x9, x10, hl, hN, h => by
    rw [List.length_cons] at hl
    rw [List.map_cons, forL_cons, gN_eq]
    simp only [List.set_cons_succ, List.set_cons_zero]
    rw [sSeq_eq]
    show sSeq _ _ _ [a, b, .ow (.lst found), d, .sh (.lst ((S m).map stD)), e, f, .sh (.int n), .ow (.dct []), .sh (.int n), x10]
    rw [sSeq_eq]
    refine digit_loop h1 hm (fun nx x9 x10 N => ?_) (S m) [] (fun x => x) n x10 rfl (fun x h => nomatch h)
    simp only [fnV, env0, List.map_cons, List.map_nil, List.length_cons, List.length_nil, List.replicate, List.cons_append, List.nil_append, Nat.zero_add, Nat.reduceAdd, Nat.reduceSub, Nat.sub_self,
  sNil, sSeq, sBreak, sCont, sExpr, sRet, sRetN, sIf, sSet, sAsg, sPar2, sPar3, sFor, sSetIdx, sSetFld, gN, gT, setAll, vC, vVar, vMove, vP1, vP2, vP3, kP, vChain, evO, evOs, getR, vTup, vLst, lNil, lCons, lStar, mNil, mCons, vCall, vCallD, vFld, vProp, tvV, kB, tvNot, tvAnd, tvOr, vNot, vAnd, vOr, vIf, iSeq, iTp,
  vAppend, vIndexT, vCut, evP, vDnew, vMake, Rv.d, Rv.sl, restE, wipeE, tvYes, List.getElem?_cons_zero, List.getElem?_cons_succ, List.set_cons_zero, List.set_cons_succ, true_and, and_true, Bool.not_true, Bool.not_false, List.append_nil, decide_true, decide_false, List.getD_cons_zero, List.getD_cons_succ]
    refine ⟨by omega, num_loop h1 hm ns (found ++ [nextsD m nx]) _ _ _ _ (by simp; omega) (fun d hd => ?_) fun fd x7 x8 x9 x10 hf hN' => h fd x7 x8 x9 x10 (by rw [hf]; simp; omega) hN'⟩
    rcases List.mem_append.mp hd with hd | hd
    · exact hN d hd
    · simp at hd
      exact ⟨m, nx, N, hd⟩
theorem rg_of {i j c : Int} {n : Nat} (h1 : c ≠ 0 ∧ c.natAbs < 1073741824) (h2 : Builtin.Range.small i j c = true) (h3 : Builtin.Range.rangeSize i j c = n) : L2.RgC i j c n := ⟨h1.1, h1.2, h2, h3⟩
theorem range_i (i c : Int) (n : Nat) : rangeD i c n = ((List.range n).map fun k : Nat => i + (k : Int) * c).map D.int := by
  unfold rangeD
  rw [List.map_map]
  rfl
theorem p__law_small_nets {K : Rv → Prop} (h : ∀ L : List D, Nets L → K (.ow (.lst L))) : f__law_small_nets [.tape, .int 4] K := by
  unfold f__law_small_nets w__law_small_nets
  show sSeq _ _ _ [.sh .tape, .sh (.int 4), .no, .no, .no, .no, .no, .no, .no, .no, .no]
  rw [sSeq_eq]
  refine ⟨by decide, ?_⟩
  simp only [Rv.sl, List.set_cons_succ, List.set_cons_zero]
  rw [sSeq_eq, sFor_eq]
  refine ⟨by show 2 ≤ 16777216; decide, ?_⟩
  show forL _ _ [.int 1, .int 2] _ _
  rw [forL_cons, gN_eq]
  simp only [List.set_cons_succ, List.set_cons_zero]
  rw [sSeq_eq]
  refine ⟨rfl, p__law_states2 (m := 1) (by decide) (by decide) ?_⟩
  refine ⟨rfl, p_draw (by decide) (by decide) fun r r0 r1 => ?_⟩
  simp only [mNil, Rv.sl, List.set_cons_succ, List.set_cons_zero]
  rw [sSeq_eq]
  refine ⟨rfl, p__law_power (b := 2) (n := 2) (by decide) (by decide) ?_⟩
  simp only [Rv.sl, List.set_cons_succ, List.set_cons_zero]
  rw [sFor_eq]
  refine ⟨4, rg_of (by decide) (by decide) (by decide), by decide, ?_⟩
  show forL _ _ (rangeD 0 1 4) _ _
  rw [range_i]
  refine num_loop (m := 1) (by decide) (by decide) _ [] _ _ _ _ (by decide) (fun d h => nomatch h) fun fd x7 x8 x9 x10 hf hN => ?_
  simp only [List.length_nil, List.length_map, List.length_range] at hf
  simp only []
  rw [forL_cons, gN_eq]
  simp only [List.set_cons_succ, List.set_cons_zero]
  rw [sSeq_eq]
  refine ⟨rfl, p__law_states2 (m := 2) (by decide) (by decide) ?_⟩
  refine ⟨rfl, p_draw (by decide) (by decide) fun q q0 q1 => ?_⟩
  simp only [mNil, Rv.sl, List.set_cons_succ, List.set_cons_zero]
  rw [sSeq_eq]
  refine ⟨rfl, p__law_power (b := 4) (n := 4) (by decide) (by decide) ?_⟩
  simp only [Rv.sl, List.set_cons_succ, List.set_cons_zero]
  rw [sFor_eq]
  have hq : q = 0 ∨ q = 1 ∨ q = 2 ∨ q = 3 := by omega
  refine ⟨64, ?_, by decide, ?_⟩
  · rcases hq with rfl | rfl | rfl | rfl <;> exact rg_of (by decide) (by decide) (by decide)
  show forL _ _ (rangeD q 4 64) _ _
  rw [range_i]
  refine num_loop (m := 2) (by decide) (by decide) _ fd _ _ _ _ (by simp; omega) hN fun fd' x7 x8 x9 x10 _ hN' => ?_
  exact h fd' hN'
/-! ### the law -/
theorem small_loop {a : Sl} {k : K4} {r : Ev} : ∀ (L : List D) (x2 : Sl), Nets L → (∀ x2, k.nx (a :: .sh .tape :: x2 :: r)) →
    forL (gN 2) (sIf (tvNot (tvV (vCall 3 f__law_net_right (lCons (vVar 1) (lCons (vVar 2) (lCons (vP1 opSorted (.v 2)) lNil)))))) (sRet (vC (.bl false))) sNil) L k (a :: .sh .tape :: x2 :: r)
  | [], x2, _, h => h x2
  | d :: L, x2, hN, h => by
    obtain ⟨m, nx, N, rfl⟩ := hN d (by simp)
    have eS : opSorted (nextsD m nx) = some (.ow (.lst ((S m).map stD))) := opSorted_S N.lo N.hi
    unfold forL
    simp only [fnV, env0, List.map_cons, List.map_nil, List.length_cons, List.length_nil, List.replicate, List.cons_append, List.nil_append, Nat.zero_add, Nat.reduceAdd, Nat.reduceSub, Nat.sub_self,
  sNil, sSeq, sBreak, sCont, sExpr, sRet, sRetN, sIf, sSet, sAsg, sPar2, sPar3, sFor, sSetIdx, sSetFld, gN, gT, setAll, vC, vVar, vMove, vP1, vP2, vP3, kP, vChain, evO, evOs, getR, vTup, vLst, lNil, lCons, lStar, mNil, mCons, vCall, vCallD, vFld, vProp, tvV, kB, tvNot, tvAnd, tvOr, vNot, vAnd, vOr, vIf, iSeq, iTp,
  vAppend, vIndexT, vCut, evP, vDnew, vMake, Rv.d, Rv.sl, restE, wipeE, tvYes, List.getElem?_cons_zero, List.getElem?_cons_succ, List.set_cons_zero, List.set_cons_succ, true_and, and_true, Bool.not_true, Bool.not_false, List.append_nil, decide_true, decide_false, List.getD_cons_zero, List.getD_cons_succ, eS]
    refine p_net_right N (fun _ h => h) ?_
    simp only [fnV, env0, List.map_cons, List.map_nil, List.length_cons, List.length_nil, List.replicate, List.cons_append, List.nil_append, Nat.zero_add, Nat.reduceAdd, Nat.reduceSub, Nat.sub_self,
  sNil, sSeq, sBreak, sCont, sExpr, sRet, sRetN, sIf, sSet, sAsg, sPar2, sPar3, sFor, sSetIdx, sSetFld, gN, gT, setAll, vC, vVar, vMove, vP1, vP2, vP3, kP, vChain, evO, evOs, getR, vTup, vLst, lNil, lCons, lStar, mNil, mCons, vCall, vCallD, vFld, vProp, tvV, kB, tvNot, tvAnd, tvOr, vNot, vAnd, vOr, vIf, iSeq, iTp,
  vAppend, vIndexT, vCut, evP, vDnew, vMake, Rv.d, Rv.sl, restE, wipeE, tvYes, List.getElem?_cons_zero, List.getElem?_cons_succ, List.set_cons_zero, List.set_cons_succ, true_and, and_true, Bool.not_true, Bool.not_false, List.append_nil, decide_true, decide_false, List.getD_cons_zero, List.getD_cons_succ]
    exact small_loop L _ (fun q hq => hN q (by simp [hq])) h
theorem picks_lc {m : Nat} {nx : List Int → List Int} (N : Nx m nx) {a d e f : Sl} {K : List D → Ev → Prop} : ∀ (items : List D) (acc : List (List Int)), (∀ s ∈ acc, s ∈ S m) →
    (∀ ss : List (List Int), (∀ s ∈ ss, s ∈ S m) → K (ss.map stD) [a, .sh .tape, .sh (nextsD m nx), d, e, f, .no]) →
    lcL (gN 6) tvYes (vCall 2 f__law_pick (lCons (vVar 1) (lCons (vP1 opSorted (.v 2)) lNil))) [6] items (acc.map stD) [a, .sh .tape, .sh (nextsD m nx), d, e, f, .no] K
  | [], acc, ha, h => h acc ha
  | x :: items, acc, ha, h => by
    have h5 := p_pow5 N.hi
    have hl := S_len m
    have eS : opSorted (nextsD m nx) = some (.ow (.lst ((S m).map stD))) := opSorted_S N.lo N.hi
    unfold lcL
    simp only [fnV, env0, List.map_cons, List.map_nil, List.length_cons, List.length_nil, List.replicate, List.cons_append, List.nil_append, Nat.zero_add, Nat.reduceAdd, Nat.reduceSub, Nat.sub_self,
  sNil, sSeq, sBreak, sCont, sExpr, sRet, sRetN, sIf, sSet, sAsg, sPar2, sPar3, sFor, sSetIdx, sSetFld, gN, gT, setAll, vC, vVar, vMove, vP1, vP2, vP3, kP, vChain, evO, evOs, getR, vTup, vLst, lNil, lCons, lStar, mNil, mCons, vCall, vCallD, vFld, vProp, tvV, kB, tvNot, tvAnd, tvOr, vNot, vAnd, vOr, vIf, iSeq, iTp,
  vAppend, vIndexT, vCut, evP, vDnew, vMake, Rv.d, Rv.sl, restE, wipeE, tvYes, List.getElem?_cons_zero, List.getElem?_cons_succ, List.set_cons_zero, List.set_cons_succ, true_and, and_true, Bool.not_true, Bool.not_false, List.append_nil, decide_true, decide_false, List.getD_cons_zero, List.getD_cons_succ, eS]
    refine p__law_pick (S_ne m) (by omega) fun s hs => ?_
    simp only [fnV, env0, List.map_cons, List.map_nil, List.length_cons, List.length_nil, List.replicate, List.cons_append, List.nil_append, Nat.zero_add, Nat.reduceAdd, Nat.reduceSub, Nat.sub_self,
  sNil, sSeq, sBreak, sCont, sExpr, sRet, sRetN, sIf, sSet, sAsg, sPar2, sPar3, sFor, sSetIdx, sSetFld, gN, gT, setAll, vC, vVar, vMove, vP1, vP2, vP3, kP, vChain, evO, evOs, getR, vTup, vLst, lNil, lCons, lStar, mNil, mCons, vCall, vCallD, vFld, vProp, tvV, kB, tvNot, tvAnd, tvOr, vNot, vAnd, vOr, vIf, iSeq, iTp,
  vAppend, vIndexT, vCut, evP, vDnew, vMake, Rv.d, Rv.sl, restE, wipeE, tvYes, List.getElem?_cons_zero, List.getElem?_cons_succ, List.set_cons_zero, List.set_cons_succ, true_and, and_true, Bool.not_true, Bool.not_false, List.append_nil, decide_true, decide_false, List.getD_cons_zero, List.getD_cons_succ]
    have e : acc.map stD ++ [stD s] = (acc ++ [s]).map stD := by simp
    rw [e]
    refine picks_lc N items (acc ++ [s]) (fun q hq => ?_) h
    rcases List.mem_append.mp hq with hq | hq
    · exact ha q hq
    · simp at hq; rw [hq]; exact hs
theorem laps_loop {a e f : Sl} {k : K4} : ∀ (items : List D) (x2 x3 : Sl), (∀ x2 x3, k.nx [a, .sh .tape, x2, x3, e, f, .no]) →
    forL (gN 3) (sSeq (sSet 2 (vCall 2 f__law_net (lCons (vVar 1) (lCons (vC (.int 5)) lNil))))
    (sIf (tvNot (tvV (vCall 3 f__law_net_right (lCons (vVar 1) (lCons (vVar 2) (lCons (vLc (iRange1 (lCons (vC (.int 4)) lNil)) (gN 6) tvYes (vCall 2 f__law_pick (lCons (vVar 1) (lCons (vP1 opSorted (.v 2)) lNil))) [6]) lNil)))))) (sRet (vC (.bl false))) sNil)) items k [a, .sh .tape, x2, x3, e, f, .no]
  | [], x2, x3, h => h x2 x3
  | d :: items, x2, x3, h => by
    unfold forL
    simp only [fnV, env0, List.map_cons, List.map_nil, List.length_cons, List.length_nil, List.replicate, List.cons_append, List.nil_append, Nat.zero_add, Nat.reduceAdd, Nat.reduceSub, Nat.sub_self,
  sNil, sSeq, sBreak, sCont, sExpr, sRet, sRetN, sIf, sSet, sAsg, sPar2, sPar3, sFor, sSetIdx, sSetFld, gN, gT, setAll, vC, vVar, vMove, vP1, vP2, vP3, kP, vChain, evO, evOs, getR, vTup, vLst, lNil, lCons, lStar, mNil, mCons, vCall, vCallD, vFld, vProp, tvV, kB, tvNot, tvAnd, tvOr, vNot, vAnd, vOr, vIf, iSeq, iTp,
  vAppend, vIndexT, vCut, evP, vDnew, vMake, Rv.d, Rv.sl, restE, wipeE, tvYes, List.getElem?_cons_zero, List.getElem?_cons_succ, List.set_cons_zero, List.set_cons_succ, true_and, and_true, Bool.not_true, Bool.not_false, List.append_nil, decide_true, decide_false, List.getD_cons_zero, List.getD_cons_succ]
    refine p__law_net fun m nx N => ?_
    simp only [fnV, env0, List.map_cons, List.map_nil, List.length_cons, List.length_nil, List.replicate, List.cons_append, List.nil_append, Nat.zero_add, Nat.reduceAdd, Nat.reduceSub, Nat.sub_self,
  sNil, sSeq, sBreak, sCont, sExpr, sRet, sRetN, sIf, sSet, sAsg, sPar2, sPar3, sFor, sSetIdx, sSetFld, gN, gT, setAll, vC, vVar, vMove, vP1, vP2, vP3, kP, vChain, evO, evOs, getR, vTup, vLst, lNil, lCons, lStar, mNil, mCons, vCall, vCallD, vFld, vProp, tvV, kB, tvNot, tvAnd, tvOr, vNot, vAnd, vOr, vIf, iSeq, iTp,
  vAppend, vIndexT, vCut, evP, vDnew, vMake, Rv.d, Rv.sl, restE, wipeE, tvYes, List.getElem?_cons_zero, List.getElem?_cons_succ, List.set_cons_zero, List.set_cons_succ, true_and, and_true, Bool.not_true, Bool.not_false, List.append_nil, decide_true, decide_false, List.getD_cons_zero, List.getD_cons_succ, vLc, iRange1]
    refine ⟨by decide, by rw [len_range]; decide, picks_lc N _ [] (fun s h => nomatch h) fun ss hss => ?_⟩
    simp only [fnV, env0, List.map_cons, List.map_nil, List.length_cons, List.length_nil, List.replicate, List.cons_append, List.nil_append, Nat.zero_add, Nat.reduceAdd, Nat.reduceSub, Nat.sub_self,
  sNil, sSeq, sBreak, sCont, sExpr, sRet, sRetN, sIf, sSet, sAsg, sPar2, sPar3, sFor, sSetIdx, sSetFld, gN, gT, setAll, vC, vVar, vMove, vP1, vP2, vP3, kP, vChain, evO, evOs, getR, vTup, vLst, lNil, lCons, lStar, mNil, mCons, vCall, vCallD, vFld, vProp, tvV, kB, tvNot, tvAnd, tvOr, vNot, vAnd, vOr, vIf, iSeq, iTp,
  vAppend, vIndexT, vCut, evP, vDnew, vMake, Rv.d, Rv.sl, restE, wipeE, tvYes, List.getElem?_cons_zero, List.getElem?_cons_succ, List.set_cons_zero, List.set_cons_succ, true_and, and_true, Bool.not_true, Bool.not_false, List.append_nil, decide_true, decide_false, List.getD_cons_zero, List.getD_cons_succ]
    refine p_net_right N hss ?_
    simp only [fnV, env0, List.map_cons, List.map_nil, List.length_cons, List.length_nil, List.replicate, List.cons_append, List.nil_append, Nat.zero_add, Nat.reduceAdd, Nat.reduceSub, Nat.sub_self,
  sNil, sSeq, sBreak, sCont, sExpr, sRet, sRetN, sIf, sSet, sAsg, sPar2, sPar3, sFor, sSetIdx, sSetFld, gN, gT, setAll, vC, vVar, vMove, vP1, vP2, vP3, kP, vChain, evO, evOs, getR, vTup, vLst, lNil, lCons, lStar, mNil, mCons, vCall, vCallD, vFld, vProp, tvV, kB, tvNot, tvAnd, tvOr, vNot, vAnd, vOr, vIf, iSeq, iTp,
  vAppend, vIndexT, vCut, evP, vDnew, vMake, Rv.d, Rv.sl, restE, wipeE, tvYes, List.getElem?_cons_zero, List.getElem?_cons_succ, List.set_cons_zero, List.set_cons_succ, true_and, and_true, Bool.not_true, Bool.not_false, List.append_nil, decide_true, decide_false, List.getD_cons_zero, List.getD_cons_succ]
    exact laps_loop items _ _ h
def nx4 (s : List Int) : List Int := if s = [0, 0] then [1, 0] else if s = [0, 1] then [0, 0] else if s = [1, 0] then [1, 1] else [0, 1]
theorem nx4_ok : Nx 2 nx4 := ⟨by decide, by decide, by decide⟩
theorem p__law_four {K : Rv → Prop} (h : K (.ow (nextsD 2 nx4))) : f__law_four [] K := by
  refine ⟨by decide, by decide, by decide, by decide, by decide, by decide, by decide, by decide, by decide, by decide, by decide, by decide, by decide, ?_⟩
  exact h
def rwT : List (List Int) := [[1, 0, 1, 0], [1, 1, 0, 0]]
def rwF : List (List Int) := [[1, 0, 1, 0], [0, 0, 1, 1]]
def rwO : List (List Int) := [[1, 1]]
theorem rwT_ok : Rows 2 rwT := ⟨by decide, by decide, by decide, by decide⟩
theorem rwF_ok : Rows 2 rwF := ⟨by decide, by decide, by decide, by decide⟩
theorem rwO_ok : Rows 1 rwO := ⟨by decide, by decide, by decide, by decide⟩
abbrev twoD : D := netD (rwT.map stD) 2 (nxR 2 rwT)
abbrev fourD : D := madeD 2 nx4
theorem tr_two : track 2 (nxR 2 rwT) [0, 0] = ([], [[0, 0], [1, 1]]) := by decide +kernel
theorem aft_four : aft (track 2 nx4 [0, 0]) 999999999999999999 = [0, 1] := by decide +kernel
theorem tm_four : tmD (track 2 nx4 [0, 1]) [1, 1] = .int 3 := by
  unfold tmD
  rw [if_pos (by decide +kernel)]
  have : ((track 2 nx4 [0, 1]).1 ++ (track 2 nx4 [0, 1]).2).idxOf [1, 1] = 3 := by decide +kernel
  rw [this]
  rfl
theorem tm_two : tmD (track 2 (nxR 2 rwT) [0, 1]) [1, 0] = .non := by
  unfold tmD
  rw [if_neg (by decide +kernel)]
theorem pairs_one : (S 1).map (pairD 1 (nxR 1 rwO)) = [.tup [.int (-1), stD [0]], .tup [.int 0, stD [1]]] := by
  have e0 : (track 1 (nxR 1 rwO) [0]).1.length = 1 := by decide +kernel
  have e1 : (track 1 (nxR 1 rwO) [1]).1.length = 0 := by decide +kernel
  show [pairD 1 (nxR 1 rwO) [0], pairD 1 (nxR 1 rwO) [1]] = _
  unfold pairD
  rw [e0, e1]
  rfl
theorem min_one : opMin (.lst ((S 1).map (pairD 1 (nxR 1 rwO)))) = some (.sh (.tup [.int (-1), stD [0]])) := by
  rw [pairs_one]
  have h1 : minB [.tup [.int (-1), stD [0]], .tup [.int 0, stD [1]]] = true := by decide +kernel
  have h2 : PySem.W.dataLt (py (.tup [.int 0, stD [1]])) (py (.tup [.int (-1), stD [0]])) = false := by decide +kernel
  simp only [opMin, h1, if_true, minL, List.foldl_cons, List.foldl_nil, h2]
  rfl
theorem eq_four {K : Rv → Prop} (h : K (.sh (.bl true))) : f_Net_eq [fourD, netD (rwF.map stD) 2 (nxR 2 rwF)] K := by
  have e : rowsOf 2 nx4 = rwF := by decide +kernel
  have h1 : opEq (.tup (rwF.map stD)) (.tup (rwF.map stD)) = some (.sh (.bl true)) := by
    have a : pl2 (.tup (rwF.map stD)) (.tup (rwF.map stD)) = true := by decide +kernel
    have b : eqb (.tup (rwF.map stD)) (.tup (rwF.map stD)) = true := by decide +kernel
    unfold opEq
    rw [if_pos a, b]
  have hi : opIsiO 0 (netD (rwF.map stD) 2 (nxR 2 rwF)) = some (.sh (.bl true)) := rfl
  unfold f_Net_eq w_Net_eq fourD madeD
  rw [e]
  simp only [fnV, env0, List.map_cons, List.map_nil, List.length_cons, List.length_nil, List.replicate, List.cons_append, List.nil_append, Nat.zero_add, Nat.reduceAdd, Nat.reduceSub, Nat.sub_self,
  sNil, sSeq, sBreak, sCont, sExpr, sRet, sRetN, sIf, sSet, sAsg, sPar2, sPar3, sFor, sSetIdx, sSetFld, gN, gT, setAll, vC, vVar, vMove, vP1, vP2, vP3, kP, vChain, evO, evOs, getR, vTup, vLst, lNil, lCons, lStar, mNil, mCons, vCall, vCallD, vFld, vProp, tvV, kB, tvNot, tvAnd, tvOr, vNot, vAnd, vOr, vIf, iSeq, iTp,
  vAppend, vIndexT, vCut, evP, vDnew, vMake, Rv.d, Rv.sl, restE, wipeE, tvYes, List.getElem?_cons_zero, List.getElem?_cons_succ, List.set_cons_zero, List.set_cons_succ, true_and, and_true, Bool.not_true, Bool.not_false, List.append_nil, decide_true, decide_false, List.getD_cons_zero, List.getD_cons_succ, hi]
  unfold netD
  simp only [fnV, env0, List.map_cons, List.map_nil, List.length_cons, List.length_nil, List.replicate, List.cons_append, List.nil_append, Nat.zero_add, Nat.reduceAdd, Nat.reduceSub, Nat.sub_self,
  sNil, sSeq, sBreak, sCont, sExpr, sRet, sRetN, sIf, sSet, sAsg, sPar2, sPar3, sFor, sSetIdx, sSetFld, gN, gT, setAll, vC, vVar, vMove, vP1, vP2, vP3, kP, vChain, evO, evOs, getR, vTup, vLst, lNil, lCons, lStar, mNil, mCons, vCall, vCallD, vFld, vProp, tvV, kB, tvNot, tvAnd, tvOr, vNot, vAnd, vOr, vIf, iSeq, iTp,
  vAppend, vIndexT, vCut, evP, vDnew, vMake, Rv.d, Rv.sl, restE, wipeE, tvYes, List.getElem?_cons_zero, List.getElem?_cons_succ, List.set_cons_zero, List.set_cons_succ, true_and, and_true, Bool.not_true, Bool.not_false, List.append_nil, decide_true, decide_false, List.getD_cons_zero, List.getD_cons_succ, lk_rules, h1]
  exact h
end K77
end
section
set_option autoImplicit false
set_option linter.all false
set_option maxRecDepth 100000
set_option Elab.async false
set_option maxHeartbeats 2000000
namespace K77
open PySem PySem.Spec PyProof.Rows L2 PV
theorem last_seg {x0 x1 x2 x3 x6 : Sl} {k : K4} {K : Rv → Prop} (h : K (.sh (.bl true))) : 
    (vAnd (vP2 opIsN (.e (vCall 3 f_beat_time (lCons (vVar 5) (lCons (vTup (lCons (vC (.int 0)) (lCons (vC (.int 1)) lNil))) (lCons (vTup (lCons (vC (.int 1)) (lCons (vC (.int 0)) lNil))) lNil))))) (.e (vC .non))) (vAnd (vP2 opEq (.e (vCall 1 f_longest_tail (lCons (vMake 1 f_Net_init (lCons (vLst (lCons (vTup (lCons (vC (.int 1)) (lCons (vC (.int 1)) lNil))) lNil)) lNil)) lNil))) (.e (vTup (lCons (vC (.int 1)) (lCons (vTup (lCons (vC (.int 0)) lNil)) lNil))))) (vEqO 0 f_Net_eq (vVar 4) (vMake 1 f_Net_init (lCons (vLst (lCons (vTup (lCons (vC (.int 1)) (lCons (vC (.int 0)) (lCons (vC (.int 1)) (lCons (vC (.int 0)) lNil))))) (lCons (vTup (lCons (vC (.int 0)) (lCons (vC (.int 0)) (lCons (vC (.int 1)) (lCons (vC (.int 1)) lNil))))) lNil))) lNil)))))
    [x0, x1, x2, x3, .sh fourD, .sh twoD, x6] fun r _ => K r := by
  simp only [fnV, env0, List.map_cons, List.map_nil, List.length_cons, List.length_nil, List.replicate, List.cons_append, List.nil_append, Nat.zero_add, Nat.reduceAdd, Nat.reduceSub, Nat.sub_self,
  sNil, sSeq, sBreak, sCont, sExpr, sRet, sRetN, sIf, sSet, sAsg, sPar2, sPar3, sFor, sSetIdx, sSetFld, gN, gT, setAll, vC, vVar, vMove, vP1, vP2, vP3, kP, vChain, evO, evOs, getR, vTup, vLst, lNil, lCons, lStar, mNil, mCons, vCall, vCallD, vFld, vProp, tvV, kB, tvNot, tvAnd, tvOr, vNot, vAnd, vOr, vIf, iSeq, iTp,
  vAppend, vIndexT, vCut, evP, vDnew, vMake, Rv.d, Rv.sl, restE, wipeE, tvYes, List.getElem?_cons_zero, List.getElem?_cons_succ, List.set_cons_zero, List.set_cons_succ, true_and, and_true, Bool.not_true, Bool.not_false, List.append_nil, decide_true, decide_false, List.getD_cons_zero, List.getD_cons_succ]
  refine ⟨by decide, by decide, ?_⟩
  refine p_beat_time (s := [0, 1]) (t := [1, 0]) rwT_ok.nx (by decide) (by decide) ?_
  rw [tm_two]
  have e0 : opIsN .non .non = some (.sh (.bl true)) := rfl
  simp only [fnV, env0, List.map_cons, List.map_nil, List.length_cons, List.length_nil, List.replicate, List.cons_append, List.nil_append, Nat.zero_add, Nat.reduceAdd, Nat.reduceSub, Nat.sub_self,
  sNil, sSeq, sBreak, sCont, sExpr, sRet, sRetN, sIf, sSet, sAsg, sPar2, sPar3, sFor, sSetIdx, sSetFld, gN, gT, setAll, vC, vVar, vMove, vP1, vP2, vP3, kP, vChain, evO, evOs, getR, vTup, vLst, lNil, lCons, lStar, mNil, mCons, vCall, vCallD, vFld, vProp, tvV, kB, tvNot, tvAnd, tvOr, vNot, vAnd, vOr, vIf, iSeq, iTp,
  vAppend, vIndexT, vCut, evP, vDnew, vMake, Rv.d, Rv.sl, restE, wipeE, tvYes, List.getElem?_cons_zero, List.getElem?_cons_succ, List.set_cons_zero, List.set_cons_succ, true_and, and_true, Bool.not_true, Bool.not_false, List.append_nil, decide_true, decide_false, List.getD_cons_zero, List.getD_cons_succ, e0]
  refine ⟨by decide, by decide, ?_⟩
  rw [show [D.tup [D.int 1, D.int 1]] = rwO.map stD from rfl]
  refine p_Net_init (rows := rwO) (m := 1) rwO_ok ?_
  try simp only [fnV, env0, List.map_cons, List.map_nil, List.length_cons, List.length_nil, List.replicate, List.cons_append, List.nil_append, Nat.zero_add, Nat.reduceAdd, Nat.reduceSub, Nat.sub_self,
  sNil, sSeq, sBreak, sCont, sExpr, sRet, sRetN, sIf, sSet, sAsg, sPar2, sPar3, sFor, sSetIdx, sSetFld, gN, gT, setAll, vC, vVar, vMove, vP1, vP2, vP3, kP, vChain, evO, evOs, getR, vTup, vLst, lNil, lCons, lStar, mNil, mCons, vCall, vCallD, vFld, vProp, tvV, kB, tvNot, tvAnd, tvOr, vNot, vAnd, vOr, vIf, iSeq, iTp,
  vAppend, vIndexT, vCut, evP, vDnew, vMake, Rv.d, Rv.sl, restE, wipeE, tvYes, List.getElem?_cons_zero, List.getElem?_cons_succ, List.set_cons_zero, List.set_cons_succ, true_and, and_true, Bool.not_true, Bool.not_false, List.append_nil, decide_true, decide_false, List.getD_cons_zero, List.getD_cons_succ]
  refine p_longest_tail (s := [0]) (a := -1) rwO_ok.nx min_one ?_
  have e1 : opEq (.tup [.int (0 - -1), stD [0]]) (.tup [.int 1, .tup [.int 0]]) = some (.sh (.bl true)) := by
    have a : pl2 (.tup [.int (0 - -1), stD [0]]) (.tup [.int 1, .tup [.int 0]]) = true := by decide +kernel
    have b : eqb (.tup [.int (0 - -1), stD [0]]) (.tup [.int 1, .tup [.int 0]]) = true := by decide +kernel
    unfold opEq
    rw [if_pos a, b]
  simp only [fnV, env0, List.map_cons, List.map_nil, List.length_cons, List.length_nil, List.replicate, List.cons_append, List.nil_append, Nat.zero_add, Nat.reduceAdd, Nat.reduceSub, Nat.sub_self,
  sNil, sSeq, sBreak, sCont, sExpr, sRet, sRetN, sIf, sSet, sAsg, sPar2, sPar3, sFor, sSetIdx, sSetFld, gN, gT, setAll, vC, vVar, vMove, vP1, vP2, vP3, kP, vChain, evO, evOs, getR, vTup, vLst, lNil, lCons, lStar, mNil, mCons, vCall, vCallD, vFld, vProp, tvV, kB, tvNot, tvAnd, tvOr, vNot, vAnd, vOr, vIf, iSeq, iTp,
  vAppend, vIndexT, vCut, evP, vDnew, vMake, Rv.d, Rv.sl, restE, wipeE, tvYes, List.getElem?_cons_zero, List.getElem?_cons_succ, List.set_cons_zero, List.set_cons_succ, true_and, and_true, Bool.not_true, Bool.not_false, List.append_nil, decide_true, decide_false, List.getD_cons_zero, List.getD_cons_succ, e1]
  refine ⟨by decide, by decide, ?_⟩
  simp only [fnV, env0, List.map_cons, List.map_nil, List.length_cons, List.length_nil, List.replicate, List.cons_append, List.nil_append, Nat.zero_add, Nat.reduceAdd, Nat.reduceSub, Nat.sub_self,
  sNil, sSeq, sBreak, sCont, sExpr, sRet, sRetN, sIf, sSet, sAsg, sPar2, sPar3, sFor, sSetIdx, sSetFld, gN, gT, setAll, vC, vVar, vMove, vP1, vP2, vP3, kP, vChain, evO, evOs, getR, vTup, vLst, lNil, lCons, lStar, mNil, mCons, vCall, vCallD, vFld, vProp, tvV, kB, tvNot, tvAnd, tvOr, vNot, vAnd, vOr, vIf, iSeq, iTp,
  vAppend, vIndexT, vCut, evP, vDnew, vMake, Rv.d, Rv.sl, restE, wipeE, tvYes, List.getElem?_cons_zero, List.getElem?_cons_succ, List.set_cons_zero, List.set_cons_succ, true_and, and_true, Bool.not_true, Bool.not_false, List.append_nil, decide_true, decide_false, List.getD_cons_zero, List.getD_cons_succ, vEqO]
  refine ⟨by decide, by decide, by decide, ?_⟩
  refine p_Net_init (rows := rwF) (m := 2) rwF_ok ?_
  refine ⟨rfl, rfl, eq_four ?_⟩
  exact h
theorem sRet_eq (w : WE) (k : K4) (env : Ev) : sRet w k env = w env fun r _ => k.rt r := rfl
theorem min_seg {n : Nat} (hn : n ≤ 63) {x2 : Sl} {K : List D → Ev → Prop} (h : ∀ items, K items [.sh (.scr n), .sh .tape, x2, .no, .no, .no, .no]) : iRange1 (lCons (vP2 opAdd (.e (vC (.int 3))) (.e (vP2 opMin2 (.e (vScrLen n 0)) (.e (vC (.int 7)))))) lNil) [.sh (.scr n), .sh .tape, x2, .no, .no, .no, .no] K := by
  simp only [fnV, env0, List.map_cons, List.map_nil, List.length_cons, List.length_nil, List.replicate, List.cons_append, List.nil_append, Nat.zero_add, Nat.reduceAdd, Nat.reduceSub, Nat.sub_self,
  sNil, sSeq, sBreak, sCont, sExpr, sRet, sRetN, sIf, sSet, sAsg, sPar2, sPar3, sFor, sSetIdx, sSetFld, gN, gT, setAll, vC, vVar, vMove, vP1, vP2, vP3, kP, vChain, evO, evOs, getR, vTup, vLst, lNil, lCons, lStar, mNil, mCons, vCall, vCallD, vFld, vProp, tvV, kB, tvNot, tvAnd, tvOr, vNot, vAnd, vOr, vIf, iSeq, iTp,
  vAppend, vIndexT, vCut, evP, vDnew, vMake, Rv.d, Rv.sl, restE, wipeE, tvYes, List.getElem?_cons_zero, List.getElem?_cons_succ, List.set_cons_zero, List.set_cons_succ, true_and, and_true, Bool.not_true, Bool.not_false, List.append_nil, decide_true, decide_false, List.getD_cons_zero, List.getD_cons_succ, vScrLen, opMin2, opAdd_int, iRange1]
  refine ⟨⟨?_, ?_⟩, h _⟩
  · split <;> omega
  · split <;> omega
theorem two_seg {n : Nat} {x2 x3 : Sl} {k : K4} (h : k.nx [.sh (.scr n), .sh .tape, x2, x3, .ow fourD, .ow twoD, .no]) : sPar2 4 5 (mCons (vCall 1 f__law_made (lCons (vCall 0 f__law_four lNil) lNil)) (mCons (vMake 1 f_Net_init (lCons (vLst (lCons (vTup (lCons (vC (.int 1)) (lCons (vC (.int 0)) (lCons (vC (.int 1)) (lCons (vC (.int 0)) lNil))))) (lCons (vTup (lCons (vC (.int 1)) (lCons (vC (.int 1)) (lCons (vC (.int 0)) (lCons (vC (.int 0)) lNil))))) lNil))) lNil)) mNil)) k [.sh (.scr n), .sh .tape, x2, x3, .no, .no, .no] := by
  simp only [fnV, env0, List.map_cons, List.map_nil, List.length_cons, List.length_nil, List.replicate, List.cons_append, List.nil_append, Nat.zero_add, Nat.reduceAdd, Nat.reduceSub, Nat.sub_self,
  sNil, sSeq, sBreak, sCont, sExpr, sRet, sRetN, sIf, sSet, sAsg, sPar2, sPar3, sFor, sSetIdx, sSetFld, gN, gT, setAll, vC, vVar, vMove, vP1, vP2, vP3, kP, vChain, evO, evOs, getR, vTup, vLst, lNil, lCons, lStar, mNil, mCons, vCall, vCallD, vFld, vProp, tvV, kB, tvNot, tvAnd, tvOr, vNot, vAnd, vOr, vIf, iSeq, iTp,
  vAppend, vIndexT, vCut, evP, vDnew, vMake, Rv.d, Rv.sl, restE, wipeE, tvYes, List.getElem?_cons_zero, List.getElem?_cons_succ, List.set_cons_zero, List.set_cons_succ, true_and, and_true, Bool.not_true, Bool.not_false, List.append_nil, decide_true, decide_false, List.getD_cons_zero, List.getD_cons_succ]
  refine p__law_four ?_
  simp only [fnV, env0, List.map_cons, List.map_nil, List.length_cons, List.length_nil, List.replicate, List.cons_append, List.nil_append, Nat.zero_add, Nat.reduceAdd, Nat.reduceSub, Nat.sub_self,
  sNil, sSeq, sBreak, sCont, sExpr, sRet, sRetN, sIf, sSet, sAsg, sPar2, sPar3, sFor, sSetIdx, sSetFld, gN, gT, setAll, vC, vVar, vMove, vP1, vP2, vP3, kP, vChain, evO, evOs, getR, vTup, vLst, lNil, lCons, lStar, mNil, mCons, vCall, vCallD, vFld, vProp, tvV, kB, tvNot, tvAnd, tvOr, vNot, vAnd, vOr, vIf, iSeq, iTp,
  vAppend, vIndexT, vCut, evP, vDnew, vMake, Rv.d, Rv.sl, restE, wipeE, tvYes, List.getElem?_cons_zero, List.getElem?_cons_succ, List.set_cons_zero, List.set_cons_succ, true_and, and_true, Bool.not_true, Bool.not_false, List.append_nil, decide_true, decide_false, List.getD_cons_zero, List.getD_cons_succ]
  refine p__law_made nx4_ok ?_
  simp only [fnV, env0, List.map_cons, List.map_nil, List.length_cons, List.length_nil, List.replicate, List.cons_append, List.nil_append, Nat.zero_add, Nat.reduceAdd, Nat.reduceSub, Nat.sub_self,
  sNil, sSeq, sBreak, sCont, sExpr, sRet, sRetN, sIf, sSet, sAsg, sPar2, sPar3, sFor, sSetIdx, sSetFld, gN, gT, setAll, vC, vVar, vMove, vP1, vP2, vP3, kP, vChain, evO, evOs, getR, vTup, vLst, lNil, lCons, lStar, mNil, mCons, vCall, vCallD, vFld, vProp, tvV, kB, tvNot, tvAnd, tvOr, vNot, vAnd, vOr, vIf, iSeq, iTp,
  vAppend, vIndexT, vCut, evP, vDnew, vMake, Rv.d, Rv.sl, restE, wipeE, tvYes, List.getElem?_cons_zero, List.getElem?_cons_succ, List.set_cons_zero, List.set_cons_succ, true_and, and_true, Bool.not_true, Bool.not_false, List.append_nil, decide_true, decide_false, List.getD_cons_zero, List.getD_cons_succ]
  refine ⟨by decide, by decide, by decide, ?_⟩
  refine p_Net_init (rows := rwT) (m := 2) rwT_ok ?_
  exact h
theorem if_seg2 {n : Nat} {x2 x3 : Sl} {k : K4} {w : WS} (h : k.nx [.sh (.scr n), .sh .tape, x2, x3, .sh fourD, .sh twoD, .no]) : sIf (tvOr (tvV (vP2 opNe (.e (vCall 2 f_beat_run (lCons (vVar 5) (lCons (vTup (lCons (vC (.int 0)) (lCons (vC (.int 0)) lNil))) lNil)))) (.e (vTup (lCons (vTup lNil) (lCons (vTup (lCons (vTup (lCons (vC (.int 0)) (lCons (vC (.int 0)) lNil))) (lCons (vTup (lCons (vC (.int 1)) (lCons (vC (.int 1)) lNil))) lNil))) lNil)))))) (tvOr (tvV (vP2 opNe (.e (vCall 3 f_after (lCons (vVar 4) (lCons (vTup (lCons (vC (.int 0)) (lCons (vC (.int 0)) lNil))) (lCons (vP2 opSub (.e (vP2 opPow (.e (vC (.int 10))) (.e (vC (.int 18))))) (.e (vC (.int 1)))) lNil))))) (.e (vTup (lCons (vC (.int 0)) (lCons (vC (.int 1)) lNil)))))) (tvV (vP2 opNe (.e (vCall 3 f_beat_time (lCons (vVar 4) (lCons (vTup (lCons (vC (.int 0)) (lCons (vC (.int 1)) lNil))) (lCons (vTup (lCons (vC (.int 1)) (lCons (vC (.int 1)) lNil))) lNil))))) (.e (vC (.int 3))))))) w sNil k [.sh (.scr n), .sh .tape, x2, x3, .ow fourD, .ow twoD, .no] := by
  simp only [fnV, env0, List.map_cons, List.map_nil, List.length_cons, List.length_nil, List.replicate, List.cons_append, List.nil_append, Nat.zero_add, Nat.reduceAdd, Nat.reduceSub, Nat.sub_self,
  sNil, sSeq, sBreak, sCont, sExpr, sRet, sRetN, sIf, sSet, sAsg, sPar2, sPar3, sFor, sSetIdx, sSetFld, gN, gT, setAll, vC, vVar, vMove, vP1, vP2, vP3, kP, vChain, evO, evOs, getR, vTup, vLst, lNil, lCons, lStar, mNil, mCons, vCall, vCallD, vFld, vProp, tvV, kB, tvNot, tvAnd, tvOr, vNot, vAnd, vOr, vIf, iSeq, iTp,
  vAppend, vIndexT, vCut, evP, vDnew, vMake, Rv.d, Rv.sl, restE, wipeE, tvYes, List.getElem?_cons_zero, List.getElem?_cons_succ, List.set_cons_zero, List.set_cons_succ, true_and, and_true, Bool.not_true, Bool.not_false, List.append_nil, decide_true, decide_false, List.getD_cons_zero, List.getD_cons_succ]
  refine ⟨by decide, ?_⟩
  refine p_beat_run (R := rwT.map stD) (m := 2) (nx := nxR 2 rwT) (s := [0, 0]) rwT_ok.nx (by decide) ?_
  rw [tr_two]
  have e1 : opNe (trkD ([], [[0, 0], [1, 1]])) (.tup [.tup [], .tup [.tup [.int 0, .int 0], .tup [.int 1, .int 1]]]) = some (.sh (.bl false)) := opNe_trk ([], [[0, 0], [1, 1]])
  simp only [fnV, env0, List.map_cons, List.map_nil, List.length_cons, List.length_nil, List.replicate, List.cons_append, List.nil_append, Nat.zero_add, Nat.reduceAdd, Nat.reduceSub, Nat.sub_self,
  sNil, sSeq, sBreak, sCont, sExpr, sRet, sRetN, sIf, sSet, sAsg, sPar2, sPar3, sFor, sSetIdx, sSetFld, gN, gT, setAll, vC, vVar, vMove, vP1, vP2, vP3, kP, vChain, evO, evOs, getR, vTup, vLst, lNil, lCons, lStar, mNil, mCons, vCall, vCallD, vFld, vProp, tvV, kB, tvNot, tvAnd, tvOr, vNot, vAnd, vOr, vIf, iSeq, iTp,
  vAppend, vIndexT, vCut, evP, vDnew, vMake, Rv.d, Rv.sl, restE, wipeE, tvYes, List.getElem?_cons_zero, List.getElem?_cons_succ, List.set_cons_zero, List.set_cons_succ, true_and, and_true, Bool.not_true, Bool.not_false, List.append_nil, decide_true, decide_false, List.getD_cons_zero, List.getD_cons_succ, e1]
  refine ⟨by decide, by decide, by decide, by decide, by decide, ?_⟩
  simp only [fnV, env0, List.map_cons, List.map_nil, List.length_cons, List.length_nil, List.replicate, List.cons_append, List.nil_append, Nat.zero_add, Nat.reduceAdd, Nat.reduceSub, Nat.sub_self,
  sNil, sSeq, sBreak, sCont, sExpr, sRet, sRetN, sIf, sSet, sAsg, sPar2, sPar3, sFor, sSetIdx, sSetFld, gN, gT, setAll, vC, vVar, vMove, vP1, vP2, vP3, kP, vChain, evO, evOs, getR, vTup, vLst, lNil, lCons, lStar, mNil, mCons, vCall, vCallD, vFld, vProp, tvV, kB, tvNot, tvAnd, tvOr, vNot, vAnd, vOr, vIf, iSeq, iTp,
  vAppend, vIndexT, vCut, evP, vDnew, vMake, Rv.d, Rv.sl, restE, wipeE, tvYes, List.getElem?_cons_zero, List.getElem?_cons_succ, List.set_cons_zero, List.set_cons_succ, true_and, and_true, Bool.not_true, Bool.not_false, List.append_nil, decide_true, decide_false, List.getD_cons_zero, List.getD_cons_succ, pow18, opSub_int]
  refine ⟨by decide, ?_⟩
  refine p_after (R := (rowsOf 2 nx4).map stD) (m := 2) (nx := nx4) (s := [0, 0]) (t := 999999999999999999) (made_nt nx4_ok) (by decide) (by decide) (by decide) ?_
  rw [aft_four]
  have e2 : opNe (stD [0, 1]) (.tup [.int 0, .int 1]) = some (.sh (.bl false)) := opNe_st [0, 1]
  simp only [fnV, env0, List.map_cons, List.map_nil, List.length_cons, List.length_nil, List.replicate, List.cons_append, List.nil_append, Nat.zero_add, Nat.reduceAdd, Nat.reduceSub, Nat.sub_self,
  sNil, sSeq, sBreak, sCont, sExpr, sRet, sRetN, sIf, sSet, sAsg, sPar2, sPar3, sFor, sSetIdx, sSetFld, gN, gT, setAll, vC, vVar, vMove, vP1, vP2, vP3, kP, vChain, evO, evOs, getR, vTup, vLst, lNil, lCons, lStar, mNil, mCons, vCall, vCallD, vFld, vProp, tvV, kB, tvNot, tvAnd, tvOr, vNot, vAnd, vOr, vIf, iSeq, iTp,
  vAppend, vIndexT, vCut, evP, vDnew, vMake, Rv.d, Rv.sl, restE, wipeE, tvYes, List.getElem?_cons_zero, List.getElem?_cons_succ, List.set_cons_zero, List.set_cons_succ, true_and, and_true, Bool.not_true, Bool.not_false, List.append_nil, decide_true, decide_false, List.getD_cons_zero, List.getD_cons_succ, e2]
  refine ⟨by decide, by decide, by decide, ?_⟩
  refine p_beat_time (R := (rowsOf 2 nx4).map stD) (m := 2) (nx := nx4) (s := [0, 1]) (t := [1, 1]) (made_nt nx4_ok) (by decide) (by decide) ?_
  rw [tm_four]
  have e3 : opNe (.int 3) (.int 3) = some (.sh (.bl false)) := rfl
  simp only [fnV, env0, List.map_cons, List.map_nil, List.length_cons, List.length_nil, List.replicate, List.cons_append, List.nil_append, Nat.zero_add, Nat.reduceAdd, Nat.reduceSub, Nat.sub_self,
  sNil, sSeq, sBreak, sCont, sExpr, sRet, sRetN, sIf, sSet, sAsg, sPar2, sPar3, sFor, sSetIdx, sSetFld, gN, gT, setAll, vC, vVar, vMove, vP1, vP2, vP3, kP, vChain, evO, evOs, getR, vTup, vLst, lNil, lCons, lStar, mNil, mCons, vCall, vCallD, vFld, vProp, tvV, kB, tvNot, tvAnd, tvOr, vNot, vAnd, vOr, vIf, iSeq, iTp,
  vAppend, vIndexT, vCut, evP, vDnew, vMake, Rv.d, Rv.sl, restE, wipeE, tvYes, List.getElem?_cons_zero, List.getElem?_cons_succ, List.set_cons_zero, List.set_cons_succ, true_and, and_true, Bool.not_true, Bool.not_false, List.append_nil, decide_true, decide_false, List.getD_cons_zero, List.getD_cons_succ, e3]
  exact h
theorem law_true : LawTrue := by
  intro n hn
  unfold w_law
  rw [sSeq_eq, sFor_eq]
  refine ⟨rfl, p__law_small_nets fun L hL => ?_⟩
  refine small_loop (r := [.no, .no, .no, .no]) L .no hL fun x2 => ?_
  simp only []
  rw [sSeq_eq, sFor_eq]
  refine min_seg hn fun items => ?_
  refine laps_loop items _ _ fun x2 x3 => ?_
  simp only []
  rw [sSeq_eq]
  refine two_seg ?_
  simp only []
  rw [sSeq_eq]
  refine if_seg2 ?_
  simp only []
  rw [sRet_eq]
  exact last_seg (k := { nx := fun _ => False, rt := fun r => r = .sh (.bl true) }) (K := fun r => r = .sh (.bl true)) rfl
end K77
end
section
set_option autoImplicit false
set_option linter.all false
set_option maxRecDepth 100000
set_option maxHeartbeats 0
set_option Elab.async false
namespace K77
open PySem PySem.Spec PyProof.Rows L2 PV
def D_is_number : He5.DefA := ⟨fun K => (He.ga K "is_number"), "is_number", "is_number", defArgs s_is_number, defBody s_is_number, defScope s_is_number, [], []⟩
def D_is_between : He5.DefA := ⟨fun K => (He.ga K "is_between"), "is_between", "is_between", defArgs s_is_between, defBody s_is_between, defScope s_is_between, [], []⟩
def D_is_list : He5.DefA := ⟨fun K => (He.ga K "is_list"), "is_list", "is_list", defArgs s_is_list, defBody s_is_list, defScope s_is_list, [], []⟩
def D_is_tuple_of : He5.DefA := ⟨fun K => (He.ga K "is_tuple_of"), "is_tuple_of", "is_tuple_of", defArgs s_is_tuple_of, defBody s_is_tuple_of, defScope s_is_tuple_of, [], []⟩
def D_all_states : He5.DefA := ⟨fun K => (He.ga K "all_states"), "all_states", "all_states", defArgs s_all_states, defBody s_all_states, defScope s_all_states, [], []⟩
def D_states_many : He5.DefA := ⟨fun K => (He.ga K "states_many"), "states_many", "states_many", defArgs s_states_many, defBody s_states_many, defScope s_states_many, [], []⟩
def D_need_rules : He5.DefA := ⟨fun K => (He.ga K "need_rules"), "need_rules", "need_rules", defArgs s_need_rules, defBody s_need_rules, defScope s_need_rules, [], []⟩
def D_Net_init : He5.DefA := ⟨fun K => (He.ma K (He.ga K "Net") "__init__"), "__init__", "Net.__init__", defArgs s_Net_init, defBody s_Net_init, defScope s_Net_init, [], []⟩
def D_Net_switches : He5.DefA := ⟨fun K => (getA K (He.ga K "Net") "switches"), "switches", "Net.switches", defArgs s_Net_switches, defBody s_Net_switches, defScope s_Net_switches, [], []⟩
def D_Net_rules : He5.DefA := ⟨fun K => (getA K (He.ga K "Net") "rules"), "rules", "Net.rules", defArgs s_Net_rules, defBody s_Net_rules, defScope s_Net_rules, [], []⟩
def D_Net_eq : He5.DefA := ⟨fun K => (He.ma K (He.ga K "Net") "__eq__"), "__eq__", "Net.__eq__", defArgs s_Net_eq, defBody s_Net_eq, defScope s_Net_eq, [], []⟩
def D_need_net : He5.DefA := ⟨fun K => (He.ga K "need_net"), "need_net", "need_net", defArgs s_need_net, defBody s_need_net, defScope s_need_net, [.non], []⟩
def D_is_state : He5.DefA := ⟨fun K => (He.ga K "is_state"), "is_state", "is_state", defArgs s_is_state, defBody s_is_state, defScope s_is_state, [], []⟩
def D_need_state : He5.DefA := ⟨fun K => (He.ga K "need_state"), "need_state", "need_state", defArgs s_need_state, defBody s_need_state, defScope s_need_state, [], []⟩
def D_need_net_state : He5.DefA := ⟨fun K => (He.ga K "need_net_state"), "need_net_state", "need_net_state", defArgs s_need_net_state, defBody s_need_net_state, defScope s_need_net_state, [], []⟩
def D_next_by : He5.DefA := ⟨fun K => (He.ga K "next_by"), "next_by", "next_by", defArgs s_next_by, defBody s_next_by, defScope s_next_by, [], []⟩
def D_next_state : He5.DefA := ⟨fun K => (He.ga K "next_state"), "next_state", "next_state", defArgs s_next_state, defBody s_next_state, defScope s_next_state, [], []⟩
def D_beat_track : He5.DefA := ⟨fun K => (He.ga K "beat_track"), "beat_track", "beat_track", defArgs s_beat_track, defBody s_beat_track, defScope s_beat_track, [], []⟩
def D_beat_run : He5.DefA := ⟨fun K => (He.ga K "beat_run"), "beat_run", "beat_run", defArgs s_beat_run, defBody s_beat_run, defScope s_beat_run, [], []⟩
def D_state_after : He5.DefA := ⟨fun K => (He.ga K "state_after"), "state_after", "state_after", defArgs s_state_after, defBody s_state_after, defScope s_state_after, [], []⟩
def D_need_times : He5.DefA := ⟨fun K => (He.ga K "need_times"), "need_times", "need_times", defArgs s_need_times, defBody s_need_times, defScope s_need_times, [], []⟩
def D_after : He5.DefA := ⟨fun K => (He.ga K "after"), "after", "after", defArgs s_after, defBody s_after, defScope s_after, [], []⟩
def D_need_two_states : He5.DefA := ⟨fun K => (He.ga K "need_two_states"), "need_two_states", "need_two_states", defArgs s_need_two_states, defBody s_need_two_states, defScope s_need_two_states, [], []⟩
def D_time_by : He5.DefA := ⟨fun K => (He.ga K "time_by"), "time_by", "time_by", defArgs s_time_by, defBody s_time_by, defScope s_time_by, [], []⟩
def D_beat_time : He5.DefA := ⟨fun K => (He.ga K "beat_time"), "beat_time", "beat_time", defArgs s_beat_time, defBody s_beat_time, defScope s_beat_time, [], []⟩
def D_longest_tail : He5.DefA := ⟨fun K => (He.ga K "longest_tail"), "longest_tail", "longest_tail", defArgs s_longest_tail, defBody s_longest_tail, defScope s_longest_tail, [], []⟩
def D__law_begun : He5.DefA := ⟨fun K => (He.ga K "_law_begun"), "_law_begun", "_law_begun", defArgs s__law_begun, defBody s__law_begun, defScope s__law_begun, [], []⟩
def D__law_blend : He5.DefA := ⟨fun K => (He.ga K "_law_blend"), "_law_blend", "_law_blend", defArgs s__law_blend, defBody s__law_blend, defScope s__law_blend, [], []⟩
def D__law_draw : He5.DefA := ⟨fun K => (He.ga K "_law_draw"), "_law_draw", "_law_draw", defArgs s__law_draw, defBody s__law_draw, defScope s__law_draw, [], []⟩
def D__law_pick : He5.DefA := ⟨fun K => (He.ga K "_law_pick"), "_law_pick", "_law_pick", defArgs s__law_pick, defBody s__law_pick, defScope s__law_pick, [], []⟩
def D__law_shuffled : He5.DefA := ⟨fun K => (He.ga K "_law_shuffled"), "_law_shuffled", "_law_shuffled", defArgs s__law_shuffled, defBody s__law_shuffled, defScope s__law_shuffled, [], []⟩
def D__law_power : He5.DefA := ⟨fun K => (He.ga K "_law_power"), "_law_power", "_law_power", defArgs s__law_power, defBody s__law_power, defScope s__law_power, [], []⟩
def D__law_states : He5.DefA := ⟨fun K => (He.ga K "_law_states"), "_law_states", "_law_states", defArgs s__law_states, defBody s__law_states, defScope s__law_states, [], []⟩
def D__law_net : He5.DefA := ⟨fun K => (He.ga K "_law_net"), "_law_net", "_law_net", defArgs s__law_net, defBody s__law_net, defScope s__law_net, [], []⟩
def D__law_made : He5.DefA := ⟨fun K => (He.ga K "_law_made"), "_law_made", "_law_made", defArgs s__law_made, defBody s__law_made, defScope s__law_made, [], []⟩
def D__law_small_nets : He5.DefA := ⟨fun K => (He.ga K "_law_small_nets"), "_law_small_nets", "_law_small_nets", defArgs s__law_small_nets, defBody s__law_small_nets, defScope s__law_small_nets, [], []⟩
def D__law_run : He5.DefA := ⟨fun K => (He.ga K "_law_run"), "_law_run", "_law_run", defArgs s__law_run, defBody s__law_run, defScope s__law_run, [], []⟩
def D__law_four : He5.DefA := ⟨fun K => (He.ga K "_law_four"), "_law_four", "_law_four", defArgs s__law_four, defBody s__law_four, defScope s__law_four, [], []⟩
def D__law_net_right : He5.DefA := ⟨fun K => (He.ga K "_law_net_right"), "_law_net_right", "_law_net_right", defArgs s__law_net_right, defBody s__law_net_right, defScope s__law_net_right, [], []⟩
def D_law : He5.DefA := ⟨fun K => (He.ga K "law"), "law", "law", defArgs s_law, defBody s_law, defScope s_law, [], []⟩
def fa0 : List He.Fa := [.free "abs", .free "all", .free "bool", .free "dict", .free "enumerate", .free "int", .free "isinstance", .free "len", .free "list", .free "min", .free "range", .free "sorted", .free "tuple", .free "zip", .int "MOST_SWITCHES" 5, .int "MOST_TIMES" 1000000000000000000, .glo "Net", .cls "Net", .noat "Net" "own_nexts", .noat "Net" "own_rules", .mkr "Net", .glo "is_number", .glo "is_between", .glo "is_list", .glo "is_tuple_of", .glo "all_states", .glo "states_many", .glo "need_rules", .glo "need_net", .glo "is_state"]
def fa1 : List He.Fa := [.glo "need_state", .glo "need_net_state", .glo "next_by", .glo "next_state", .glo "beat_track", .glo "beat_run", .glo "state_after", .glo "need_times", .glo "after", .glo "need_two_states", .glo "time_by", .glo "beat_time", .glo "longest_tail", .glo "_law_begun", .glo "_law_blend", .glo "_law_draw", .glo "_law_pick", .glo "_law_shuffled", .glo "_law_power", .glo "_law_states", .glo "_law_net", .glo "_law_made", .glo "_law_small_nets", .glo "_law_run", .glo "_law_four", .glo "_law_net_right", .glo "law"]
def fa : List He.Fa := fa0 ++ fa1
def fn0 : List He5.DefA := [D_is_number, D_is_between, D_is_list, D_is_tuple_of, D_all_states, D_states_many, D_need_rules, D_Net_init, D_Net_switches, D_Net_rules, D_Net_eq, D_need_net, D_is_state, D_need_state, D_need_net_state, D_next_by, D_next_state, D_beat_track, D_beat_run, D_state_after, D_need_times, D_after, D_need_two_states, D_time_by, D_beat_time, D_longest_tail, D__law_begun, D__law_blend, D__law_draw, D__law_pick]
def fn1 : List He5.DefA := [D__law_shuffled, D__law_power, D__law_states, D__law_net, D__law_made, D__law_small_nets, D__law_run, D__law_four, D__law_net_right, D_law]
def fn : List He5.DefA := fn0 ++ fn1
def ex (K : PySem.W.Frag) : Bool := propB K (He.ga K "Net") "switches" && (propB K (He.ga K "Net") "rules" && (ownB K (He.ga K "Net") && (decide (PySem.W.findIn K (.ref (He.ga K "Net")) "__eq__" = some (some (.ref (He.ma K (He.ga K "Net") "__eq__")))) && (PySem.W.isFn K (.ref (He.ma K (He.ga K "Net") "__eq__"))))))
def loose0 : List PySem.Str := ["__name__", "NetError", "PartError", "ItemError", "BadNumber", "NoNet", "BadRules", "BadState", "is_number", "is_between", "is_list", "is_tuple_of", "MOST_SWITCHES", "all_states", "states_many", "need_rules", "Net", "need_net", "is_state", "need_state", "need_net_state", "next_by", "next_state", "MOST_TIMES", "beat_track", "beat_run", "state_after", "need_times", "after", "need_two_states"]
def loose1 : List PySem.Str := ["time_by", "beat_time", "longest_tail", "_law_begun", "_law_blend", "_law_draw", "_law_pick", "_law_shuffled", "_law_power", "_law_states", "_law_net", "_law_made", "_law_small_nets", "_law_run", "_law_four", "_law_net_right"]
def loose : List PySem.Str := loose0 ++ loose1
abbrev R : PySem.W.OpenRow := PySem.W.OpenLaw.row PySem.Challenge.rw_looksrests_k77_whole_beats_followed_far
abbrev hk : PySem.W.Hook := hookP 9 fa fn ex
def ob (s : PySem.W.SharedT) : AlP := obsPG 9 fa fn ex (HandSHeadRun.getT s)
theorem ob_eq (s : PySem.W.SharedT) : ob s = hk.obs s.abs := obsPG_eq (HandSHeadRun.getT_eq s)
theorem run (w : World) : HandSHeadRun.RunEq R (PySem.W.view R.prog [50]) hk ob 6000 loose w := by
  intro os
  kernel_rfl
theorem md {K : PySem.W.Frag} {h : Heap} {mg : Str → Option Value} (X : K.In h) (G : h.Ns mainGlobals mg) (c : SaysP fa fn ex K) : Nonempty (Md K mg) := by
  obtain ⟨d_is_number, F_is_number⟩ := c.a.def_ 0 (d := D_is_number) rfl
  obtain ⟨d_is_between, F_is_between⟩ := c.a.def_ 1 (d := D_is_between) rfl
  obtain ⟨d_is_list, F_is_list⟩ := c.a.def_ 2 (d := D_is_list) rfl
  obtain ⟨d_is_tuple_of, F_is_tuple_of⟩ := c.a.def_ 3 (d := D_is_tuple_of) rfl
  obtain ⟨d_all_states, F_all_states⟩ := c.a.def_ 4 (d := D_all_states) rfl
  obtain ⟨d_states_many, F_states_many⟩ := c.a.def_ 5 (d := D_states_many) rfl
  obtain ⟨d_need_rules, F_need_rules⟩ := c.a.def_ 6 (d := D_need_rules) rfl
  obtain ⟨d_Net_init, F_Net_init⟩ := c.a.def_ 7 (d := D_Net_init) rfl
  obtain ⟨d_Net_switches, F_Net_switches⟩ := c.a.def_ 8 (d := D_Net_switches) rfl
  obtain ⟨d_Net_rules, F_Net_rules⟩ := c.a.def_ 9 (d := D_Net_rules) rfl
  obtain ⟨d_Net_eq, F_Net_eq⟩ := c.a.def_ 10 (d := D_Net_eq) rfl
  obtain ⟨d_need_net, F_need_net⟩ := c.a.def_ 11 (d := D_need_net) rfl
  obtain ⟨d_is_state, F_is_state⟩ := c.a.def_ 12 (d := D_is_state) rfl
  obtain ⟨d_need_state, F_need_state⟩ := c.a.def_ 13 (d := D_need_state) rfl
  obtain ⟨d_need_net_state, F_need_net_state⟩ := c.a.def_ 14 (d := D_need_net_state) rfl
  obtain ⟨d_next_by, F_next_by⟩ := c.a.def_ 15 (d := D_next_by) rfl
  obtain ⟨d_next_state, F_next_state⟩ := c.a.def_ 16 (d := D_next_state) rfl
  obtain ⟨d_beat_track, F_beat_track⟩ := c.a.def_ 17 (d := D_beat_track) rfl
  obtain ⟨d_beat_run, F_beat_run⟩ := c.a.def_ 18 (d := D_beat_run) rfl
  obtain ⟨d_state_after, F_state_after⟩ := c.a.def_ 19 (d := D_state_after) rfl
  obtain ⟨d_need_times, F_need_times⟩ := c.a.def_ 20 (d := D_need_times) rfl
  obtain ⟨d_after, F_after⟩ := c.a.def_ 21 (d := D_after) rfl
  obtain ⟨d_need_two_states, F_need_two_states⟩ := c.a.def_ 22 (d := D_need_two_states) rfl
  obtain ⟨d_time_by, F_time_by⟩ := c.a.def_ 23 (d := D_time_by) rfl
  obtain ⟨d_beat_time, F_beat_time⟩ := c.a.def_ 24 (d := D_beat_time) rfl
  obtain ⟨d_longest_tail, F_longest_tail⟩ := c.a.def_ 25 (d := D_longest_tail) rfl
  obtain ⟨d__law_begun, F__law_begun⟩ := c.a.def_ 26 (d := D__law_begun) rfl
  obtain ⟨d__law_blend, F__law_blend⟩ := c.a.def_ 27 (d := D__law_blend) rfl
  obtain ⟨d__law_draw, F__law_draw⟩ := c.a.def_ 28 (d := D__law_draw) rfl
  obtain ⟨d__law_pick, F__law_pick⟩ := c.a.def_ 29 (d := D__law_pick) rfl
  obtain ⟨d__law_shuffled, F__law_shuffled⟩ := c.a.def_ 30 (d := D__law_shuffled) rfl
  obtain ⟨d__law_power, F__law_power⟩ := c.a.def_ 31 (d := D__law_power) rfl
  obtain ⟨d__law_states, F__law_states⟩ := c.a.def_ 32 (d := D__law_states) rfl
  obtain ⟨d__law_net, F__law_net⟩ := c.a.def_ 33 (d := D__law_net) rfl
  obtain ⟨d__law_made, F__law_made⟩ := c.a.def_ 34 (d := D__law_made) rfl
  obtain ⟨d__law_small_nets, F__law_small_nets⟩ := c.a.def_ 35 (d := D__law_small_nets) rfl
  obtain ⟨d__law_run, F__law_run⟩ := c.a.def_ 36 (d := D__law_run) rfl
  obtain ⟨d__law_four, F__law_four⟩ := c.a.def_ 37 (d := D__law_four) rfl
  obtain ⟨d__law_net_right, F__law_net_right⟩ := c.a.def_ 38 (d := D__law_net_right) rfl
  obtain ⟨d_law, F_law⟩ := c.a.def_ 39 (d := D_law) rfl
  have x := c.ex
  unfold ex at x
  obtain ⟨x0, x⟩ := He.ba x
  obtain ⟨x1, x⟩ := He.ba x
  obtain ⟨x2, x⟩ := He.ba x
  obtain ⟨x3, x⟩ := He.ba x
  have x4 := x
  refine ⟨?_⟩
  exact {
    z_abs := He.free_ok X G (c.a.fact 0 (f := .free "abs") rfl)
    z_all := He.free_ok X G (c.a.fact 1 (f := .free "all") rfl)
    z_bool := He.free_ok X G (c.a.fact 2 (f := .free "bool") rfl)
    z_dict := He.free_ok X G (c.a.fact 3 (f := .free "dict") rfl)
    z_enumerate := He.free_ok X G (c.a.fact 4 (f := .free "enumerate") rfl)
    z_int := He.free_ok X G (c.a.fact 5 (f := .free "int") rfl)
    z_isinstance := He.free_ok X G (c.a.fact 6 (f := .free "isinstance") rfl)
    z_len := He.free_ok X G (c.a.fact 7 (f := .free "len") rfl)
    z_list := He.free_ok X G (c.a.fact 8 (f := .free "list") rfl)
    z_min := He.free_ok X G (c.a.fact 9 (f := .free "min") rfl)
    z_range := He.free_ok X G (c.a.fact 10 (f := .free "range") rfl)
    z_sorted := He.free_ok X G (c.a.fact 11 (f := .free "sorted") rfl)
    z_tuple := He.free_ok X G (c.a.fact 12 (f := .free "tuple") rfl)
    z_zip := He.free_ok X G (c.a.fact 13 (f := .free "zip") rfl)
    c_MOST_SWITCHES := c_of X G (c.a.fact 14 (f := .int "MOST_SWITCHES" 5) rfl)
    c_MOST_TIMES := c_of X G (c.a.fact 15 (f := .int "MOST_TIMES" 1000000000000000000) rfl)
    g_Net := He.glo_ok X G (c.a.fact 16 (f := .glo "Net") rfl)
    cl := He.cls_ok (c.a.fact 17 (f := .cls "Net") rfl)
    n_own_nexts := He.noat_ok (c.a.fact 18 (f := .noat "Net" "own_nexts") rfl)
    n_own_rules := He.noat_ok (c.a.fact 19 (f := .noat "Net" "own_rules") rfl)
    mkc := He.mkr_ok (c.a.fact 20 (f := .mkr "Net") rfl)
    g_is_number := He.glo_ok X G (c.a.fact 21 (f := .glo "is_number") rfl)
    d_is_number := d_is_number
    F_is_number := F_is_number
    g_is_between := He.glo_ok X G (c.a.fact 22 (f := .glo "is_between") rfl)
    d_is_between := d_is_between
    F_is_between := F_is_between
    g_is_list := He.glo_ok X G (c.a.fact 23 (f := .glo "is_list") rfl)
    d_is_list := d_is_list
    F_is_list := F_is_list
    g_is_tuple_of := He.glo_ok X G (c.a.fact 24 (f := .glo "is_tuple_of") rfl)
    d_is_tuple_of := d_is_tuple_of
    F_is_tuple_of := F_is_tuple_of
    g_all_states := He.glo_ok X G (c.a.fact 25 (f := .glo "all_states") rfl)
    d_all_states := d_all_states
    F_all_states := F_all_states
    g_states_many := He.glo_ok X G (c.a.fact 26 (f := .glo "states_many") rfl)
    d_states_many := d_states_many
    F_states_many := F_states_many
    g_need_rules := He.glo_ok X G (c.a.fact 27 (f := .glo "need_rules") rfl)
    d_need_rules := d_need_rules
    F_need_rules := F_need_rules
    d_Net_init := d_Net_init
    F_Net_init := F_Net_init
    d_Net_switches := d_Net_switches
    F_Net_switches := F_Net_switches
    d_Net_rules := d_Net_rules
    F_Net_rules := F_Net_rules
    d_Net_eq := d_Net_eq
    F_Net_eq := F_Net_eq
    g_need_net := He.glo_ok X G (c.a.fact 28 (f := .glo "need_net") rfl)
    d_need_net := d_need_net
    F_need_net := F_need_net
    g_is_state := He.glo_ok X G (c.a.fact 29 (f := .glo "is_state") rfl)
    d_is_state := d_is_state
    F_is_state := F_is_state
    g_need_state := He.glo_ok X G (c.a.fact 30 (f := .glo "need_state") rfl)
    d_need_state := d_need_state
    F_need_state := F_need_state
    g_need_net_state := He.glo_ok X G (c.a.fact 31 (f := .glo "need_net_state") rfl)
    d_need_net_state := d_need_net_state
    F_need_net_state := F_need_net_state
    g_next_by := He.glo_ok X G (c.a.fact 32 (f := .glo "next_by") rfl)
    d_next_by := d_next_by
    F_next_by := F_next_by
    g_next_state := He.glo_ok X G (c.a.fact 33 (f := .glo "next_state") rfl)
    d_next_state := d_next_state
    F_next_state := F_next_state
    g_beat_track := He.glo_ok X G (c.a.fact 34 (f := .glo "beat_track") rfl)
    d_beat_track := d_beat_track
    F_beat_track := F_beat_track
    g_beat_run := He.glo_ok X G (c.a.fact 35 (f := .glo "beat_run") rfl)
    d_beat_run := d_beat_run
    F_beat_run := F_beat_run
    g_state_after := He.glo_ok X G (c.a.fact 36 (f := .glo "state_after") rfl)
    d_state_after := d_state_after
    F_state_after := F_state_after
    g_need_times := He.glo_ok X G (c.a.fact 37 (f := .glo "need_times") rfl)
    d_need_times := d_need_times
    F_need_times := F_need_times
    g_after := He.glo_ok X G (c.a.fact 38 (f := .glo "after") rfl)
    d_after := d_after
    F_after := F_after
    g_need_two_states := He.glo_ok X G (c.a.fact 39 (f := .glo "need_two_states") rfl)
    d_need_two_states := d_need_two_states
    F_need_two_states := F_need_two_states
    g_time_by := He.glo_ok X G (c.a.fact 40 (f := .glo "time_by") rfl)
    d_time_by := d_time_by
    F_time_by := F_time_by
    g_beat_time := He.glo_ok X G (c.a.fact 41 (f := .glo "beat_time") rfl)
    d_beat_time := d_beat_time
    F_beat_time := F_beat_time
    g_longest_tail := He.glo_ok X G (c.a.fact 42 (f := .glo "longest_tail") rfl)
    d_longest_tail := d_longest_tail
    F_longest_tail := F_longest_tail
    g__law_begun := He.glo_ok X G (c.a.fact 43 (f := .glo "_law_begun") rfl)
    d__law_begun := d__law_begun
    F__law_begun := F__law_begun
    g__law_blend := He.glo_ok X G (c.a.fact 44 (f := .glo "_law_blend") rfl)
    d__law_blend := d__law_blend
    F__law_blend := F__law_blend
    g__law_draw := He.glo_ok X G (c.a.fact 45 (f := .glo "_law_draw") rfl)
    d__law_draw := d__law_draw
    F__law_draw := F__law_draw
    g__law_pick := He.glo_ok X G (c.a.fact 46 (f := .glo "_law_pick") rfl)
    d__law_pick := d__law_pick
    F__law_pick := F__law_pick
    g__law_shuffled := He.glo_ok X G (c.a.fact 47 (f := .glo "_law_shuffled") rfl)
    d__law_shuffled := d__law_shuffled
    F__law_shuffled := F__law_shuffled
    g__law_power := He.glo_ok X G (c.a.fact 48 (f := .glo "_law_power") rfl)
    d__law_power := d__law_power
    F__law_power := F__law_power
    g__law_states := He.glo_ok X G (c.a.fact 49 (f := .glo "_law_states") rfl)
    d__law_states := d__law_states
    F__law_states := F__law_states
    g__law_net := He.glo_ok X G (c.a.fact 50 (f := .glo "_law_net") rfl)
    d__law_net := d__law_net
    F__law_net := F__law_net
    g__law_made := He.glo_ok X G (c.a.fact 51 (f := .glo "_law_made") rfl)
    d__law_made := d__law_made
    F__law_made := F__law_made
    g__law_small_nets := He.glo_ok X G (c.a.fact 52 (f := .glo "_law_small_nets") rfl)
    d__law_small_nets := d__law_small_nets
    F__law_small_nets := F__law_small_nets
    g__law_run := He.glo_ok X G (c.a.fact 53 (f := .glo "_law_run") rfl)
    d__law_run := d__law_run
    F__law_run := F__law_run
    g__law_four := He.glo_ok X G (c.a.fact 54 (f := .glo "_law_four") rfl)
    d__law_four := d__law_four
    F__law_four := F__law_four
    g__law_net_right := He.glo_ok X G (c.a.fact 55 (f := .glo "_law_net_right") rfl)
    d__law_net_right := d__law_net_right
    F__law_net_right := F__law_net_right
    g_law := He.glo_ok X G (c.a.fact 56 (f := .glo "law") rfl)
    d_law := d_law
    F_law := F_law
    p_switches := x0
    p_rules := x1
    o_cls := x2
    e_eq := of_decide_eq_true x3
    e_fn := x4 }
end K77
open PySem PySem.W PySem.Calls PyProof.Rows
theorem K77_head (LT : K77.LawTrue) : PySem.Challenge.rw_looksrests_k77_whole_beats_followed_far.Holds := by
  w_on; o_law
  refine HandSHeadRun.head_any (r := OpenLaw.row PySem.Challenge.rw_looksrests_k77_whole_beats_followed_far) (q := view (OpenLaw.row PySem.Challenge.rw_looksrests_k77_whole_beats_followed_far).prog [50]) (H := K77.hk) (ob := K77.ob) (M := 6000) (loose := K77.loose) (d := HandSHeadRun.topDef (OpenLaw.row PySem.Challenge.rw_looksrests_k77_whole_beats_followed_far).prog 50) (kwd := []) K77.ob_eq
    (by kernel_rfl) (fun s => by kernel_rfl) K77.run (by kernel_rfl) (by kernel_rfl) (by kernel_rfl) (by rfl) (by first | assumption | decide +kernel) (by decide +kernel) ⟨rfl, rfl, rfl, rfl, rfl, by decide +kernel⟩ ?hw ?hc
  case hw => w_witness2
  case hc =>
    refine L2.walk_ofE (l := PySem.Challenge.rw_looksrests_k77_whole_beats_followed_far) (n := 63) (k := 9) (x := "script") (CX := L2.CX0) rfl (by decide) (by kernel_rfl) ⟨rfl, by decide, by decide⟩ ?F (fun _ _ _ _ z => z)
    intro w mg fa h Y G hmg0
    obtain ⟨K, KX, c⟩ := Y
    have hmg : mg ("law" : PySem.Str) = some (.ref fa) := by
      have e : (HandSHeadRun.topDef (OpenLaw.row PySem.Challenge.rw_looksrests_k77_whole_beats_followed_far).prog 50).name = ("law" : PySem.Str) := by kernel_rfl
      rw [← e]
      exact hmg0
    obtain ⟨M⟩ := K77.md KX G c
    have e := hmg.symm.trans M.g_law
    cases e
    have b := L2.FunD.bindsA (ps := ["script"]) M.F_law fun _ _ _ _ _ _ us hl => match us, hl with | [_], _ => rfl
    exact ⟨K, M.d_law, K77.spLaw K, KX, fun s v => b s [v] rfl, fun H a ns hl _ hS => ⟨a, ns, rfl, hS, hl, fun _ => rfl⟩, fun base _ _ => K77.ok_law M LT⟩
end
theorem PySem.Challenge.cw_looksrests_k77_whole_beats_followed_far_holds : PySem.Challenge.rw_looksrests_k77_whole_beats_followed_far.Holds :=
  K77_head K77.law_true
