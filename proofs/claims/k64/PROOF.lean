import PyProof.Rows.All
import Wide.All
import OpenK.AllK
import Wide.FinOn
import HandS.ForMost
import HandS.ForExc
import HandS.HeadHook1
import HandS.HeadHook2
import HandS.ExcInit
import HandS.TupAny
import HandS.Flow
import HandS.More
import HandS.Deep
import HandS.Defaults
import HandS.WordsExc
import KE.KUnpackStar
import HandS.TryOnly
import HandS.Walk
import HandS.Zip
import HandS.Text
import HandS.IsInst
import HandS.RaiseMore
import HandS.FStr
import HandS.Small
import HandS.Set
import HandS.IterVal
import HandS.HeadHook3
import HandS.SortKw
import KE.GoesZip
import KE.GoesMore
import KE.GoesEnumKw
import HandS.Head0
import HandS.Head1
import HandS.Head2
import HandS.HeadEnd
import KE.KStateDown
import KE.KExcInit
import HandS.ExcField
import HandS.Codes
import HandS.TryMany
import KE.KExcIs
import HandS.ExcIs
import HandS.HotCalls
import PySem.Challenge.RW_hodman_k64_refusals_apart
set_option Elab.async false
set_option linter.all false
set_option maxRecDepth 100000
set_option maxHeartbeats 2000000
/-! Hm: plain data D over the hand layer. -/
namespace Hm
open PySem PySem.Spec L2

/-- plain data: obj is a thing of the top by its name, ref a cell of the store -/
inductive D where
  | non | bl (b : Bool) | int (i : Int) | str (s : Str) | ty (n : String) | obj (x : Str)
  | tup (ds : List D) | lst (ds : List D) | scr (ds : List D) | dct (kvs : List (Key × D)) | ref (k : Nat)

mutual
inductive Rep (K : PySem.W.Frag) (F : Hp) (R : List Addr) : D → V → Prop
  | non : Rep K F R .non .non
  | bl (b : Bool) : Rep K F R (.bl b) (.bl b)
  | int (i : Int) : Rep K F R (.int i) (.int i)
  | str (s : Str) : Rep K F R (.str s) (.str s)
  | ty (n : String) : Rep K F R (.ty n) (.ty n)
  | obj (x : Str) : Rep K F R (.obj x) (.ref (He.ga K x))
  | tup {a : Addr} {vs : List V} {ds : List D} : SqT K F a vs → Reps K F R ds vs → Rep K F R (.tup ds) (.ref a)
  | lst {a : Addr} {vs : List V} {ds : List D} : F a = some (.lst vs) → Reps K F R ds vs → Rep K F R (.lst ds) (.ref a)
  | scr {a : Addr} {vs : List V} {ds : List D} : SqL K F a vs → Reps K F R ds vs → Rep K F R (.scr ds) (.ref a)
  | dct {a : Addr} {ks : List (Key × V)} {ds : List (Key × D)} : Rd F a (.dK ks) → RepK K F R ds ks → Rep K F R (.dct ds) (.ref a)
  | ref {k : Nat} {a : Addr} : R[k]? = some a → Rep K F R (.ref k) (.ref a)
inductive Reps (K : PySem.W.Frag) (F : Hp) (R : List Addr) : List D → List V → Prop
  | nil : Reps K F R [] []
  | cons {d : D} {v : V} {ds : List D} {vs : List V} : Rep K F R d v → Reps K F R ds vs → Reps K F R (d :: ds) (v :: vs)
inductive RepK (K : PySem.W.Frag) (F : Hp) (R : List Addr) : List (Key × D) → List (Key × V) → Prop
  | nil : RepK K F R [] []
  | cons {k : Key} {d : D} {v : V} {ds : List (Key × D)} {vs : List (Key × V)} : Rep K F R d v → RepK K F R ds vs → RepK K F R ((k, d) :: ds) ((k, v) :: vs)
end

/-- the known part grows; a dict in it may be locked -/
structure Le (F : Hp) (R : List Addr) (F' : Hp) (R' : List Addr) : Prop where
  f : ∀ a o, F a = some o → F' a = some o ∨ ∃ ks ob, o = .dK ks ∧ F' a = some (.frz ob (.dK ks))
  r : ∀ (k : Nat) (a : Addr), R[k]? = some a → R'[k]? = some a
theorem Le.refl {F : Hp} {R : List Addr} : Le F R F R := ⟨fun _ _ h => .inl h, fun _ _ h => h⟩
theorem Le.trans {F F1 F2 : Hp} {R R1 R2 : List Addr} (a : Le F R F1 R1) (b : Le F1 R1 F2 R2) : Le F R F2 R2 :=
  ⟨fun x o h => by
    rcases a.f x o h with h1 | ⟨ks, ob, l, h1⟩
    · exact b.f x o h1
    · rcases b.f x _ h1 with h2 | ⟨ls, o2, m, _⟩
      · exact .inr ⟨ks, ob, l, h2⟩
      · exact HO.noConfusion m, fun k x h => b.r k x (a.r k x h)⟩
theorem Le.at_ {F F' : Hp} {R R' : List Addr} (h : Le F R F' R') {a : Addr} {o : HO} (e : F a = some o) (n : ∀ ks, o ≠ .dK ks) : F' a = some o := by
  rcases h.f a o e with q | ⟨ks, _, l, _⟩
  · exact q
  · exact (n ks l).elim
theorem Le.none_of {F F' : Hp} {R R' : List Addr} (h : Le F R F' R') {a : Addr} (e : F' a = none) : F a = none := by
  cases q : F a with
  | none => rfl
  | some o =>
    rcases h.f a o q with z | ⟨_, _, _, z⟩
    · rw [z] at e; cases e
    · rw [z] at e; cases e
theorem lk_lst {xs : List V} : ∀ ks, HO.lst xs ≠ .dK ks := fun ks h => by cases h
theorem lk_tup {xs : List V} : ∀ ks, HO.tup xs ≠ .dK ks := fun ks h => by cases h
theorem lk_frz {ob : Obj} {u : HO} : ∀ ks, HO.frz ob u ≠ .dK ks := fun ks h => by cases h
theorem rd_lst {F F' : Hp} {R R' : List Addr} (h : Le F R F' R') {a : Addr} {xs : List V} (r : Rd F a (.lst xs)) : Rd F' a (.lst xs) := by
  rcases r with r | ⟨o, r⟩
  · exact .inl (h.at_ r lk_lst)
  · exact .inr ⟨o, h.at_ r lk_frz⟩
theorem rd_tup {F F' : Hp} {R R' : List Addr} (h : Le F R F' R') {a : Addr} {xs : List V} (r : Rd F a (.tup xs)) : Rd F' a (.tup xs) := by
  rcases r with r | ⟨o, r⟩
  · exact .inl (h.at_ r lk_tup)
  · exact .inr ⟨o, h.at_ r lk_frz⟩
theorem rd_dk {F F' : Hp} {R R' : List Addr} (h : Le F R F' R') {a : Addr} {ks : List (Key × V)} (r : Rd F a (.dK ks)) : Rd F' a (.dK ks) := by
  rcases r with r | ⟨o, r⟩
  · rcases h.f a _ r with q | ⟨ls, ob, e, q⟩
    · exact .inl q
    · cases e
      exact .inr ⟨ob, q⟩
  · exact .inr ⟨o, h.at_ r lk_frz⟩
theorem sqL_mono {K : PySem.W.Frag} {F F' : Hp} {R R' : List Addr} (h : Le F R F' R') {a : Addr} {xs : List V} (r : SqL K F a xs) : SqL K F' a xs := r.imp (rd_lst h) id
theorem sqT_mono {K : PySem.W.Frag} {F F' : Hp} {R R' : List Addr} (h : Le F R F' R') {a : Addr} {xs : List V} (r : SqT K F a xs) : SqT K F' a xs := r.imp (rd_tup h) id
theorem rd_same {F H : Hp} (h : ∀ a o, F a = some o → H a = some o) {a : Addr} {u : HO} (r : Rd F a u) : Rd H a u := by
  rcases r with r | ⟨o, r⟩
  · exact .inl (h _ _ r)
  · exact .inr ⟨o, h _ _ r⟩
theorem sqL_same {K : PySem.W.Frag} {F H : Hp} (h : ∀ a o, F a = some o → H a = some o) {a : Addr} {xs : List V} (r : SqL K F a xs) : SqL K H a xs := r.imp (rd_same h) id
theorem sqT_same {K : PySem.W.Frag} {F H : Hp} (h : ∀ a o, F a = some o → H a = some o) {a : Addr} {xs : List V} (r : SqT K F a xs) : SqT K H a xs := r.imp (rd_same h) id

section
variable {K : PySem.W.Frag} {F F' : Hp} {R R' : List Addr}
mutual
theorem Rep.mono (h : Le F R F' R') : ∀ (d : D) (v : V), Rep K F R d v → Rep K F' R' d v
  | .non, _, r => by cases r; exact .non
  | .bl b, _, r => by cases r; exact .bl b
  | .int i, _, r => by cases r; exact .int i
  | .str s, _, r => by cases r; exact .str s
  | .ty s, _, r => by cases r; exact .ty s
  | .obj s, _, r => by cases r; exact .obj s
  | .tup ds, _, r => by cases r with | tup h1 h2 => exact .tup (sqT_mono h h1) (Reps.mono h ds _ h2)
  | .lst ds, _, r => by cases r with | lst h1 h2 => exact .lst (h.at_ h1 lk_lst) (Reps.mono h ds _ h2)
  | .scr ds, _, r => by cases r with | scr h1 h2 => exact .scr (sqL_mono h h1) (Reps.mono h ds _ h2)
  | .dct ds, _, r => by cases r with | dct h1 h2 => exact .dct (rd_dk h h1) (RepK.mono h ds _ h2)
  | .ref k, _, r => by cases r with | ref h1 => exact .ref (h.r _ _ h1)
theorem Reps.mono (h : Le F R F' R') : ∀ (ds : List D) (vs : List V), Reps K F R ds vs → Reps K F' R' ds vs
  | [], _, r => by cases r; exact .nil
  | d :: ds, _, r => by cases r with | cons h1 h2 => exact .cons (Rep.mono h d _ h1) (Reps.mono h ds _ h2)
theorem RepK.mono (h : Le F R F' R') : ∀ (ds : List (Key × D)) (vs : List (Key × V)), RepK K F R ds vs → RepK K F' R' ds vs
  | [], _, r => by cases r; exact .nil
  | (k, d) :: ds, _, r => by cases r with | cons h1 h2 => exact .cons (Rep.mono h d _ h1) (RepK.mono h ds _ h2)
end
theorem Reps.length : ∀ {ds : List D} {vs : List V}, Reps K F R ds vs → ds.length = vs.length
  | _, _, .nil => rfl
  | _, _, .cons _ t => congrArg (· + 1) (Reps.length t)
theorem Reps.get : ∀ {ds : List D} {vs : List V} {i : Nat} {v : V}, Reps K F R ds vs → vs[i]? = some v → ∃ d, ds[i]? = some d ∧ Rep K F R d v
  | _, _, _, _, .nil, e => by simp at e
  | _, _, 0, _, .cons r _, e => by simp at e; subst e; exact ⟨_, rfl, r⟩
  | _, _, i + 1, _, .cons _ t, e => by
    obtain ⟨d, h1, h2⟩ := Reps.get (i := i) t (by simpa using e)
    exact ⟨d, by simpa using h1, h2⟩
theorem Reps.getD : ∀ {ds : List D} {vs : List V} {i : Nat} {d : D}, Reps K F R ds vs → ds[i]? = some d → ∃ v, vs[i]? = some v ∧ Rep K F R d v
  | _, _, _, _, .nil, e => by simp at e
  | _, _, 0, _, .cons r _, e => by simp at e; subst e; exact ⟨_, rfl, r⟩
  | _, _, i + 1, _, .cons _ t, e => by
    obtain ⟨d, h1, h2⟩ := Reps.getD (i := i) t (by simpa using e)
    exact ⟨d, by simpa using h1, h2⟩
theorem Reps.append : ∀ {ds es : List D} {vs us : List V}, Reps K F R ds vs → Reps K F R es us → Reps K F R (ds ++ es) (vs ++ us)
  | _, _, _, _, .nil, h => h
  | _, _, _, _, .cons r t, h => .cons r (Reps.append t h)
theorem Reps.take : ∀ {ds : List D} {vs : List V} (n : Nat), Reps K F R ds vs → Reps K F R (ds.take n) (vs.take n)
  | _, _, 0, _ => by simp; exact .nil
  | _, _, _ + 1, .nil => .nil
  | _, _, n + 1, .cons r t => .cons r (Reps.take n t)
theorem Reps.drop : ∀ {ds : List D} {vs : List V} (n : Nat), Reps K F R ds vs → Reps K F R (ds.drop n) (vs.drop n)
  | _, _, 0, h => h
  | _, _, _ + 1, .nil => .nil
  | _, _, n + 1, .cons _ t => Reps.drop n t
theorem Reps.dropLast {ds : List D} {vs : List V} (h : Reps K F R ds vs) : Reps K F R ds.dropLast vs.dropLast := by
  rw [List.dropLast_eq_take, List.dropLast_eq_take, ← h.length]
  exact h.take _
theorem Reps.set : ∀ {ds : List D} {vs : List V} {d : D} {v : V} (i : Nat), Reps K F R ds vs → Rep K F R d v → Reps K F R (ds.set i d) (vs.set i v)
  | _, _, _, _, _, .nil, _ => .nil
  | _, _, _, _, 0, .cons _ t, r => .cons r t
  | _, _, _, _, i + 1, .cons q t, r => .cons q (Reps.set i t r)
theorem Reps.reverse : ∀ {ds : List D} {vs : List V}, Reps K F R ds vs → Reps K F R ds.reverse vs.reverse
  | _, _, .nil => .nil
  | _, _, .cons r t => by
    rw [List.reverse_cons, List.reverse_cons]
    exact (Reps.reverse t).append (.cons r .nil)
theorem Reps.eraseIdx : ∀ {ds : List D} {vs : List V} (i : Nat), Reps K F R ds vs → Reps K F R (ds.eraseIdx i) (vs.eraseIdx i)
  | _, _, _, .nil => .nil
  | _, _, 0, .cons _ t => t
  | _, _, i + 1, .cons q t => .cons q (Reps.eraseIdx i t)
theorem RepK.length : ∀ {ds : List (Key × D)} {vs : List (Key × V)}, RepK K F R ds vs → ds.length = vs.length
  | _, _, .nil => rfl
  | _, _, .cons _ t => congrArg (· + 1) (RepK.length t)
end

/-- fields of an instance, of an exception -/
inductive RepF (K : PySem.W.Frag) (F : Hp) (R : List Addr) : List (Str × D) → List (Str × V) → Prop
  | nil : RepF K F R [] []
  | cons {k : Str} {d : D} {v : V} {ds : List (Str × D)} {vs : List (Str × V)} : Rep K F R d v → RepF K F R ds vs → RepF K F R ((k, d) :: ds) ((k, v) :: vs)
theorem RepF.mono {K : PySem.W.Frag} {F F' : Hp} {R R' : List Addr} (h : Le F R F' R') : ∀ {ds : List (Str × D)} {vs : List (Str × V)}, RepF K F R ds vs → RepF K F' R' ds vs
  | _, _, .nil => .nil
  | _, _, .cons r t => .cons (r.mono h _ _) (RepF.mono h t)

/-- a value that was just made (own) or stands -/
inductive DV where
  | val (d : D) | ol (ds : List D) | od (kvs : List (Key × D))
def DV.frz : DV → D
  | .val d => d
  | .ol ds => .lst ds
  | .od kvs => .dct kvs
inductive Cell where
  | lst (ds : List D) | dct (kvs : List (Key × D)) | ins (c : Str) (fs : List (Str × D)) | exc (c : Str) (fs : List (Str × D))
abbrev Store := List Cell
abbrev Ev := List (Option DV)

def CellAt (K : PySem.W.Frag) (F : Hp) (R : List Addr) (H : Hp) (a : Addr) : Cell → Prop
  | .lst ds => ∃ vs, H a = some (.lst vs) ∧ Reps K F R ds vs
  | .dct kvs => ∃ ks, H a = some (.dK ks) ∧ RepK K F R kvs ks
  | .ins c fs => ∃ dx vfs, H a = some (.ins (He.ga K c) dx vfs) ∧ RepF K F R fs vfs
  | .exc c fs => ∃ dx vfs, H a = some (exo a (He.ga K c) (some dx)) ∧ F dx = some (exd dx vfs) ∧ RepF K F R fs vfs
theorem CellAt.mono {K : PySem.W.Frag} {F F' : Hp} {R R' : List Addr} {H H' : Hp} {a : Addr} (h : Le F R F' R') (e : H' a = H a) : ∀ {c : Cell}, CellAt K F R H a c → CellAt K F' R' H' a c
  | .lst ds, ⟨vs, h1, h2⟩ => ⟨vs, e.trans h1, h2.mono h _ _⟩
  | .dct kvs, ⟨ks, h1, h2⟩ => ⟨ks, e.trans h1, h2.mono h _ _⟩
  | .ins c fs, ⟨dx, vfs, h1, h2⟩ => ⟨dx, vfs, e.trans h1, h2.mono h⟩
  | .exc c fs, ⟨dx, vfs, h1, h2, h3⟩ => ⟨dx, vfs, e.trans h1, h.at_ h2 (fun _ z => by unfold exd at z; cases z), h3.mono h⟩
theorem CellAt.there {K : PySem.W.Frag} {F : Hp} {R : List Addr} {H : Hp} {a : Addr} : ∀ {c : Cell}, CellAt K F R H a c → ∃ o, H a = some o
  | .lst _, ⟨_, h, _⟩ => ⟨_, h⟩
  | .dct _, ⟨_, h, _⟩ => ⟨_, h⟩
  | .ins _ _, ⟨_, _, h, _⟩ => ⟨_, h⟩
  | .exc _ _, ⟨_, _, h, _⟩ => ⟨_, h⟩
/-- an own thing at a -/
def OwnAt (K : PySem.W.Frag) (F : Hp) (R : List Addr) (H : Hp) (a : Addr) : DV → Prop
  | .val _ => False
  | .ol ds => ∃ vs, H a = some (.lst vs) ∧ Reps K F R ds vs
  | .od kvs => ∃ ks, H a = some (.dK ks) ∧ RepK K F R kvs ks
theorem OwnAt.mono {K : PySem.W.Frag} {F F' : Hp} {R R' : List Addr} {H H' : Hp} {a : Addr} (h : Le F R F' R') (e : H' a = H a) : ∀ {c : DV}, OwnAt K F R H a c → OwnAt K F' R' H' a c
  | .val _, z => z
  | .ol ds, ⟨vs, h1, h2⟩ => ⟨vs, e.trans h1, h2.mono h _ _⟩
  | .od kvs, ⟨ks, h1, h2⟩ => ⟨ks, e.trans h1, h2.mono h _ _⟩
def DV.isOwn : DV → Bool
  | .val _ => false
  | _ => true
/-- the entry: its heap, what stood for ever, the cells -/
structure Ent where
  H : Hp
  F : Hp
  R : List Addr
/-- what a slot holds -/
def SlotAt (K : PySem.W.Frag) (En : Ent) (F : Hp) (R : List Addr) (H : Hp) (x : Option (Option V)) (dv : DV) : Prop := match dv with
  | .val d => ∃ v, x = some (some v) ∧ Rep K F R d v
  | dv => ∃ a, x = some (some (.ref a)) ∧ OwnAt K F R H a dv ∧ F a = none ∧ a ∉ R ∧ En.H a = none

/-- the address of an own slot -/
def OwnSlot (E : Ev) (σ : L2.St) (a : Addr) : Prop := ∃ (i : Nat) (dv : DV), E[i]? = some (some dv) ∧ dv.isOwn = true ∧ σ[i]? = some (some (.ref a))

/-- the state as plain data: En the entry, F what stands for ever, R where the cells are, E the slots, S the store -/
structure Rel (K : PySem.W.Frag) (En : Ent) (F : Hp) (R : List Addr) (E : Ev) (S : Store) (σ : L2.St) (H : Hp) : Prop where
  len : R.length = S.length
  frz : ∀ a o, F a = some o → H a = some o
  nodup : R.Nodup
  cell : ∀ (k : Nat) (c : Cell) (a : Addr), S[k]? = some c → R[k]? = some a → CellAt K F R H a c ∧ F a = none
  slot : ∀ (i : Nat) (dv : DV), E[i]? = some (some dv) → SlotAt K En F R H (σ[i]?) dv
  apart : ∀ (i j : Nat) (x y : DV) (a : Addr), E[i]? = some (some x) → E[j]? = some (some y) → x.isOwn = true → y.isOwn = true → σ[i]? = some (some (.ref a)) → σ[j]? = some (some (.ref a)) → i = j
  keep : ∀ a o, En.H a = some o → a ∉ R → F a = none → H a = some o
  nf : ∀ a o, En.H a = some o → En.F a = none → F a = none
  nr : ∀ a o, En.H a = some o → a ∈ R → a ∈ En.R
  elen : E.length = σ.length

/-- results -/
inductive Res (α : Type) where
  | ok (a : α) (S : Store) | ex (c : Str) (fs : List (Str × D)) (S : Store) | bad
abbrev M (α : Type) := Ev → Store → Res α

/-- a value that came of an expression -/
def Val (K : PySem.W.Frag) (En : Ent) (F : Hp) (R : List Addr) (E : Ev) (σ : L2.St) (H : Hp) (v : V) (dv : DV) : Prop := match dv with
  | .val d => Rep K F R d v
  | dv => ∃ a, v = .ref a ∧ OwnAt K F R H a dv ∧ F a = none ∧ a ∉ R ∧ En.H a = none ∧ ¬ OwnSlot E σ a

/-- the wish of an exception -/
def ExW (K : PySem.W.Frag) (En : Ent) (F : Hp) (R : List Addr) (E : Ev) (σ : L2.St) (W : WX) (c : Str) (fs : List (Str × D)) (S : Store) : Prop :=
  ∀ (F' : Hp) (R' : List Addr) (H' : Hp) (d : Addr) (vfs : List (Str × V)), Le F R F' R' → Rel K En F' R' E S σ H' → H' d = some (.xd vfs) → RepF K F' R' fs vfs → W (.ref (He.ga K c)) (some d) σ H'

/-- what must hold so that an expression's end is reached -/
def PostX (K : PySem.W.Frag) (En : Ent) (F : Hp) (R : List Addr) (E : Ev) (σ : L2.St) (W : WX) {α : Type} (ok : Hp → List Addr → Hp → α → Store → Prop) : Res α → Prop
  | .ok x S => ∀ (F' : Hp) (R' : List Addr) (H' : Hp), Le F R F' R' → Rel K En F' R' E S σ H' → ok F' R' H' x S
  | .ex c fs S => ExW K En F R E σ W c fs S
  | .bad => False
abbrev Post (K : PySem.W.Frag) (En : Ent) (F : Hp) (R : List Addr) (E : Ev) (σ : L2.St) (W : WX) (Q : VK) (r : Res DV) : Prop :=
  PostX K En F R E σ W (fun F' R' H' dv _ => ∀ v, Val K En F' R' E σ H' v dv → Q v H') r
def tD (K : PySem.W.Frag) (m : M DV) (W : WX) : TE := fun σ H Q => ∃ (En : Ent) (F : Hp) (R : List Addr) (E : Ev) (S : Store), Rel K En F R E S σ H ∧ Post K En F R E σ W Q (m E S)
/-- a test -/
def tT (K : PySem.W.Frag) (m : M Bool) (W : WX) : TT := fun σ H Q => ∃ (En : Ent) (F : Hp) (R : List Addr) (E : Ev) (S : Store), Rel K En F R E S σ H ∧ PostX K En F R E σ W (fun _ _ H' b _ => Q b H') (m E S)
/-- an argument list -/
def tA (K : PySem.W.Frag) (m : M (List D)) (W : WX) : TA := fun σ H Q => ∃ (En : Ent) (F : Hp) (R : List Addr) (E : Ev) (S : Store), Rel K En F R E S σ H ∧ PostX K En F R E σ W (fun F' R' H' ds _ => ∀ vs, Reps K F' R' ds vs → Q vs H') (m E S)

/-- the program, the world, the written part, the module's names, the base -/
structure Gs where
  P : Program
  w : World
  K : PySem.W.Frag
  mg : Str → Option Value
  base : Heap
/-- where an expression stands: in a def's body (or a comprehension's block) at level k, with the names N and the scope sc -/
structure CtxE (G : Gs) (k : Nat) (N : List Str) (sc : Scope) (X : Cx) : Prop where
  cP : X.prog = G.P
  cw : X.w = G.w
  cK : X.K = G.K
  cmg : X.mg = G.mg
  cbase : X.base = G.base
  cN : X.N = N
  csc : X.env.scope = sc
  cnd : N.Nodup
  ccalm : X.calm = true
  croom : Room k X.A

structure DE (G : Gs) (k : Nat) (N : List Str) (sc : Scope) (e : Expr) (m : M DV) : Prop where
  run : ∀ (X : Cx) (W : WX), CtxE G k N sc X → Takes X W → PE X e (tD G.K m W)
structure DT (G : Gs) (k : Nat) (N : List Str) (sc : Scope) (e : Expr) (m : M Bool) : Prop where
  run : ∀ (X : Cx) (W : WX), CtxE G k N sc X → Takes X W → PT X e (tT G.K m W)
structure DA (G : Gs) (k : Nat) (N : List Str) (sc : Scope) (es : List Expr) (m : M (List D)) : Prop where
  run : ∀ (X : Cx) (W : WX), CtxE G k N sc X → Takes X W → PA X es (tA G.K m W)

theorem pe_imp {X : Cx} {e : Expr} {t t' : TE} (h : PE X e t) (k : ∀ σ H Q, t' σ H Q → t σ H Q) : PE X e t' :=
  ⟨fun pins s σ H Q I q => h.run pins s σ H Q I (k σ H Q q)⟩
theorem pt_imp {X : Cx} {e : Expr} {t t' : TT} (h : PT X e t) (k : ∀ σ H Q, t' σ H Q → t σ H Q) : PT X e t' :=
  ⟨fun pins s σ H Q I q => h.run pins s σ H Q I (k σ H Q q)⟩
theorem pw_imp {X : Cx} {e : Expr} {t t' : TT} (h : PW X e t) (k : ∀ σ H Q, t' σ H Q → t σ H Q) : PW X e t' :=
  ⟨fun wh pins s σ H Q I q => h.run wh pins s σ H Q I (k σ H Q q)⟩
theorem pa_imp {X : Cx} {e : List Expr} {t t' : TA} (h : PA X e t) (k : ∀ σ H Q, t' σ H Q → t σ H Q) : PA X e t' :=
  ⟨fun pos pins s σ H Q I q => h.run pos pins s σ H Q I (k σ H Q q)⟩
theorem ps_imp {X : Cx} {e : Stmt} {t t' : TS} (h : PS X e t) (k : ∀ D σ H, t' D σ H → t D σ H) : PS X e t' :=
  ⟨fun pins s σ H D I q => h.run pins s σ H D I (k D σ H q)⟩
theorem pss_imp {X : Cx} {e : List Stmt} {t t' : TS} (h : PSs X e t) (k : ∀ D σ H, t' D σ H → t D σ H) : PSs X e t' :=
  ⟨fun pins s σ H D I q => h.run pins s σ H D I (k D σ H q)⟩

/-! ### the state's lemmas -/
section
variable {K : PySem.W.Frag} {En : Ent} {F F' : Hp} {R R' : List Addr} {E : Ev} {S S' : Store} {σ : L2.St} {H H' : Hp} {W : WX}
theorem Rel.cellOf (r : Rel K En F R E S σ H) {a : Addr} (h : a ∈ R) : ∃ (k : Nat) (c : Cell), R[k]? = some a ∧ S[k]? = some c ∧ CellAt K F R H a c ∧ F a = none := by
  obtain ⟨k, hk⟩ := List.mem_iff_getElem?.mp h
  have hl : k < R.length := (List.getElem?_eq_some_iff.mp hk).1
  have hs : k < S.length := by rw [← r.len]; exact hl
  have e : S[k]? = some S[k] := List.getElem?_eq_getElem hs
  exact ⟨k, S[k], hk, e, r.cell k _ a e hk⟩
theorem Rel.fresh (r : Rel K En F R E S σ H) {p : Addr} (h : H p = none) : F p = none ∧ p ∉ R ∧ En.H p = none ∧ ¬ OwnSlot E σ p := by
  have h1 : F p = none := by
    cases e : F p with
    | none => rfl
    | some o => rw [r.frz p o e] at h; cases h
  have h2 : p ∉ R := fun m => by
    obtain ⟨_, _, _, _, q, _⟩ := r.cellOf m
    obtain ⟨o, ho⟩ := q.there
    rw [ho] at h; cases h
  refine ⟨h1, h2, ?_, ?_⟩
  · cases e : En.H p with
    | none => rfl
    | some o => rw [r.keep p o e h2 h1] at h; cases h
  · rintro ⟨i, dv, e1, e2, e3⟩
    have q := r.slot i dv e1
    cases dv with
    | val d => cases e2
    | ol ds =>
      obtain ⟨a, ea, ⟨vs, ho, _⟩, _⟩ := q
      rw [e3] at ea
      cases ea
      rw [ho] at h; cases h
    | od ds =>
      obtain ⟨a, ea, ⟨vs, ho, _⟩, _⟩ := q
      rw [e3] at ea
      cases ea
      rw [ho] at h; cases h
theorem SlotAt.mono {H2 : Hp} {x : Option (Option V)} {dv : DV} (h : Le F R F' R') (q : SlotAt K En F R H x dv) (k : ∀ a, x = some (some (.ref a)) → dv.isOwn = true → F a = none → a ∉ R → En.H a = none → H2 a = H a ∧ F' a = none ∧ a ∉ R') : SlotAt K En F' R' H2 x dv := by
  cases dv with
  | val d =>
    obtain ⟨v, e, r⟩ := q
    exact ⟨v, e, r.mono h _ _⟩
  | ol ds =>
    obtain ⟨a, e, o, f1, f2, f3⟩ := q
    obtain ⟨k1, k2, k3⟩ := k a e rfl f1 f2 f3
    exact ⟨a, e, o.mono h k1, k2, k3, f3⟩
  | od ds =>
    obtain ⟨a, e, o, f1, f2, f3⟩ := q
    obtain ⟨k1, k2, k3⟩ := k a e rfl f1 f2 f3
    exact ⟨a, e, o.mono h k1, k2, k3, f3⟩
theorem ExW.mono {c : Str} {fs : List (Str × D)} (h : Le F R F' R') (x : ExW K En F R E σ W c fs S) : ExW K En F' R' E σ W c fs S :=
  fun F2 R2 H2 d vfs l rel hd rf => x F2 R2 H2 d vfs (h.trans l) rel hd rf
theorem PostX.mono {α : Type} {ok : Hp → List Addr → Hp → α → Store → Prop} (h : Le F R F' R') : ∀ {r : Res α}, PostX K En F R E σ W ok r → PostX K En F' R' E σ W ok r
  | .ok _ _, q => fun F2 R2 H2 l rel => q F2 R2 H2 (h.trans l) rel
  | .ex _ _ _, q => ExW.mono h q
  | .bad, q => q
/-- a new thing is laid -/
theorem Rel.laid (r : Rel K En F R E S σ H) {p : Addr} {o : HO} (hp : H p = none) : Rel K En F R E S σ (upd H p o) := by
  obtain ⟨h1, h2, h3, h4⟩ := r.fresh hp
  have ne : ∀ {a : Addr} {u : HO}, H a = some u → a ≠ p := fun {a u} e z => by rw [z, hp] at e; cases e
  refine ⟨r.len, fun a u e => ?_, r.nodup, fun k c a e1 e2 => ?_, fun i dv e => ?_, r.apart, fun a u e n f => ?_, r.nf, r.nr, r.elen⟩
  · rw [upd_ne (ne (r.frz a u e))]; exact r.frz a u e
  · obtain ⟨q, f⟩ := r.cell k c a e1 e2
    obtain ⟨u, hu⟩ := q.there
    exact ⟨q.mono Le.refl (upd_ne (ne hu)), f⟩
  · refine (r.slot i dv e).mono Le.refl fun a ea ow f1 f2 f3 => ⟨upd_ne fun z => h4 ⟨i, dv, e, ow, by rw [ea, z]⟩, f1, f2⟩
  · rw [upd_ne (ne (r.keep a u e n f))]; exact r.keep a u e n f
/-- what stands and is nobody's is known for ever -/
theorem Rel.freeze (r : Rel K En F R E S σ H) {p : Addr} {o : HO} (hp : H p = some o) (hF : F p = none) (hR : p ∉ R) (hE : En.H p = none) (hS : ¬ OwnSlot E σ p) : Le F R (upd F p o) R ∧ Rel K En (upd F p o) R E S σ H := by
  have le : Le F R (upd F p o) R := ⟨fun a u e => by
    rw [upd_ne (fun z => by rw [z, hF] at e; cases e)]; exact .inl e, fun _ _ e => e⟩
  refine ⟨le, r.len, fun a u e => ?_, r.nodup, fun k c a e1 e2 => ?_, fun i dv e => ?_, r.apart, fun a u e n f => r.keep a u e n (le.none_of f), fun a u e f => ?_, r.nr, r.elen⟩
  · by_cases z : a = p
    · subst z; rw [upd_same] at e; cases e; exact hp
    · rw [upd_ne z] at e; exact r.frz a u e
  · obtain ⟨q, f⟩ := r.cell k c a e1 e2
    refine ⟨q.mono le rfl, ?_⟩
    rw [upd_ne (fun z => hR (by rw [← z]; exact List.mem_of_getElem? e2))]; exact f
  · refine (r.slot i dv e).mono le fun a ea ow f1 f2 f3 => ⟨rfl, ?_, f2⟩
    rw [upd_ne (fun z => hS ⟨i, dv, e, ow, by rw [ea, z]⟩)]; exact f1
  · rw [upd_ne (fun z => by rw [z, hE] at e; cases e)]; exact r.nf a u e f
/-- a dict that stands for ever is locked -/
theorem Rel.lock (r : Rel K En F R E S σ H) {d : Addr} {ks : List (Key × V)} {od : Obj} (hF : F d = some (.dK ks)) : Le F R (upd F d (.frz od (.dK ks))) R ∧ Rel K En (upd F d (.frz od (.dK ks))) R E S σ (upd H d (.frz od (.dK ks))) := by
  have le : Le F R (upd F d (.frz od (.dK ks))) R := ⟨fun a u e => by
    by_cases z : a = d
    · subst z
      rw [hF] at e; cases e
      exact .inr ⟨ks, od, rfl, upd_same⟩
    · rw [upd_ne z]; exact .inl e, fun _ _ e => e⟩
  refine ⟨le, r.len, fun a u e => ?_, r.nodup, fun k c a e1 e2 => ?_, fun i dv e => ?_, r.apart, fun a u e n f => ?_, fun a u e f => ?_, r.nr, r.elen⟩
  · by_cases z : a = d
    · subst z; rw [upd_same] at e ⊢; exact e
    · rw [upd_ne z] at e ⊢; exact r.frz a u e
  · obtain ⟨q, f⟩ := r.cell k c a e1 e2
    have z : a ≠ d := fun z => by rw [z, hF] at f; cases f
    exact ⟨q.mono le (upd_ne z), by rw [upd_ne z]; exact f⟩
  · refine (r.slot i dv e).mono le fun a ea ow f1 f2 f3 => ?_
    have z : a ≠ d := fun z => by rw [z, hF] at f1; cases f1
    exact ⟨upd_ne z, by rw [upd_ne z]; exact f1, f2⟩
  · have z : a ≠ d := fun z => by rw [z, upd_same] at f; cases f
    rw [upd_ne z] at f ⊢
    exact r.keep a u e n f
  · have g := r.nf a u e f
    have z : a ≠ d := fun z => by rw [z, hF] at g; cases g
    rw [upd_ne z]; exact g
/-- a value is known for ever -/
theorem Val.freeze (r : Rel K En F R E S σ H) {v : V} {dv : DV} (q : Val K En F R E σ H v dv) : ∃ F', Le F R F' R ∧ Rel K En F' R E S σ H ∧ Rep K F' R dv.frz v := by
  cases dv with
  | val d => exact ⟨F, Le.refl, r, q⟩
  | ol ds =>
    obtain ⟨a, rfl, ⟨vs, ho, rs⟩, f1, f2, f3, f4⟩ := q
    obtain ⟨le, r'⟩ := r.freeze ho f1 f2 f3 f4
    exact ⟨_, le, r', .lst upd_same (rs.mono le _ _)⟩
  | od ds =>
    obtain ⟨a, rfl, ⟨vs, ho, rs⟩, f1, f2, f3, f4⟩ := q
    obtain ⟨le, r'⟩ := r.freeze ho f1 f2 f3 f4
    exact ⟨_, le, r', .dct (.inl upd_same) (rs.mono le _ _)⟩
end
end Hm
set_option Elab.async false
set_option linter.all false
set_option maxRecDepth 100000
set_option maxHeartbeats 2000000
namespace Hm
open PySem PySem.Spec L2

/-! ### sequencing -/
def bnd {α β : Type} (m : M α) (f : α → M β) : M β := fun E S => match m E S with
  | .ok a S1 => f a E S1
  | .ex c fs S1 => .ex c fs S1
  | .bad => .bad
/-- a result that the store decides -/
abbrev F1 := D → Store → Res DV
abbrev F2 := D → D → Store → Res DV
def mUn (f : F1) (a : M DV) : M DV := bnd a fun x _ S => f x.frz S
def mBin (f : F2) (a b : M DV) : M DV := bnd a fun x => bnd b fun y _ S => f x.frz y.frz S
def fine (d : D) (S : Store) : Res DV := .ok (.val d) S

section
variable {K : PySem.W.Frag} {En : Ent} {F F' : Hp} {R R' : List Addr} {E : Ev} {S S' : Store} {σ : L2.St} {H H' : Hp} {W : WX}
theorem post_bnd {α β : Type} {m : M α} {f : α → M β} {ok : Hp → List Addr → Hp → β → Store → Prop} (h : PostX K En F R E σ W ok (bnd m f E S)) :
    PostX K En F R E σ W (fun F1 R1 _ a S1 => PostX K En F1 R1 E σ W ok (f a E S1)) (m E S) := by
  unfold bnd at h
  cases e : m E S with
  | ok a S1 =>
    rw [e] at h
    exact fun F1 R1 H1 le _ => PostX.mono le h
  | ex c fs S1 => rw [e] at h; exact h
  | bad => rw [e] at h; exact h
theorem PostX.imp {α : Type} {ok ok' : Hp → List Addr → Hp → α → Store → Prop} : ∀ {r : Res α}, PostX K En F R E σ W ok r → (∀ F' R' H' a S', Le F R F' R' → Rel K En F' R' E S' σ H' → ok F' R' H' a S' → ok' F' R' H' a S') → PostX K En F R E σ W ok' r
  | .ok a S, h, k => fun F1 R1 H1 le rel => k F1 R1 H1 a S le rel (h F1 R1 H1 le rel)
  | .ex _ _ _, h, _ => h
  | .bad, h, _ => h
/-- one value, then what follows, with the value known for ever -/
theorem tD_then {α : Type} {m : M DV} {f : DV → M α} {ok : Hp → List Addr → Hp → α → Store → Prop} {k : V → Hp → Prop} (rel : Rel K En F R E S σ H) (h : PostX K En F R E σ W ok (bnd m f E S))
    (hk : ∀ F1 R1 H1 dv v S1, Le F R F1 R1 → Rel K En F1 R1 E S1 σ H1 → Rep K F1 R1 dv.frz v → PostX K En F1 R1 E σ W ok (f dv E S1) → k v H1) : tD K m W σ H k := by
  refine ⟨En, F, R, E, S, rel, (post_bnd h).imp fun F1 R1 H1 dv S1 le rel1 q v hv => ?_⟩
  obtain ⟨F2, le2, rel2, rp⟩ := hv.freeze rel1
  exact hk F2 R1 H1 dv v S1 (le.trans le2) rel2 rp (q.mono le2)
theorem Post.got {d : D} {Q : VK} (h : Post K En F R E σ W Q (fine d S)) (rel : Rel K En F R E S σ H) {v : V} (r : Rep K F R d v) : Q v H := h F R H Le.refl rel v r
/-- a new list (a dict) that is one's own -/
theorem Post.ol {ds : List D} {Q : VK} (h : Post K En F R E σ W Q (.ok (.ol ds) S)) (rel : Rel K En F R E S σ H) {vs : List V} (r : Reps K F R ds vs) {p : Addr} (hp : H p = none) : Q (.ref p) (upd H p (.lst vs)) := by
  obtain ⟨h1, h2, h3, h4⟩ := rel.fresh hp
  exact h F R _ Le.refl (rel.laid hp) _ ⟨p, rfl, ⟨vs, upd_same, r⟩, h1, h2, h3, h4⟩
theorem Post.od {ds : List (Key × D)} {Q : VK} (h : Post K En F R E σ W Q (.ok (.od ds) S)) (rel : Rel K En F R E S σ H) {vs : List (Key × V)} (r : RepK K F R ds vs) {p : Addr} (hp : H p = none) : Q (.ref p) (upd H p (.dK vs)) := by
  obtain ⟨h1, h2, h3, h4⟩ := rel.fresh hp
  exact h F R _ Le.refl (rel.laid hp) _ ⟨p, rfl, ⟨vs, upd_same, r⟩, h1, h2, h3, h4⟩
/-- a new thing that stands for ever -/
theorem Post.new {d : D} {Q : VK} (h : Post K En F R E σ W Q (fine d S)) (rel : Rel K En F R E S σ H) {p : Addr} {o : HO} (hp : H p = none) (r : Rep K (upd F p o) R d (.ref p)) : Q (.ref p) (upd H p o) := by
  obtain ⟨h1, h2, h3, h4⟩ := rel.fresh hp
  obtain ⟨le, rel2⟩ := (rel.laid (o := o) hp).freeze upd_same h1 h2 h3 h4
  exact h _ R _ le rel2 _ r
/-- a new tuple -/
theorem Post.tup {ds : List D} {Q : VK} (h : Post K En F R E σ W Q (fine (.tup ds) S)) (rel : Rel K En F R E S σ H) {vs : List V} (r : Reps K F R ds vs) {p : Addr} (hp : H p = none) : Q (.ref p) (upd H p (.tup vs)) := by
  obtain ⟨h1, h2, h3, h4⟩ := rel.fresh hp
  obtain ⟨le, _⟩ := (rel.laid (o := .tup vs) hp).freeze upd_same h1 h2 h3 h4
  exact h.new rel hp (.tup (.of upd_same) (r.mono le _ _))
end

/-! ### operations by values -/
/-- the reading r is met where f says how it goes -/
def Snd1 (K : PySem.W.Frag) (f : F1) (r : V → Hp → VK → Prop) : Prop :=
  ∀ (En : Ent) (F : Hp) (R : List Addr) (E : Ev) (S : Store) (σ : L2.St) (H : Hp) (W : WX) (Q : VK) (d : D) (x : V), Rel K En F R E S σ H → Rep K F R d x → Post K En F R E σ W Q (f d S) → r x H Q
def Snd2 (K : PySem.W.Frag) (f : F2) (r : R2) : Prop :=
  ∀ (En : Ent) (F : Hp) (R : List Addr) (E : Ev) (S : Store) (σ : L2.St) (H : Hp) (W : WX) (Q : VK) (d e : D) (x y : V), Rel K En F R E S σ H → Rep K F R d x → Rep K F R e y → Post K En F R E σ W Q (f d e S) → r x y H Q

section
variable {G : Gs} {k : Nat} {N : List Str} {sc : Scope} {a b c : Expr} {ma mb mc : M DV} {pos : Pos}
theorem two_of {K : PySem.W.Frag} {f : F2} {r : R2} {W : WX} {σ : L2.St} {H : Hp} {Q : VK} (hs : Snd2 K f r) (h : tD K (mBin f ma mb) W σ H Q) : tOp r (tD K ma W) (tD K mb W) σ H Q := by
  obtain ⟨En, F, R, E, S, rel, h⟩ := h
  refine tD_then rel h fun F1 R1 H1 dv v S1 le rel1 rp h1 => ?_
  refine tD_then rel1 h1 fun F2 R2 H2 dw w S2 le2 rel2 rq h2 => ?_
  exact hs En F2 R2 E S2 σ H2 W Q _ _ v w rel2 (rp.mono le2 _ _) rq h2
theorem de_bin {op : Operator} {f : F2} {r : R2} (hs : Snd2 G.K f r) (ho : ∀ X, CtxE G k N sc X → OpR X (binaryOp op) r) (ha : DE G k N sc a ma) (hb : DE G k N sc b mb) : DE G k N sc (.BinOp a op b pos) (mBin f ma mb) :=
  ⟨fun X W c tk => pe_imp (pe_op (ho X c) (ha.run X W c tk) (hb.run X W c tk)) fun σ H Q h => two_of hs h⟩
theorem de_cmp {op : CmpOp} {f : F2} {r : R2} (hs : Snd2 G.K f r) (ho : ∀ X, CtxE G k N sc X → OpR X (compareOp op) r) (ha : DE G k N sc a ma) (hb : DE G k N sc b mb) (hm : behindInMarks op b = false) : DE G k N sc (.Compare a [op] [b] pos) (mBin f ma mb) :=
  ⟨fun X W c tk => pe_imp (pe_cmpR (ho X c) (ha.run X W c tk) (hb.run X W c tk) hm) fun σ H Q h => two_of hs h⟩
/-- a Bool that is told -/
def mTst (m : M DV) : M Bool := bnd m fun x _ S => match x with
  | .val (.bl k) => .ok k S
  | _ => .bad
theorem tst_of {K : PySem.W.Frag} {m : M DV} {W : WX} {σ : L2.St} {H : Hp} {Q : Bool → Hp → Prop} (h : tT K (mTst m) W σ H Q) : tD K m W σ H fun x H' => ∃ k, x = .bl k ∧ Q k H' := by
  obtain ⟨En, F, R, E, S, rel, h⟩ := h
  refine ⟨En, F, R, E, S, rel, (post_bnd h).imp fun F1 R1 H1 dv S1 le rel1 q v hv => ?_⟩
  cases dv with
  | val d => cases d with
    | bl k =>
      cases hv
      exact ⟨k, rfl, q F1 R1 H1 Le.refl rel1⟩
    | _ => exact q.elim
  | _ => exact q.elim
theorem dt_cmp {op : CmpOp} {f : F2} {r : R2} (hs : Snd2 G.K f r) (ho : ∀ X, CtxE G k N sc X → OpR X (compareOp op) r) (ha : DE G k N sc a ma) (hb : DE G k N sc b mb) (hm : behindInMarks op b = false) : DT G k N sc (.Compare a [op] [b] pos) (mTst (mBin f ma mb)) :=
  ⟨fun X W c tk => pt_imp (pt_cmpR (ho X c) (ha.run X W c tk) (hb.run X W c tk) hm) fun σ H Q h => by
    obtain ⟨En, F, R, E, S, rel, h⟩ := tst_of h
    exact two_of hs ⟨En, F, R, E, S, rel, h⟩⟩

/-! ### names, constants -/
def mVar (i : Nat) : M DV := fun E S => match E[i]? with
  | some (some (.val d)) => .ok (.val d) S
  | _ => .bad
theorem de_name {x : Str} (i : Nat) (hN : N[i]? = some x := by rfl) (hv : Vis sc x := by first | exact Or.inl rfl | exact Or.inr (Or.inl rfl) | exact Or.inr (Or.inr rfl)) (hd : (x == ("__debug__" : Str)) = false := by decide)
    (hcd : (x == ("__classdict__" : Str)) = false := by decide) : DE G k N sc (.Name x pos) (mVar i) :=
  ⟨fun X W c tk => pe_imp (pe_var (i := i) (by rw [c.cN]; exact hN) (by rw [c.csc]; exact hv) hd hcd) fun σ H Q h => by
    obtain ⟨En, F, R, E, S, rel, h⟩ := h
    unfold mVar at h
    split at h
    · rename_i d e
      obtain ⟨v, e2, r⟩ := rel.slot i _ e
      exact ⟨v, e2, h F R H Le.refl rel v r⟩
    · exact h.elim⟩
def mK (d : D) : M DV := fun _ S => .ok (.val d) S
theorem tC_of {K : PySem.W.Frag} {d : D} {v : V} {W : WX} {σ : L2.St} {H : Hp} {Q : VK} (hr : ∀ F R, Rep K F R d v) (h : tD K (mK d) W σ H Q) : tC v σ H Q := by
  obtain ⟨En, F, R, E, S, rel, h⟩ := h
  exact h F R H Le.refl rel v (hr F R)
theorem de_int {i : Int} {j : Nat} : DE G k N sc (.Constant (.int i) j pos) (mK (.int i)) := ⟨fun X W c tk => pe_imp pe_int fun _ _ _ h => tC_of (fun _ _ => .int i) h⟩
theorem de_bl {i : Bool} {j : Nat} : DE G k N sc (.Constant (.bool i) j pos) (mK (.bl i)) := ⟨fun X W c tk => pe_imp pe_bl fun _ _ _ h => tC_of (fun _ _ => .bl i) h⟩
theorem de_non {j : Nat} : DE G k N sc (.Constant .none j pos) (mK .non) := ⟨fun X W c tk => pe_imp pe_non fun _ _ _ h => tC_of (fun _ _ => .non) h⟩
theorem de_str {i : Str} {j : Nat} : DE G k N sc (.Constant (.str i) j pos) (mK (.str i)) := ⟨fun X W c tk => pe_imp pe_str fun _ _ _ h => tC_of (fun _ _ => .str i) h⟩
/-- a name of the module -/
theorem gl_of {X : Cx} (c : CtxE G k N sc X) {x : Str} (h : sc.names.lookup x = some .globalImplicit) : Gl X x := by
  have e := c.csc
  subst e
  exact h
theorem de_glob {x : Str} {d : D} {v : V} {u : Value} (hm : G.mg x = some u) (hr : ∀ F R, Rep G.K F R d v) (r : RelV v u) (hg : sc.names.lookup x = some .globalImplicit := by rfl) (hd : (x == ("__debug__" : Str)) = false := by decide) : DE G k N sc (.Name x pos) (mK d) :=
  ⟨fun X W c tk => pe_imp (pe_glob (gl_of c hg) (by rw [c.cmg]; exact hm) r hd) fun _ _ _ h => tC_of hr h⟩

/-! ### arguments, displays -/
def mNil : M (List D) := fun _ S => .ok [] S
def mCons (m : M DV) (ms : M (List D)) : M (List D) := bnd m fun x => bnd ms fun xs _ S => .ok (x.frz :: xs) S
theorem da_nil : DA G k N sc [] mNil := ⟨fun X W c tk => pa_imp pa_nil fun σ H Q h => by
  obtain ⟨En, F, R, E, S, rel, h⟩ := h
  exact h F R H Le.refl rel [] .nil⟩
theorem da_cons {e : Expr} {es : List Expr} {m : M DV} {ms : M (List D)} (he : DE G k N sc e m) (hr : DA G k N sc es ms) (hs : ∀ env, starEach (e :: es) env = (false, eval e env) :: starEach es env := by intro _; rfl) : DA G k N sc (e :: es) (mCons m ms) :=
  ⟨fun X W c tk => pa_imp (pa_cons (he.run X W c tk) (hr.run X W c tk) (hs _)) fun σ H Q h => by
    obtain ⟨En, F, R, E, S, rel, h⟩ := h
    refine tD_then rel h fun F1 R1 H1 dv v S1 le rel1 rp h1 => ?_
    refine ⟨En, F1, R1, E, S1, rel1, (post_bnd h1).imp fun F2 R2 H2 ds S2 le2 rel2 q vs rs => ?_⟩
    exact q F2 R2 H2 Le.refl rel2 (v :: vs) (.cons (rp.mono le2 _ _) rs)⟩
/-- arguments, then what follows -/
theorem tA_then {α : Type} {K : PySem.W.Frag} {En : Ent} {F : Hp} {R : List Addr} {E : Ev} {S : Store} {σ : L2.St} {H : Hp} {W : WX} {m : M (List D)} {f : List D → M α} {ok : Hp → List Addr → Hp → α → Store → Prop} {k : List V → Hp → Prop} (rel : Rel K En F R E S σ H) (h : PostX K En F R E σ W ok (bnd m f E S))
    (hk : ∀ F1 R1 H1 ds vs S1, Le F R F1 R1 → Rel K En F1 R1 E S1 σ H1 → Reps K F1 R1 ds vs → PostX K En F1 R1 E σ W ok (f ds E S1) → k vs H1) : tA K m W σ H k := by
  refine ⟨En, F, R, E, S, rel, (post_bnd h).imp fun F1 R1 H1 ds S1 le rel1 q vs rs => ?_⟩
  exact hk F1 R1 H1 ds vs S1 le rel1 rs q
def small (n : Nat) : Bool := decide (n ≤ sizeLine)
def mTup (ms : M (List D)) : M DV := bnd ms fun xs _ S => if small xs.length then fine (.tup xs) S else .bad
def mLst (ms : M (List D)) : M DV := bnd ms fun xs _ S => if small xs.length then .ok (.ol xs) S else .bad
theorem de_tup {es : List Expr} {x1 : Nat} {ms : M (List D)} (h : DA G k N sc es ms) : DE G k N sc (.Tuple es x1 pos) (mTup ms) :=
  ⟨fun X W c tk => pe_imp (pe_tup (h.run X W c tk)) fun σ H Q h => by
    obtain ⟨En, F, R, E, S, rel, h⟩ := h
    refine tA_then rel h fun F1 R1 H1 ds vs S1 le rel1 rs h1 => ?_
    split at h1
    · rename_i hz
      exact ⟨by rw [← rs.length]; exact of_decide_eq_true hz, fun p hp => Post.tup h1 rel1 rs hp⟩
    · exact h1.elim⟩
theorem de_lst {es : List Expr} {ms : M (List D)} (h : DA G k N sc es ms) : DE G k N sc (.List es pos) (mLst ms) :=
  ⟨fun X W c tk => pe_imp (pe_lst (h.run X W c tk)) fun σ H Q h => by
    obtain ⟨En, F, R, E, S, rel, h⟩ := h
    refine tA_then rel h fun F1 R1 H1 ds vs S1 le rel1 rs h1 => ?_
    split at h1
    · rename_i hz
      exact ⟨by rw [← rs.length]; exact of_decide_eq_true hz, fun p hp => Post.ol h1 rel1 rs hp⟩
    · exact h1.elim⟩

/-! ### a cell's list, dict -/
def view (S : Store) : D → D
  | .ref k => (match S[k]? with
    | some (.lst ds) => .lst ds
    | some (.dct ds) => .dct ds
    | _ => .ref k)
  | d => d
theorem view_lst {K : PySem.W.Frag} {En : Ent} {F : Hp} {R : List Addr} {E : Ev} {S : Store} {σ : L2.St} {H : Hp} (rel : Rel K En F R E S σ H) {d : D} {x : V} {ds : List D} (r : Rep K F R d x) (e : view S d = .lst ds) :
    ∃ p vs, x = .ref p ∧ H p = some (.lst vs) ∧ Reps K F R ds vs := by
  cases r with
  | ref hk =>
    rename_i k a
    cases hs : S[k]? with
    | none => simp only [view, hs] at e; cases e
    | some c =>
      simp only [view, hs] at e
      cases c with
      | lst es =>
        cases e
        obtain ⟨⟨vs, h1, h2⟩, _⟩ := rel.cell k _ a hs hk
        exact ⟨a, vs, rfl, h1, h2⟩
      | dct es => cases e
      | ins c fs => cases e
      | exc c fs => cases e
  | lst h1 h2 =>
    cases e
    exact ⟨_, _, rfl, rel.frz _ _ h1, h2⟩
  | _ => cases e
theorem view_dct {K : PySem.W.Frag} {En : Ent} {F : Hp} {R : List Addr} {E : Ev} {S : Store} {σ : L2.St} {H : Hp} (rel : Rel K En F R E S σ H) {d : D} {x : V} {ds : List (Key × D)} (r : Rep K F R d x) (e : view S d = .dct ds) :
    ∃ p vs, x = .ref p ∧ Rd H p (.dK vs) ∧ RepK K F R ds vs := by
  cases r with
  | ref hk =>
    rename_i k a
    cases hs : S[k]? with
    | none => simp only [view, hs] at e; cases e
    | some c =>
      simp only [view, hs] at e
      cases c with
      | dct es =>
        cases e
        obtain ⟨⟨vs, h1, h2⟩, _⟩ := rel.cell k _ a hs hk
        exact ⟨a, vs, rfl, .inl h1, h2⟩
      | lst es => cases e
      | ins c fs => cases e
      | exc c fs => cases e
  | dct h1 h2 =>
    cases e
    exact ⟨_, _, rfl, rd_same rel.frz h1, h2⟩
  | _ => cases e
theorem view_tup {K : PySem.W.Frag} {En : Ent} {F : Hp} {R : List Addr} {E : Ev} {S : Store} {σ : L2.St} {H : Hp} (rel : Rel K En F R E S σ H) {d : D} {x : V} {ds : List D} (r : Rep K F R d x) (e : view S d = .tup ds) :
    ∃ p vs, x = .ref p ∧ SqT K H p vs ∧ Reps K F R ds vs := by
  cases r with
  | ref hk =>
    rename_i k a
    cases hs : S[k]? with
    | none => simp only [view, hs] at e; cases e
    | some c => cases c <;> (simp only [view, hs] at e; cases e)
  | tup h1 h2 =>
    cases e
    exact ⟨_, _, rfl, sqT_same rel.frz h1, h2⟩
  | _ => cases e
theorem view_scr {K : PySem.W.Frag} {En : Ent} {F : Hp} {R : List Addr} {E : Ev} {S : Store} {σ : L2.St} {H : Hp} (rel : Rel K En F R E S σ H) {d : D} {x : V} {ds : List D} (r : Rep K F R d x) (e : view S d = .scr ds) :
    ∃ p vs, x = .ref p ∧ SqL K H p vs ∧ Reps K F R ds vs := by
  cases r with
  | ref hk =>
    rename_i k a
    cases hs : S[k]? with
    | none => simp only [view, hs] at e; cases e
    | some c => cases c <;> (simp only [view, hs] at e; cases e)
  | scr h1 h2 =>
    cases e
    exact ⟨_, _, rfl, sqL_same rel.frz h1, h2⟩
  | _ => cases e
end
end Hm
set_option Elab.async false
set_option linter.all false
set_option maxRecDepth 100000
set_option maxHeartbeats 2000000
namespace Hm
open PySem PySem.Spec L2

section
variable {K : PySem.W.Frag} {En : Ent} {F F' : Hp} {R R' : List Addr} {E : Ev} {S S' : Store} {σ : L2.St} {H H' : Hp} {W : WX}
theorem view_int {d : D} {i : Int} (e : view S d = .int i) : d = .int i := by
  cases d with
  | ref k =>
    cases hs : S[k]? with
    | none => simp only [view, hs] at e; cases e
    | some c => cases c <;> (simp only [view, hs] at e; cases e)
  | _ => exact e
theorem view_str {d : D} {i : Str} (e : view S d = .str i) : d = .str i := by
  cases d with
  | ref k =>
    cases hs : S[k]? with
    | none => simp only [view, hs] at e; cases e
    | some c => cases c <;> (simp only [view, hs] at e; cases e)
  | _ => exact e
theorem view_bl {d : D} {i : Bool} (e : view S d = .bl i) : d = .bl i := by
  cases d with
  | ref k =>
    cases hs : S[k]? with
    | none => simp only [view, hs] at e; cases e
    | some c => cases c <;> (simp only [view, hs] at e; cases e)
  | _ => exact e
theorem view_non {d : D} (e : view S d = .non) : d = .non := by
  cases d with
  | ref k =>
    cases hs : S[k]? with
    | none => simp only [view, hs] at e; cases e
    | some c => cases c <;> (simp only [view, hs] at e; cases e)
  | _ => exact e
theorem rep_non {d : D} (r : Rep K F R d .non) : d = .non := by cases r; rfl
end

/-! ### ints -/
def intD (f : Int → Int → Option D) : F2 := fun d e S => match d, e with
  | .int i, .int j => (match f i j with
    | some z => fine z S
    | none => .bad)
  | _, _ => .bad
theorem snd_intD {K : PySem.W.Frag} {f : Int → Int → Option D} {C : Int → Int → Prop} {g : Int → Int → V} (h : ∀ i j z, f i j = some z → C i j ∧ ∀ F R, Rep K F R z (g i j)) : Snd2 K (intD f) (rI C g) := by
  intro En F R E S σ H W Q d e x y rel rx ry p
  cases rx <;> try exact p.elim
  cases ry <;> try exact p.elim
  rename_i i j
  change Post K En F R E σ W Q (match f i j with | some z => fine z S | none => .bad) at p
  cases q : f i j with
  | none => rw [q] at p; exact p.elim
  | some z =>
    rw [q] at p
    obtain ⟨hc, hr⟩ := h i j z q
    exact ⟨i, j, rfl, rfl, hc, p.got rel (hr F R)⟩
theorem snd_intD0 {K : PySem.W.Frag} {g : Int → Int → D} {g' : Int → Int → V} (h : ∀ i j F R, Rep K F R (g i j) (g' i j)) : Snd2 K (intD fun i j => some (g i j)) (rI0 g') := by
  intro En F R E S σ H W Q d e x y rel rx ry p
  cases rx <;> try exact p.elim
  cases ry <;> try exact p.elim
  rename_i i j
  exact ⟨i, j, rfl, rfl, Post.got p rel (h i j F R)⟩
def subD : F2 := intD fun i j => some (.int (i - j))
def mulOk (i j : Int) : Bool := (decide (-(2 ^ 64) < i) && decide (i < 2 ^ 64)) || (decide (-(2 ^ 64) < j) && decide (j < 2 ^ 64))
def fdivD : F2 := intD fun i j => if 0 < j ∧ j < 1073741824 then some (.int (i / j)) else none
def modD : F2 := intD fun i j => if 0 < j then some (.int (i % j)) else none
def powD : F2 := intD fun i j => if 0 ≤ j ∧ j ≤ 1000000 ∧ i.natAbs < 2 ^ 64 then some (.int (i ^ j.toNat)) else none
def ltD : F2 := intD fun i j => some (.bl (decide (i < j)))
def leD : F2 := intD fun i j => some (.bl (decide (i ≤ j)))
def gtD : F2 := intD fun i j => some (.bl (decide (j < i)))
def geD : F2 := intD fun i j => some (.bl (decide (j ≤ i)))
/-- + of ints, texts, lists, tuples -/
def addD : F2 := fun d e S => match view S d, view S e with
  | .int i, .int j => fine (.int (i + j)) S
  | .str i, .str j => if small (i.length + j.length) then fine (.str (i ++ j)) S else .bad
  | .lst xs, .lst ys => if small (xs.length + ys.length) then .ok (.ol (xs ++ ys)) S else .bad
  | .tup xs, .tup ys => if small (xs.length + ys.length) then fine (.tup (xs ++ ys)) S else .bad
  | _, _ => .bad
/-- * of ints, of a list and an int -/
def mulD : F2 := fun d e S => match view S d, view S e with
  | .int i, .int j => if mulOk i j then fine (.int (i * j)) S else .bad
  | .lst xs, .int j => if decide (-(2 ^ 63) ≤ j) && decide (j < 2 ^ 63) && small (xs.length * j.toNat) then .ok (.ol (List.replicate j.toNat xs).flatten) S else .bad
  | .str s, .int j => if 0 ≤ j ∧ j ≤ 64 ∧ s.length ≤ 100 then fine (.str (Txt.mul s j)) S else .bad
  | _, _ => .bad
theorem reps_flat {K : PySem.W.Frag} {F : Hp} {R : List Addr} {ds : List D} {vs : List V} (h : Reps K F R ds vs) : ∀ n : Nat, Reps K F R (List.replicate n ds).flatten (List.replicate n vs).flatten
  | 0 => .nil
  | n + 1 => by
    rw [List.replicate_succ, List.replicate_succ, List.flatten_cons, List.flatten_cons]
    exact h.append (reps_flat h n)

def rAddAll (K : PySem.W.Frag) : R2 := fun x y H Q => (rI0 (fun i j => .int (i + j)) x y H Q ∨ (∃ i j, x = .str i ∧ y = .str j ∧ i.length + j.length ≤ sizeLine ∧ Q (.str (i ++ j)) H)) ∨ (rCat x y H Q ∨ rCatA K x y H Q)
theorem or_add {X : Cx} : OpR X (binaryOp .Add) (rAddAll X.K) := (op_add.or op_add_str).or (op_cat.or op_catA)
theorem snd_add {K : PySem.W.Frag} : Snd2 K addD (rAddAll K) := by
  intro En F R E S σ H W Q d e x y rel rx ry p
  unfold addD at p
  split at p
  · rename_i i j e1 e2
    have e1 := view_int e1
    have e2 := view_int e2
    subst e1 e2
    cases rx
    cases ry
    exact .inl (.inl ⟨i, j, rfl, rfl, Post.got p rel (.int _)⟩)
  · rename_i i j e1 e2
    have e1 := view_str e1
    have e2 := view_str e2
    subst e1 e2
    cases rx
    cases ry
    split at p
    · rename_i hz
      exact .inl (.inr ⟨i, j, rfl, rfl, of_decide_eq_true hz, Post.got p rel (.str _)⟩)
    · exact p.elim
  · rename_i xs ys e1 e2
    obtain ⟨l, vs, rfl, h1, r1⟩ := view_lst rel rx e1
    obtain ⟨b, us, rfl, h2, r2⟩ := view_lst rel ry e2
    split at p
    · rename_i hz
      refine .inr (.inl ⟨l, b, vs, us, rfl, rfl, h1, h2, by rw [← r1.length, ← r2.length]; exact of_decide_eq_true hz, fun q hq => Post.ol p rel (r1.append r2) hq⟩)
    · exact p.elim
  · rename_i xs ys e1 e2
    obtain ⟨l, vs, rfl, h1, r1⟩ := view_tup rel rx e1
    obtain ⟨b, us, rfl, h2, r2⟩ := view_tup rel ry e2
    split at p
    · rename_i hz
      refine .inr (.inr ⟨l, b, vs, us, rfl, rfl, h1, h2, by rw [← r1.length, ← r2.length]; exact of_decide_eq_true hz, fun q => ?_, fun q q' => ?_, fun _ _ q hq => Post.tup p rel (r1.append r2) hq⟩)
      · subst q
        cases r1
        have e2' : e = .tup ys := by
          cases ry with
          | ref hk =>
            rename_i kk
            cases hs : S[kk]? with
            | none => simp only [view, hs] at e2; cases e2
            | some c => cases c <;> (simp only [view, hs] at e2; cases e2)
          | _ => exact e2
        subst e2'
        exact Post.got p rel ry
      · subst q'
        cases r2
        rw [List.append_nil] at p
        have e1' : d = .tup xs := by
          cases rx with
          | ref hk =>
            rename_i kk
            cases hs : S[kk]? with
            | none => simp only [view, hs] at e1; cases e1
            | some c => cases c <;> (simp only [view, hs] at e1; cases e1)
          | _ => exact e1
        subst e1'
        exact Post.got p rel rx
    · exact p.elim
  · exact p.elim
def rMulS : R2 := fun x y H Q => ∃ s j, x = .str s ∧ y = .int j ∧ (0 ≤ j ∧ j ≤ 64 ∧ s.length ≤ 100) ∧ Q (.str (Txt.mul s j)) H
theorem op_mulS {X : Cx} : OpR X (binaryOp .Mult) rMulS := by
  intro pins s σ H x y v u Q I rx ry h
  obtain ⟨a, j, rfl, rfl, ⟨h1, h2, h3⟩, q⟩ := h
  obtain ⟨t, rfl⟩ := rx
  obtain ⟨t', rfl⟩ := ry
  refine PySem.SB.mul ⟨?_, fun h0 _ => ?_, fun _ _ => ?_⟩ fun t2 k => ⟨.str _, H, I.tok k, ⟨t2, rfl⟩, q⟩
  · rw [Bool.or_eq_false_iff]
    exact ⟨decide_eq_false (by omega), decide_eq_false (by omega)⟩
  · have hq : (144115188075855871 : Int) ≤ (2 ^ 63 - 1) / j := by
      rw [Int.le_ediv_iff_mul_le (by omega)]
      omega
    omega
  · have hm : a.length * j.toNat ≤ 100 * 64 := Nat.mul_le_mul h3 (by omega)
    unfold Builtin.Str.tooLong
    exact decide_eq_false (by rw [sizeLine_eq]; omega)
def rMulAll : R2 := fun x y H Q => (rI CMul (fun i j => .int (i * j)) x y H Q ∨ rRep x y H Q) ∨ rMulS x y H Q
theorem or_mul {X : Cx} : OpR X (binaryOp .Mult) rMulAll := (op_mul.or op_rep).or op_mulS
theorem snd_mul {K : PySem.W.Frag} : Snd2 K mulD rMulAll := by
  intro En F R E S σ H W Q d e x y rel rx ry p
  unfold mulD at p
  split at p
  · rename_i i j e1 e2
    have e1 := view_int e1
    have e2 := view_int e2
    subst e1 e2
    cases rx
    cases ry
    split at p
    · rename_i hz
      refine .inl (.inl ⟨i, j, rfl, rfl, ?_, Post.got p rel (.int _)⟩)
      simp only [mulOk, Bool.or_eq_true, Bool.and_eq_true, decide_eq_true_eq] at hz
      exact hz
    · exact p.elim
  · rename_i xs j e1 e2
    have e2 := view_int e2
    subst e2
    cases ry
    obtain ⟨l, vs, rfl, h1, r1⟩ := view_lst rel rx e1
    split at p
    · rename_i hz
      simp only [Bool.and_eq_true, decide_eq_true_eq] at hz
      obtain ⟨⟨z1, z2⟩, z3⟩ := hz
      exact .inl (.inr ⟨l, j, vs, rfl, rfl, h1, z1, z2, by rw [← r1.length]; exact of_decide_eq_true z3, fun q hq => Post.ol p rel (reps_flat r1 _) hq⟩)
    · exact p.elim
  · rename_i s j e1 e2
    have e1 := view_str e1
    have e2 := view_int e2
    subst e1 e2
    cases rx
    cases ry
    split at p
    · rename_i hz
      exact .inr ⟨s, j, rfl, rfl, hz, Post.got p rel (.str _)⟩
    · exact p.elim
  · exact p.elim

section
variable {G : Gs} {k : Nat} {N : List Str} {sc : Scope} {a b c : Expr} {ma mb mc : M DV} {pos : Pos}
theorem de_add (ha : DE G k N sc a ma) (hb : DE G k N sc b mb) : DE G k N sc (.BinOp a .Add b pos) (mBin addD ma mb) := de_bin snd_add (fun X c => c.cK ▸ or_add) ha hb
theorem de_sub (ha : DE G k N sc a ma) (hb : DE G k N sc b mb) : DE G k N sc (.BinOp a .Sub b pos) (mBin subD ma mb) := de_bin (snd_intD0 fun _ _ _ _ => .int _) (fun _ _ => op_sub) ha hb
theorem de_mul (ha : DE G k N sc a ma) (hb : DE G k N sc b mb) : DE G k N sc (.BinOp a .Mult b pos) (mBin mulD ma mb) := de_bin snd_mul (fun _ _ => or_mul) ha hb
theorem de_fdiv (ha : DE G k N sc a ma) (hb : DE G k N sc b mb) : DE G k N sc (.BinOp a .FloorDiv b pos) (mBin fdivD ma mb) := de_bin (snd_intD fun i j z h => by
    split at h
    · rename_i hc
      cases h
      exact ⟨hc, fun _ _ => .int _⟩
    · cases h) (fun _ _ => op_fdiv) ha hb
theorem de_mod (ha : DE G k N sc a ma) (hb : DE G k N sc b mb) : DE G k N sc (.BinOp a .Mod b pos) (mBin modD ma mb) := de_bin (snd_intD fun i j z h => by
    split at h
    · rename_i hc
      cases h
      exact ⟨hc, fun _ _ => .int _⟩
    · cases h) (fun _ _ => op_mod) ha hb
theorem de_pow (ha : DE G k N sc a ma) (hb : DE G k N sc b mb) : DE G k N sc (.BinOp a .Pow b pos) (mBin powD ma mb) := de_bin (snd_intD fun i j z h => by
    split at h
    · rename_i hc
      cases h
      exact ⟨hc, fun _ _ => .int _⟩
    · cases h) (fun _ _ => op_pow) ha hb
/-- a rule of a comparison: how it goes, and the library's -/
structure CmpRule (G : Gs) (k : Nat) (N : List Str) (sc : Scope) (op : CmpOp) (f : F2) : Prop where
  ex : ∃ r : R2, Snd2 G.K f r ∧ ∀ X, CtxE G k N sc X → OpR X (compareOp op) r
theorem de_cmpR {op : CmpOp} {f : F2} (c : CmpRule G k N sc op f) (ha : DE G k N sc a ma) (hb : DE G k N sc b mb) (hm : behindInMarks op b = false := by first | exact nomark _ | rfl) : DE G k N sc (.Compare a [op] [b] pos) (mBin f ma mb) := by
  obtain ⟨r, hs, ho⟩ := c.ex
  exact de_cmp hs ho ha hb hm
theorem dt_cmpR {op : CmpOp} {f : F2} (c : CmpRule G k N sc op f) (ha : DE G k N sc a ma) (hb : DE G k N sc b mb) (hm : behindInMarks op b = false := by first | exact nomark _ | rfl) : DT G k N sc (.Compare a [op] [b] pos) (mTst (mBin f ma mb)) := by
  obtain ⟨r, hs, ho⟩ := c.ex
  exact dt_cmp hs ho ha hb hm
theorem cr_lt : CmpRule G k N sc .Lt ltD := ⟨_, snd_intD0 fun _ _ _ _ => .bl _, fun _ _ => op_lt⟩
theorem cr_le : CmpRule G k N sc .LtE leD := ⟨_, snd_intD0 fun _ _ _ _ => .bl _, fun _ _ => op_le⟩
theorem cr_gt : CmpRule G k N sc .Gt gtD := ⟨_, snd_intD0 fun _ _ _ _ => .bl _, fun _ _ => op_gt⟩
theorem cr_ge : CmpRule G k N sc .GtE geD := ⟨_, snd_intD0 fun _ _ _ _ => .bl _, fun _ _ => op_ge⟩

/-! ### is None -/
def isN (d : D) : Bool := match d with
  | .non => true
  | _ => false
def isND : F2 := fun d e S => match e with
  | .non => fine (.bl (isN d)) S
  | _ => .bad
def notND : F2 := fun d e S => match e with
  | .non => fine (.bl (!isN d)) S
  | _ => .bad
theorem isN_eq {K : PySem.W.Frag} {F : Hp} {R : List Addr} {d : D} {x : V} (r : Rep K F R d x) : isN d = decide (x = .non) := by
  cases r <;> first | rfl | simp [isN]
theorem cr_isN : CmpRule G k N sc .Is isND := ⟨_, fun En F R E S σ H W Q d e x y rel rx ry p => by
    cases ry <;> try exact p.elim
    refine ⟨rfl, ?_⟩
    rw [← isN_eq rx]
    exact Post.got p rel (.bl _), fun _ _ => op_isN⟩
theorem cr_notN : CmpRule G k N sc .IsNot notND := ⟨_, fun En F R E S σ H W Q d e x y rel rx ry p => by
    cases ry <;> try exact p.elim
    refine ⟨rfl, ?_⟩
    rw [← isN_eq rx]
    exact Post.got p rel (.bl _), fun _ _ => op_notN⟩

/-! ### == of data -/
mutual
def toPy (S : Store) : D → Option PyData
  | .non => some .none
  | .bl b => some (.bool b)
  | .int i => some (.int i)
  | .str s => some (.str s)
  | .tup ds => (toPys S ds).map .tuple
  | .lst ds => (toPys S ds).map .list
  | .ref _ => none
  | _ => none
def toPys (S : Store) : List D → Option (List PyData)
  | [] => some []
  | d :: ds => match toPy S d, toPys S ds with
    | some x, some xs => some (x :: xs)
    | _, _ => none
end
mutual
theorem toPy_ok {K : PySem.W.Frag} {F H : Hp} {R : List Addr} {S : Store} (hf : ∀ a o, F a = some o → H a = some o) : ∀ (d : D) (x : V) (p : PyData), Rep K F R d x → toPy S d = some p → Dp K H x p
  | .non, _, _, r, e => by cases r; cases e; exact .non
  | .bl b, _, _, r, e => by cases r; cases e; exact .bl b
  | .int b, _, _, r, e => by cases r; cases e; exact .int b
  | .str b, _, _, r, e => by cases r; cases e; exact .str b
  | .ty b, _, _, r, e => by cases e
  | .obj b, _, _, r, e => by cases e
  | .ref b, _, _, r, e => by cases e
  | .dct b, _, _, r, e => by cases e
  | .scr b, _, _, r, e => by cases e
  | .tup ds, _, _, r, e => by
    cases r with
    | tup h1 h2 =>
      rw [toPy] at e
      cases q : toPys S ds with
      | none => rw [q] at e; cases e
      | some ps =>
        rw [q] at e
        cases e
        exact .tup (sqT_same hf h1) (toPys_ok hf ds _ _ h2 q)
  | .lst ds, _, _, r, e => by
    cases r with
    | lst h1 h2 =>
      rw [toPy] at e
      cases q : toPys S ds with
      | none => rw [q] at e; cases e
      | some ps =>
        rw [q] at e
        cases e
        exact .lst (.of (hf _ _ h1)) (toPys_ok hf ds _ _ h2 q)
theorem toPys_ok {K : PySem.W.Frag} {F H : Hp} {R : List Addr} {S : Store} (hf : ∀ a o, F a = some o → H a = some o) : ∀ (ds : List D) (xs : List V) (ps : List PyData), Reps K F R ds xs → toPys S ds = some ps → DpAll K H xs ps
  | [], _, _, r, e => by cases r; cases e; exact .nil
  | d :: ds, _, _, r, e => by
    cases r with
    | cons h1 h2 =>
      rw [toPys] at e
      cases q1 : toPy S d with
      | none => rw [q1] at e; cases e
      | some p =>
        cases q2 : toPys S ds with
        | none => rw [q1, q2] at e; cases e
        | some ps =>
          rw [q1, q2] at e
          cases e
          exact .cons (toPy_ok hf d _ _ h1 q1) (toPys_ok hf ds _ _ h2 q2)
end
/-- data of a thing, seen through its cell -/
def pyOf (S : Store) (d : D) : Option PyData := (toPy S (view S d)).bind fun p => if SeqAt.shaped p then some p else none
theorem pyOf_ok {K : PySem.W.Frag} {En : Ent} {F : Hp} {R : List Addr} {E : Ev} {S : Store} {σ : L2.St} {H : Hp} (rel : Rel K En F R E S σ H) {d : D} {x : V} {p : PyData} (r : Rep K F R d x) (e : pyOf S d = some p) : Dp K H x p ∧ SeqAt.shaped p = true := by
  unfold pyOf at e
  cases q : toPy S (view S d) with
  | none => rw [q] at e; cases e
  | some z =>
    rw [q] at e
    change (if SeqAt.shaped z then some z else none) = some p at e
    split at e
    · rename_i hz
      cases e
      refine ⟨?_, hz⟩
      by_cases hr : ∃ kk, d = .ref kk
      · obtain ⟨kk, rfl⟩ := hr
        cases hs : S[kk]? with
        | none => simp only [view, hs] at q; cases q
        | some cc =>
          cases cc with
          | lst ds =>
            have ev : view S (.ref kk) = .lst ds := by simp only [view, hs]
            obtain ⟨l, vs, rfl, h1, r1⟩ := view_lst rel r ev
            rw [ev, toPy] at q
            cases q2 : toPys S ds with
            | none => rw [q2] at q; cases q
            | some ps =>
              rw [q2] at q
              cases q
              exact .lst (.of h1) (toPys_ok rel.frz ds _ _ r1 q2)
          | dct ds => simp only [view, hs] at q; cases q
          | ins cc fs => simp only [view, hs] at q; cases q
          | exc cc fs => simp only [view, hs] at q; cases q
      · have ev : view S d = d := by
          cases d with
          | ref kk => exact (hr ⟨kk, rfl⟩).elim
          | _ => rfl
        rw [ev] at q
        exact toPy_ok rel.frz d x _ r q
    · cases e
def eqD : F2 := fun d e S => match pyOf S d, pyOf S e with
  | some p, some q => fine (.bl (PyData.eqv p q)) S
  | _, _ => .bad
def neD : F2 := fun d e S => match pyOf S d, pyOf S e with
  | some p, some q => fine (.bl (!PyData.eqv p q)) S
  | _, _ => .bad
theorem snd_eq {K : PySem.W.Frag} : Snd2 K eqD (rEqD K) := by
  intro En F R E S σ H W Q d e x y rel rx ry p
  unfold eqD at p
  split at p
  · rename_i u v e1 e2
    obtain ⟨d1, s1⟩ := pyOf_ok rel rx e1
    obtain ⟨d2, s2⟩ := pyOf_ok rel ry e2
    exact ⟨u, v, d1, d2, s1, s2, Post.got p rel (.bl _)⟩
  · exact p.elim
theorem snd_ne {K : PySem.W.Frag} : Snd2 K neD (rNeD K) := by
  intro En F R E S σ H W Q d e x y rel rx ry p
  unfold neD at p
  split at p
  · rename_i u v e1 e2
    obtain ⟨d1, s1⟩ := pyOf_ok rel rx e1
    obtain ⟨d2, s2⟩ := pyOf_ok rel ry e2
    exact ⟨u, v, d1, d2, s1, s2, Post.got p rel (.bl _)⟩
  · exact p.elim
theorem cr_eq : CmpRule G k N sc .Eq eqD := ⟨_, snd_eq, fun X c => c.cK ▸ op_eqD c.croom.units⟩
theorem cr_ne : CmpRule G k N sc .NotEq neD := ⟨_, snd_ne, fun X c => c.cK ▸ op_neD c.croom.units⟩
end
end Hm
set_option Elab.async false
set_option linter.all false
set_option maxRecDepth 100000
set_option maxHeartbeats 2000000
namespace Hm
open PySem PySem.Spec L2

/-! ### keys -/
def keyOf : D → Option Key
  | .int i => some (.inl i)
  | .str s => some (.inr s)
  | _ => none
theorem keyOf_ok {K : PySem.W.Frag} {F : Hp} {R : List Addr} {d : D} {x : V} {k : Key} (r : Rep K F R d x) (e : keyOf d = some k) : x = kV k := by
  cases r <;> first | (cases e; rfl) | cases e
def lookK (kvs : List (Key × D)) (k : Key) : Option D := (kvs.find? fun kv => decide (kv.1 = k)).map (·.2)
theorem lookK_some {K : PySem.W.Frag} {F : Hp} {R : List Addr} {k : Key} : ∀ {kvs : List (Key × D)} {ks : List (Key × V)} {d : D}, RepK K F R kvs ks → lookK kvs k = some d → ∃ v, valV ks k = some v ∧ Rep K F R d v
  | _, _, _, .nil, e => by cases e
  | _, _, d, .cons (k := k1) (d := d1) (v := v1) r t, e => by
    unfold lookK at e
    unfold valV
    rw [List.find?_cons] at e ⊢
    by_cases h : k1 = k
    · have e1 : decide (k1 = k) = true := decide_eq_true h
      simp only [e1] at e ⊢
      cases e
      exact ⟨v1, rfl, r⟩
    · have e1 : decide (k1 = k) = false := decide_eq_false h
      simp only [e1] at e ⊢
      exact lookK_some t e
theorem lookK_none {K : PySem.W.Frag} {F : Hp} {R : List Addr} {k : Key} : ∀ {kvs : List (Key × D)} {ks : List (Key × V)}, RepK K F R kvs ks → (valV ks k).isSome = (lookK kvs k).isSome
  | _, _, .nil => rfl
  | _, _, .cons (k := k1) (d := d1) (v := v1) r t => by
    unfold lookK valV
    rw [List.find?_cons, List.find?_cons]
    by_cases h : k1 = k
    · have e1 : decide (k1 = k) = true := decide_eq_true h
      simp only [e1]
      rfl
    · have e1 : decide (k1 = k) = false := decide_eq_false h
      simp only [e1]
      exact lookK_none t

/-! ### subscripts -/
theorem atI_rep {K : PySem.W.Frag} {F : Hp} {R : List Addr} {ds : List D} {vs : List V} {i : Int} {d : D} (r : Reps K F R ds vs) (e : atI ds i = some d) : ∃ v, atI vs i = some v ∧ Rep K F R d v := by
  unfold atI at e ⊢
  rw [← r.length]
  cases q : ixN ds.length i with
  | none => rw [q] at e; cases e
  | some j =>
    rw [q] at e
    exact r.getD e
/-- d[y] of a dict of texts and ints -/
def rIxK : R2 := fun x y H Q => ∃ (a : Addr) (kvs : List (Key × V)) (k : Key) (v : V), x = .ref a ∧ y = kV k ∧ Rd H a (.dK kvs) ∧ valV kvs k = some v ∧ Q v H
theorem ix_dK {X : Cx} (hu : X.A.units + 1 < cLine) : IxR X rIxK := by
  intro value slice pins s σ H x y v u Q I rx ry h hs
  obtain ⟨a, kvs, k, z, rfl, rfl, ha, hz, q⟩ := h
  cases rx
  have g : DGet H a (kV k) (some z) := .inl ⟨kvs, k, ha, rfl, hz.symm⟩
  have hT := dict_typeIs I g
  unfold PyProof.Rows.subscriptTail
  refine wpAny_bind ?_
  rw [getitemInPython_of_ne hT.not_modules]
  refine wpAny_bind (wpAny_specialOf hT PySem.F.slot_dict_getitem.lookup ?_)
  have fin : wpAny (model X.prog X.w) X.A (subscripted slice false (.ref a) u) (fun r s₃ => wpAny (model X.prog X.w) X.A (letTemporaryGo value (.ref a) r >>= fun _ => pure r) (EP X pins σ Q) X.xe s₃) X.xe s := by
    rw [hs]
    exact wpAny_operating (wpAny_mono (d_getItem (Q := EP X pins σ Q) hu I g ry fun w' s3 I3 rw' => ⟨z, H, I3, rw', q⟩) (fun r s₃ h₃ => wpAny_bind (wpAny_letTemporaryGo (wpAny_pure h₃))) fun _ _ x => x)
  first
    | exact wpAny_pure (wpAny_bind fin)
    | exact wpAny_bind (wpAny_pure (wpAny_bind fin))
    | exact wpAny_bind fin
def ixD : F2 := fun d e S => match view S d with
  | .lst xs => (match e with
    | .int i => (match atI xs i with
      | some z => fine z S
      | none => .bad)
    | _ => .bad)
  | .tup xs => (match e with
    | .int i => (match atI xs i with
      | some z => fine z S
      | none => .bad)
    | _ => .bad)
  | .str s => (match e with
    | .int i => (match atI s.cps.toList i with
      | some c => if small s.length then fine (.str ⟨#[c]⟩) S else .bad
      | none => .bad)
    | _ => .bad)
  | .dct kvs => (match keyOf e with
    | some k => (match lookK kvs k with
      | some z => fine z S
      | none => .bad)
    | none => .bad)
  | _ => .bad
def rIxAll (K : PySem.W.Frag) : R2 := fun x y H Q => rIxL K x y H Q ∨ (rIxT K x y H Q ∨ (rIxS x y H Q ∨ rIxK x y H Q))
theorem or_ix {X : Cx} (hu : X.A.units + 1 < cLine) : IxR X (rIxAll X.K) := ix_list.or (ix_tup.or (ix_str.or (ix_dK hu)))
theorem snd_ix {K : PySem.W.Frag} : Snd2 K ixD (rIxAll K) := by
  intro En F R E S σ H W Q d e x y rel rx ry p
  unfold ixD at p
  split at p
  · rename_i xs e1
    obtain ⟨l, vs, rfl, h1, r1⟩ := view_lst rel rx e1
    split at p
    · cases ry
      split at p
      · rename_i z hz
        obtain ⟨v, hv, rv⟩ := atI_rep r1 hz
        exact .inl ⟨l, vs, _, v, rfl, rfl, .of h1, hv, Post.got p rel rv⟩
      · exact p.elim
    · exact p.elim
  · rename_i xs e1
    obtain ⟨l, vs, rfl, h1, r1⟩ := view_tup rel rx e1
    split at p
    · cases ry
      split at p
      · rename_i z hz
        obtain ⟨v, hv, rv⟩ := atI_rep r1 hz
        exact .inr (.inl ⟨l, vs, _, v, rfl, rfl, h1, hv, Post.got p rel rv⟩)
      · exact p.elim
    · exact p.elim
  · rename_i s e1
    have e1 := view_str e1
    subst e1
    cases rx
    split at p
    · cases ry
      split at p
      · rename_i c hc
        split at p
        · rename_i hz
          exact .inr (.inr (.inl ⟨s, _, c, rfl, rfl, of_decide_eq_true hz, hc, Post.got p rel (.str _)⟩))
        · exact p.elim
      · exact p.elim
    · exact p.elim
  · rename_i kvs e1
    obtain ⟨l, ks, rfl, h1, r1⟩ := view_dct rel rx e1
    split at p
    · rename_i k hk
      obtain rfl := keyOf_ok ry hk
      split at p
      · rename_i z hz
        obtain ⟨v, hv, rv⟩ := lookK_some r1 hz
        exact .inr (.inr (.inr ⟨l, ks, k, v, rfl, rfl, h1, hv, Post.got p rel rv⟩))
      · exact p.elim
    · exact p.elim
  · exact p.elim

/-! ### in -/
def flatD : D → Bool
  | .non => true
  | .bl _ => true
  | .int _ => true
  | .str _ => true
  | _ => false
def eqF : D → D → Bool
  | .non, .non => true
  | .bl a, .bl b => a == b
  | .bl a, .int b => (if a then 1 else 0) == b
  | .int a, .bl b => a == (if b then 1 else 0)
  | .int a, .int b => a == b
  | .str a, .str b => a == b
  | _, _ => false
theorem flat_rep {K : PySem.W.Frag} {F : Hp} {R : List Addr} {d : D} {x : V} (r : Rep K F R d x) (h : flatD d = true) : flatV x = true := by cases r <;> first | rfl | cases h
theorem flats_rep {K : PySem.W.Frag} {F : Hp} {R : List Addr} : ∀ {ds : List D} {vs : List V}, Reps K F R ds vs → ds.all flatD = true → vs.all flatV = true
  | _, _, .nil, _ => rfl
  | _, _, .cons r t, h => by
    rw [List.all_cons, Bool.and_eq_true] at h ⊢
    exact ⟨flat_rep r h.1, flats_rep t h.2⟩
theorem eqF_rep {K : PySem.W.Frag} {F : Hp} {R : List Addr} {d e : D} {x y : V} (r : Rep K F R d x) (q : Rep K F R e y) : eqF d e = eqV x y := by
  cases r <;> cases q <;> rfl
theorem any_rep {K : PySem.W.Frag} {F : Hp} {R : List Addr} {e : D} {y : V} (q : Rep K F R e y) : ∀ {ds : List D} {vs : List V}, Reps K F R ds vs → (ds.any fun d => eqF d e) = vs.any fun x => eqV x y
  | _, _, .nil => rfl
  | _, _, .cons r t => by rw [List.any_cons, List.any_cons, eqF_rep r q, any_rep q t]
/-- one sign in a text -/
def sign1 (s : Str) : Option Nat := match s.cps.toList with
  | [c] => some c
  | _ => none
theorem sign1_ok {s : Str} {c : Nat} (h : sign1 s = some c) : s = ⟨#[c]⟩ := by
  obtain ⟨a⟩ := s
  unfold sign1 at h
  split at h
  · rename_i c' e
    cases h
    have : a = [c].toArray := by rw [← Array.toArray_toList (xs := a)]; exact congrArg List.toArray e
    rw [this]
  · cases h
def inB (S : Store) (d e : D) : Option Bool := match view S e with
  | .dct kvs => (keyOf d).map fun k => (lookK kvs k).isSome
  | .lst xs => if flatD d && xs.all flatD then some (xs.any fun y => eqF y d) else none
  | .tup xs => if flatD d && xs.all flatD then some (xs.any fun y => eqF y d) else none
  | .str t => (match d with
    | .str s => (sign1 s).map fun c => decide (c ∈ t.cps.toList)
    | _ => none)
  | _ => none
/-- .. data of any depth in a list -/
def inDp (S : Store) (d e : D) : Option Bool := match pyOf S d, pyOf S e with
  | some p, some (.list qs) => some (qs.any fun z => PyData.eqv z p)
  | _, _ => none
def inD : F2 := fun d e S => match inB S d e with
  | some b => fine (.bl b) S
  | none => (match inDp S d e with
    | some b => fine (.bl b) S
    | none => .bad)
def ninD : F2 := fun d e S => match inB S d e with
  | some b => fine (.bl (!b)) S
  | none => (match inDp S d e with
    | some b => fine (.bl (!b)) S
    | none => .bad)
def rInAll (K : PySem.W.Frag) (neg : Bool) : R2 := fun x y H Q => rIn K neg x y H Q ∨ ((∃ (c : Nat) (z : Str), x = .str ⟨#[c]⟩ ∧ y = .str z ∧ Q (.bl (if neg then !decide (c ∈ z.cps.toList) else decide (c ∈ z.cps.toList))) H) ∨
  ∃ (a : Addr) (kvs : List (Key × V)) (k : Key), x = kV k ∧ y = .ref a ∧ Rd H a (.dK kvs) ∧ Q (.bl (if neg then !(valV kvs k).isSome else (valV kvs k).isSome)) H)
theorem or_dIn {X : Cx} (hu : X.A.units + 1 < cLine) : OpR X (compareOp .In) (fun x y H Q => ∃ (a : Addr) (kvs : List (Key × V)) (k : Key), x = kV k ∧ y = .ref a ∧ Rd H a (.dK kvs) ∧ Q (.bl (valV kvs k).isSome) H) := by
  intro pins s σ H x y v u Q I rx ry h
  obtain ⟨a, kvs, k, rfl, rfl, ha, q⟩ := h
  cases ry
  exact d_in hu I (.inl ⟨kvs, k, ha, rfl, rfl⟩) rx fun s3 I3 => ⟨.bl _, H, I3, rfl, q⟩
theorem or_dNotIn {X : Cx} (hu : X.A.units + 1 < cLine) : OpR X (compareOp .NotIn) (fun x y H Q => ∃ (a : Addr) (kvs : List (Key × V)) (k : Key), x = kV k ∧ y = .ref a ∧ Rd H a (.dK kvs) ∧ Q (.bl (!(valV kvs k).isSome)) H) := by
  intro pins s σ H x y v u Q I rx ry h
  obtain ⟨a, kvs, k, rfl, rfl, ha, q⟩ := h
  cases ry
  exact d_notIn hu I (.inl ⟨kvs, k, ha, rfl, rfl⟩) rx fun s3 I3 => ⟨.bl _, H, I3, rfl, q⟩
theorem or_in {X : Cx} (hu : X.A.units + 1 < cLine) : OpR X (compareOp .In) (rInAll X.K false) := op_in_seq.or (op_in_sign.or (or_dIn hu))
theorem or_nin {X : Cx} (hu : X.A.units + 1 < cLine) : OpR X (compareOp .NotIn) (rInAll X.K true) := op_notIn_seq.or (op_notIn_sign.or (or_dNotIn hu))
theorem snd_inAll {K : PySem.W.Frag} {neg : Bool} : Snd2 K (fun d e S => match inB S d e with
  | some b => fine (.bl (if neg then !b else b)) S
  | none => .bad) (rInAll K neg) := by
  intro En F R E S σ H W Q d e x y rel rx ry p
  cases hb : inB S d e with
  | none => simp only [hb] at p; exact p.elim
  | some b =>
    simp only [hb] at p
    unfold inB at hb
    split at hb
    · rename_i kvs e1
      obtain ⟨l, ks, rfl, h1, r1⟩ := view_dct rel ry e1
      cases hk : keyOf d with
      | none => rw [hk] at hb; cases hb
      | some k =>
        rw [hk] at hb
        cases hb
        obtain rfl := keyOf_ok rx hk
        exact .inr (.inr ⟨l, ks, k, rfl, rfl, h1, by rw [lookK_none r1]; exact Post.got p rel (.bl _)⟩)
    · rename_i xs e1
      obtain ⟨l, vs, rfl, h1, r1⟩ := view_lst rel ry e1
      split at hb
      · rename_i hf
        cases hb
        rw [Bool.and_eq_true] at hf
        refine .inl ⟨l, vs, rfl, .inl (.of h1), flat_rep rx hf.1, flats_rep r1 hf.2, ?_⟩
        rw [any_rep rx r1] at p
        exact Post.got p rel (.bl _)
      · cases hb
    · rename_i xs e1
      obtain ⟨l, vs, rfl, h1, r1⟩ := view_tup rel ry e1
      split at hb
      · rename_i hf
        cases hb
        rw [Bool.and_eq_true] at hf
        refine .inl ⟨l, vs, rfl, .inr h1, flat_rep rx hf.1, flats_rep r1 hf.2, ?_⟩
        rw [any_rep rx r1] at p
        exact Post.got p rel (.bl _)
      · cases hb
    · rename_i t e1
      have e1 := view_str e1
      subst e1
      cases ry
      split at hb
      · rename_i s
        cases rx
        cases hs : sign1 s with
        | none => rw [hs] at hb; cases hb
        | some c =>
          rw [hs] at hb
          cases hb
          exact .inr (.inl ⟨c, t, congrArg V.str (sign1_ok hs), rfl, Post.got p rel (.bl _)⟩)
      · cases hb
    · cases hb
section
variable {G : Gs} {k : Nat} {N : List Str} {sc : Scope} {a b c : Expr} {ma mb mc : M DV} {pos : Pos}
theorem hu65 {A : Around} (r : Room k A) : A.units + 65 < cLine := by have := r.un; omega
theorem inDp_ok {K : PySem.W.Frag} {En : Ent} {F : Hp} {R : List Addr} {E : Ev} {S : Store} {σ : L2.St} {H : Hp} (rel : Rel K En F R E S σ H) {d e : D} {x y : V} {b : Bool} (rx : Rep K F R d x) (ry : Rep K F R e y) (h : inDp S d e = some b) :
    ∃ p ds, Dp K H x p ∧ Dp K H y (.list ds) ∧ SeqAt.shaped p = true ∧ SeqAt.shaped (.list ds) = true ∧ b = ds.any fun z => PyData.eqv z p := by
  unfold inDp at h
  split at h
  · rename_i p qs e1 e2
    cases h
    obtain ⟨d1, s1⟩ := pyOf_ok rel rx e1
    obtain ⟨d2, s2⟩ := pyOf_ok rel ry e2
    exact ⟨p, qs, d1, d2, s1, s2, rfl⟩
  · cases h
theorem cr_in : CmpRule G k N sc .In inD := ⟨_, fun En F R E S σ H W Q d e x y rel rx ry p => by
    unfold inD at p
    cases hb : inB S d e with
    | some b =>
      rw [hb] at p
      refine .inl (snd_inAll (neg := false) En F R E S σ H W Q d e x y rel rx ry ?_)
      dsimp only
      rw [hb]
      exact p
    | none =>
      rw [hb] at p
      cases hc : inDp S d e with
      | none => rw [hc] at p; exact p.elim
      | some b =>
        rw [hc] at p
        obtain ⟨q, ds, h1, h2, h3, h4, rfl⟩ := inDp_ok rel rx ry hc
        exact .inr ⟨q, ds, h1, h2, h3, h4, Post.got p rel (.bl _)⟩, fun X c => c.cK ▸ (or_in (hu_of c.croom)).or (op_inD (hu65 c.croom))⟩
theorem cr_nin : CmpRule G k N sc .NotIn ninD := ⟨_, fun En F R E S σ H W Q d e x y rel rx ry p => by
    unfold ninD at p
    cases hb : inB S d e with
    | some b =>
      rw [hb] at p
      refine .inl (snd_inAll (neg := true) En F R E S σ H W Q d e x y rel rx ry ?_)
      dsimp only
      rw [hb]
      exact p
    | none =>
      rw [hb] at p
      cases hc : inDp S d e with
      | none => rw [hc] at p; exact p.elim
      | some b =>
        rw [hc] at p
        obtain ⟨q, ds, h1, h2, h3, h4, rfl⟩ := inDp_ok rel rx ry hc
        exact .inr ⟨q, ds, h1, h2, h3, h4, Post.got p rel (.bl _)⟩, fun X c => c.cK ▸ (or_nin (hu_of c.croom)).or (op_notInD (hu65 c.croom))⟩
theorem de_ix (ha : DE G k N sc a ma) (hb : DE G k N sc b mb) (hs : PlainIx b := by intro _ _; rfl) : DE G k N sc (.Subscript a b pos) (mBin ixD ma mb) :=
  ⟨fun X W c tk => pe_imp (pe_ix (c.cK ▸ or_ix (hu_of c.croom)) (ha.run X W c tk) (hb.run X W c tk) hs) fun σ H Q h => two_of snd_ix h⟩

/-! ### slices -/
def cutD (xs : List D) (lo hi : Option Int) : List D := (xs.drop (HT.sIx xs.length 0 lo)).take (HT.sIx xs.length xs.length hi - HT.sIx xs.length 0 lo)
theorem cut_rep {K : PySem.W.Frag} {F : Hp} {R : List Addr} {ds : List D} {vs : List V} (r : Reps K F R ds vs) (lo hi : Option Int) : Reps K F R (cutD ds lo hi) (cutV vs lo hi) := by
  unfold cutD cutV
  rw [r.length]
  exact (r.drop _).take _
def slD (d : D) (lo hi : Option Int) (S : Store) : Res DV := match view S d with
  | .lst xs => .ok (.ol (cutD xs lo hi)) S
  | .scr xs => .ok (.ol (cutD xs lo hi)) S
  | .tup xs => fine (.tup (cutD xs lo hi)) S
  | .str s => if small s.length then fine (.str (cutS s lo hi)) S else .bad
  | _ => .bad
def rSlAll (K : PySem.W.Frag) : V → Option Int → Option Int → Hp → VK → Prop := fun x lo hi H Q => rSlL K x lo hi H Q ∨ (rSlA K x lo hi H Q ∨ ∃ z, x = .str z ∧ z.length ≤ sizeLine ∧ Q (.str (cutS z lo hi)) H)
/-- a slice's part -/
def mNo : M (Option Int) := fun _ S => .ok none S
def mPart (m : M DV) : M (Option Int) := bnd m fun x _ S => match x with
  | .val (.int i) => .ok (some i) S
  | _ => .bad
def tO (K : PySem.W.Frag) (m : M (Option Int)) (W : WX) : TO := fun σ H Q => ∃ (En : Ent) (F : Hp) (R : List Addr) (E : Ev) (S : Store), Rel K En F R E S σ H ∧ PostX K En F R E σ W (fun _ _ H' b _ => Q b H') (m E S)
structure DO (G : Gs) (k : Nat) (N : List Str) (sc : Scope) (e : Option Expr) (m : M (Option Int)) : Prop where
  run : ∀ (X : Cx) (W : WX), CtxE G k N sc X → Takes X W → PO X e (tO G.K m W)
theorem do_none : DO G k N sc none mNo := ⟨fun X W c tk => ⟨fun pins s σ H Q I h => po_none.run pins s σ H Q I (by
  obtain ⟨En, F, R, E, S, rel, h⟩ := h
  exact h F R H Le.refl rel)⟩⟩
theorem do_some (h : DE G k N sc a ma) : DO G k N sc (some a) (mPart ma) := ⟨fun X W c tk => ⟨fun pins s σ H Q I q => (po_some (h.run X W c tk)).run pins s σ H Q I (by
  obtain ⟨En, F, R, E, S, rel, q⟩ := q
  refine ⟨En, F, R, E, S, rel, (post_bnd q).imp fun F1 R1 H1 dv S1 le rel1 q v hv => ?_⟩
  cases dv with
  | val d => cases d with
    | int i =>
      cases hv
      exact ⟨i, rfl, q F1 R1 H1 Le.refl rel1⟩
    | _ => exact q.elim
  | _ => exact q.elim)⟩⟩
def mSl (m : M DV) (lo hi : M (Option Int)) : M DV := bnd m fun x => bnd lo fun l => bnd hi fun u _ S => slD x.frz l u S
theorem snd_sl {K : PySem.W.Frag} {En : Ent} {F : Hp} {R : List Addr} {E : Ev} {S : Store} {σ : L2.St} {H : Hp} {W : WX} {Q : VK} {d : D} {x : V} {l u : Option Int} (rel : Rel K En F R E S σ H) (rx : Rep K F R d x) (p : Post K En F R E σ W Q (slD d l u S)) : rSlAll K x l u H Q := by
  unfold slD at p
  split at p
  · rename_i xs e1
    obtain ⟨a, vs, rfl, h1, r1⟩ := view_lst rel rx e1
    exact .inl ⟨a, vs, rfl, .of h1, fun q hq => Post.ol p rel (cut_rep r1 l u) hq⟩
  · rename_i xs e1
    obtain ⟨a, vs, rfl, h1, r1⟩ := view_scr rel rx e1
    exact .inl ⟨a, vs, rfl, h1, fun q hq => Post.ol p rel (cut_rep r1 l u) hq⟩
  · rename_i xs e1
    obtain ⟨a, vs, rfl, h1, r1⟩ := view_tup rel rx e1
    refine .inr (.inl ⟨a, vs, rfl, h1, fun hw => ?_, fun _ q hq => Post.tup p rel (cut_rep r1 l u) hq⟩)
    have e2 : cutD xs l u = xs := by
      unfold cutD
      rw [r1.length, hw.1, hw.2, List.drop_zero, Nat.sub_zero, ← r1.length, List.take_length]
    rw [e2] at p
    have e1' : d = .tup xs := by
      cases rx with
      | ref hk =>
        rename_i kk
        cases hs : S[kk]? with
        | none => simp only [view, hs] at e1; cases e1
        | some c => cases c <;> (simp only [view, hs] at e1; cases e1)
      | _ => exact e1
    subst e1'
    exact Post.got p rel rx
  · rename_i s e1
    have e1 := view_str e1
    subst e1
    cases rx
    split at p
    · rename_i hz
      exact .inr (.inr ⟨s, rfl, of_decide_eq_true hz, Post.got p rel (.str _)⟩)
    · exact p.elim
  · exact p.elim
theorem de_sl {lo hi : Option Expr} {ml mh : M (Option Int)} {p2 : Pos} (ha : DE G k N sc a ma) (hl : DO G k N sc lo ml) (hh : DO G k N sc hi mh) : DE G k N sc (.Subscript a (.Slice lo hi none p2) pos) (mSl ma ml mh) :=
  ⟨fun X W c tk => pe_imp (pe_slice (c.cK ▸ (sl_list.or (sl_tupA.or sl_str) : SlR X (rSlAll X.K))) (ha.run X W c tk) (hl.run X W c tk) (hh.run X W c tk)) fun σ H Q h => by
    obtain ⟨En, F, R, E, S, rel, h⟩ := h
    refine tD_then rel h fun F1 R1 H1 dv v S1 le rel1 rp h1 => ?_
    refine ⟨En, F1, R1, E, S1, rel1, (post_bnd h1).imp fun F2 R2 H2 l S2 le2 rel2 h2 => ?_⟩
    refine ⟨En, F2, R2, E, S2, rel2, (post_bnd h2).imp fun F3 R3 H3 u S3 le3 rel3 h3 => ?_⟩
    exact snd_sl rel3 (rp.mono (le2.trans le3) _ _) h3⟩

/-! ### truth -/
def truB (S : Store) (d : D) : Option Bool := match view S d with
  | .non => some false
  | .bl b => some b
  | .int i => some (i != 0)
  | .str s => if small s.length then some ((s.length : Int) != 0) else none
  | .lst xs => some (!xs.isEmpty)
  | .tup xs => some (!xs.isEmpty)
  | .dct xs => some (!xs.isEmpty)
  | _ => none
theorem reps_empty {K : PySem.W.Frag} {F : Hp} {R : List Addr} {ds : List D} {vs : List V} (r : Reps K F R ds vs) : ds.isEmpty = vs.isEmpty := by cases r <;> rfl
theorem repK_empty {K : PySem.W.Frag} {F : Hp} {R : List Addr} {ds : List (Key × D)} {vs : List (Key × V)} (r : RepK K F R ds vs) : ds.isEmpty = vs.isEmpty := by cases r <;> rfl
/-- a value's truth; of a dict locked too -/
def TruW (K : PySem.W.Frag) (x : V) (H : Hp) (b : Bool) : Prop := TruV K x H b ∨ ∃ (p : Addr) (ks : List (Key × V)), x = .ref p ∧ Rd H p (.dK ks) ∧ b = !ks.isEmpty
theorem truW_ok {X : Cx} : TruR X (fun x H Q => ∃ k, TruW X.K x H k ∧ Q k H) := by
  intro pins s σ H x v Q I rx h
  obtain ⟨k, e, q⟩ := h
  rcases e with e | ⟨p, kvs, rfl, hd, e⟩
  · exact tru_ok pins s σ H x v Q I rx ⟨k, e, q⟩
  · cases rx
    subst e
    obtain ⟨hz, hS, vs, r, m⟩ := dk_rd I.hok hd
    have hlen : kvs.length = vs.length := Paired.length r
    have hs : sizeLine = 16777216 := sizeLine_eq
    exact wpAny_truthy_dict hS m (by omega) ⟨H, I.tok _, by rw [isEmpty_kv r]; exact q⟩
theorem pt_truthW {X : Cx} {a : Expr} {ta : TE} (ha : PE X a ta) (he : ∀ whole, isTrue a X.env whole = (do let v ← whole; standAt a.pos; holding [v] (truthy v))) :
    PT X a (fun σ H Q => ta σ H fun x H' => ∃ k, TruW X.K x H' k ∧ Q k H') := by
  refine ⟨fun pins s σ H Q I h => ?_⟩
  exact PyProof.Rows.isTrue_plain (thn (ha.run pins s σ H _ I h) fun v s1 ⟨x, H1, I1, r1, q1⟩ => truW_ok pins s1 σ H1 x v Q I1 r1 q1) (he _)
def tOrW (K : PySem.W.Frag) (ta tb : TE) : TE := fun σ H Q => ta σ H fun x H1 => ∃ k, TruW K x H1 k ∧ if k = true then Q x H1 else tb σ H1 Q
def tAndW (K : PySem.W.Frag) (ta tb : TE) : TE := fun σ H Q => ta σ H fun x H1 => ∃ k, TruW K x H1 k ∧ if k = true then tb σ H1 Q else Q x H1
section
variable {X : Cx} {a b : Expr} {ta tb : TE} {rest : List Expr} {pos : Pos}
theorem pe_orW (ha : PE X a ta) (hb : PE X (.BoolOp .Or (b :: rest) pos) tb) : PE X (.BoolOp .Or (a :: b :: rest) pos) (tOrW X.K ta tb) := by
  refine ⟨fun pins s σ H Q I h => ?_⟩
  refine PyProof.Rows.BoolOp_or (thn (ha.run pins s σ H _ I h) fun v s1 ⟨x, H1, I1, r1, q1⟩ => ?_)
  obtain ⟨k, e, q1⟩ := q1
  refine thn (truW_ok pins s1 σ H1 x v (fun c H2 => c = k ∧ H2 = H1) I1 r1 ⟨k, e, rfl, rfl⟩) fun c s2 hc => ?_
  obtain ⟨H2, I2, e1, e2⟩ := hc
  rw [e2] at I2
  rw [← e1] at q1
  cases c with
  | true => exact ⟨x, H1, I2, r1, q1⟩
  | false => exact hb.run pins s2 σ H1 Q I2 q1
theorem pe_andW (ha : PE X a ta) (hb : PE X (.BoolOp .And (b :: rest) pos) tb) : PE X (.BoolOp .And (a :: b :: rest) pos) (tAndW X.K ta tb) := by
  refine ⟨fun pins s σ H Q I h => ?_⟩
  refine PyProof.Rows.BoolOp_and (thn (ha.run pins s σ H _ I h) fun v s1 ⟨x, H1, I1, r1, q1⟩ => ?_)
  obtain ⟨k, e, q1⟩ := q1
  refine thn (truW_ok pins s1 σ H1 x v (fun c H2 => c = k ∧ H2 = H1) I1 r1 ⟨k, e, rfl, rfl⟩) fun c s2 hc => ?_
  obtain ⟨H2, I2, e1, e2⟩ := hc
  rw [e2] at I2
  rw [← e1] at q1
  cases c with
  | true => exact hb.run pins s2 σ H1 Q I2 q1
  | false => exact ⟨x, H1, I2, r1, q1⟩
def tNotW (K : PySem.W.Frag) (ta : TE) : TE := fun σ H Q => ta σ H fun x H1 => ∃ k, TruW K x H1 k ∧ Q (.bl (!k)) H1
theorem pe_notW (ha : PE X a ta) : PE X (.UnaryOp .Not a pos) (tNotW X.K ta) := by
  refine ⟨fun pins s σ H Q I h => ?_⟩
  refine PyProof.Rows.UnaryOp_ (thn (ha.run pins s σ H _ I h) fun v s1 ⟨x, H1, I1, r1, q1⟩ => ?_)
  obtain ⟨k, e, q1⟩ := q1
  exact PyProof.Rows.not_of (thn (truW_ok pins s1 σ H1 x v (fun c H2 => Q (.bl (!c)) H2) I1 r1 ⟨k, e, q1⟩) fun c s2 ⟨H2, I2, q2⟩ => ⟨.bl (!c), H2, I2, rfl, q2⟩)
end
theorem truB_ok {K : PySem.W.Frag} {En : Ent} {F : Hp} {R : List Addr} {E : Ev} {S : Store} {σ : L2.St} {H : Hp} (rel : Rel K En F R E S σ H) {d : D} {x : V} {b : Bool} (r : Rep K F R d x) (e : truB S d = some b) : TruW K x H b := by
  unfold truB at e
  split at e
  · rename_i e1
    have e1 := view_non e1; subst e1; cases r; cases e; exact .inl rfl
  · rename_i e1
    have e1 := view_bl e1; subst e1; cases r; cases e; exact .inl rfl
  · rename_i e1
    have e1 := view_int e1; subst e1; cases r; cases e; exact .inl rfl
  · rename_i e1
    have e1 := view_str e1; subst e1; cases r
    split at e
    · rename_i hz
      cases e
      exact .inl ⟨of_decide_eq_true hz, rfl⟩
    · cases e
  · rename_i e1
    obtain ⟨a, vs, rfl, h1, r1⟩ := view_lst rel r e1
    cases e
    exact .inl (.inl ⟨vs, .of h1, by rw [reps_empty r1]⟩)
  · rename_i e1
    obtain ⟨a, vs, rfl, h1, r1⟩ := view_tup rel r e1
    cases e
    exact .inl (.inr (.inl ⟨vs, h1, by rw [reps_empty r1]⟩))
  · rename_i e1
    obtain ⟨a, vs, rfl, h1, r1⟩ := view_dct rel r e1
    cases e
    exact .inr ⟨a, vs, rfl, h1, by rw [repK_empty r1]⟩
  · cases e
def mTru (m : M DV) : M Bool := bnd m fun x _ S => match truB S x.frz with
  | some b => .ok b S
  | none => .bad
/-- any expression whose test is its value's truth -/
theorem dt_tru (ha : DE G k N sc a ma) (he : ∀ env whole, isTrue a env whole = (do let v ← whole; standAt a.pos; holding [v] (truthy v)) := by intro _ _; rfl) : DT G k N sc a (mTru ma) :=
  ⟨fun X W c tk => pt_imp (pt_truthW (ha.run X W c tk) (he _)) fun σ H Q h => by
    obtain ⟨En, F, R, E, S, rel, h⟩ := h
    refine tD_then rel h fun F1 R1 H1 dv v S1 le rel1 rp h1 => ?_
    cases q : truB S1 dv.frz with
    | none => simp only [q] at h1; exact h1.elim
    | some b =>
      simp only [q] at h1
      exact ⟨b, by rw [c.cK]; exact truB_ok rel1 rp q, h1 F1 R1 H1 Le.refl rel1⟩⟩

/-! ### and, or, not, if -/
def mAnd (a b : M Bool) : M Bool := bnd a fun x => if x then b else fun _ S => .ok false S
def mOr (a b : M Bool) : M Bool := bnd a fun x => if x then (fun _ S => .ok true S) else b
def mNot (a : M Bool) : M Bool := bnd a fun x _ S => .ok (!x) S
/-- a test whatever its whole is -/
structure DW (G : Gs) (k : Nat) (N : List Str) (sc : Scope) (e : Expr) (m : M Bool) : Prop where
  run : ∀ (X : Cx) (W : WX), CtxE G k N sc X → Takes X W → PW X e (tT G.K m W)
variable {ta tb : M Bool} {rest : List Expr}
theorem tT_then {K : PySem.W.Frag} {En : Ent} {F : Hp} {R : List Addr} {E : Ev} {S : Store} {σ : L2.St} {H : Hp} {W : WX} {α : Type} {m : M Bool} {f : Bool → M α} {ok : Hp → List Addr → Hp → α → Store → Prop} {kk : Bool → Hp → Prop} (rel : Rel K En F R E S σ H) (h : PostX K En F R E σ W ok (bnd m f E S))
    (hk : ∀ F1 R1 H1 b S1, Le F R F1 R1 → Rel K En F1 R1 E S1 σ H1 → PostX K En F1 R1 E σ W ok (f b E S1) → kk b H1) : tT K m W σ H kk :=
  ⟨En, F, R, E, S, rel, (post_bnd h).imp fun F1 R1 H1 b S1 le rel1 q => hk F1 R1 H1 b S1 le rel1 q⟩
theorem dw_and1 (ha : DT G k N sc a ta) : DW G k N sc (.BoolOp .And [a] pos) ta := ⟨fun X W c tk => pw_and1 (ha.run X W c tk)⟩
theorem dw_or1 (ha : DT G k N sc a ta) : DW G k N sc (.BoolOp .Or [a] pos) ta := ⟨fun X W c tk => pw_or1 (ha.run X W c tk)⟩
theorem dw_and (ha : DT G k N sc a ta) (hb : DW G k N sc (.BoolOp .And (b :: rest) pos) tb) : DW G k N sc (.BoolOp .And (a :: b :: rest) pos) (mAnd ta tb) :=
  ⟨fun X W c tk => pw_imp (pw_and (ha.run X W c tk) (hb.run X W c tk)) fun σ H Q h => by
    obtain ⟨En, F, R, E, S, rel, h⟩ := h
    refine tT_then rel h fun F1 R1 H1 x S1 le rel1 h1 => ?_
    cases x with
    | true => exact iteT ⟨En, F1, R1, E, S1, rel1, h1⟩
    | false => exact iteF (h1 F1 R1 H1 Le.refl rel1)⟩
theorem dw_or (ha : DT G k N sc a ta) (hb : DW G k N sc (.BoolOp .Or (b :: rest) pos) tb) : DW G k N sc (.BoolOp .Or (a :: b :: rest) pos) (mOr ta tb) :=
  ⟨fun X W c tk => pw_imp (pw_or (ha.run X W c tk) (hb.run X W c tk)) fun σ H Q h => by
    obtain ⟨En, F, R, E, S, rel, h⟩ := h
    refine tT_then rel h fun F1 R1 H1 x S1 le rel1 h1 => ?_
    cases x with
    | true => exact iteT (h1 F1 R1 H1 Le.refl rel1)
    | false => exact iteF ⟨En, F1, R1, E, S1, rel1, h1⟩⟩
theorem dt_bool {e : Expr} {t : M Bool} (h : DW G k N sc e t) : DT G k N sc e t := ⟨fun X W c tk => (h.run X W c tk).pt⟩
theorem dt_not (ha : DT G k N sc a ta) : DT G k N sc (.UnaryOp .Not a pos) (mNot ta) :=
  ⟨fun X W c tk => pt_imp (pt_not (ha.run X W c tk)) fun σ H Q h => by
    obtain ⟨En, F, R, E, S, rel, h⟩ := h
    exact tT_then rel h fun F1 R1 H1 x S1 le rel1 h1 => h1 F1 R1 H1 Le.refl rel1⟩
def mIf (t : M Bool) (a b : M DV) : M DV := bnd t fun x => if x then a else b
theorem de_if {e : Expr} (ht : DT G k N sc e ta) (ha : DE G k N sc a ma) (hb : DE G k N sc b mb) : DE G k N sc (.IfExp e a b pos) (mIf ta ma mb) :=
  ⟨fun X W c tk => pe_imp (pe_ifExp (ht.run X W c tk) (ha.run X W c tk) (hb.run X W c tk)) fun σ H Q h => by
    obtain ⟨En, F, R, E, S, rel, h⟩ := h
    refine tT_then rel h fun F1 R1 H1 x S1 le rel1 h1 => ?_
    cases x with
    | true => exact iteT ⟨En, F1, R1, E, S1, rel1, h1⟩
    | false => exact iteF ⟨En, F1, R1, E, S1, rel1, h1⟩⟩
/-- not e as a value, by truth -/
def mNotV (m : M DV) : M DV := bnd m fun x _ S => match truB S x.frz with
  | some b => fine (.bl (!b)) S
  | none => .bad
theorem de_not (ha : DE G k N sc a ma) : DE G k N sc (.UnaryOp .Not a pos) (mNotV ma) :=
  ⟨fun X W c tk => pe_imp (pe_notW (ha.run X W c tk)) fun σ H Q h => by
    obtain ⟨En, F, R, E, S, rel, h⟩ := h
    refine tD_then rel h fun F1 R1 H1 dv v S1 le rel1 rp h1 => ?_
    cases q : truB S1 dv.frz with
    | none => simp only [q] at h1; exact h1.elim
    | some b =>
      simp only [q] at h1
      exact ⟨b, by rw [c.cK]; exact truB_ok rel1 rp q, Post.got h1 rel1 (.bl _)⟩⟩
/-- x or y, x and y as values, by truth -/
def mOrV (a b : M DV) : M DV := bnd a fun x E S => match truB S x.frz with
  | some true => fine x.frz S
  | some false => b E S
  | none => .bad
def mAndV (a b : M DV) : M DV := bnd a fun x E S => match truB S x.frz with
  | some false => fine x.frz S
  | some true => b E S
  | none => .bad
theorem de_one {op : BoolOp} (ha : DE G k N sc a ma) : DE G k N sc (.BoolOp op [a] pos) ma := ⟨fun X W c tk => pe_one (ha.run X W c tk)⟩
theorem de_or (ha : DE G k N sc a ma) (hb : DE G k N sc (.BoolOp .Or (b :: rest) pos) mb) : DE G k N sc (.BoolOp .Or (a :: b :: rest) pos) (mOrV ma mb) :=
  ⟨fun X W c tk => pe_imp (pe_orW (ha.run X W c tk) (hb.run X W c tk)) fun σ H Q h => by
    obtain ⟨En, F, R, E, S, rel, h⟩ := h
    refine tD_then rel h fun F1 R1 H1 dv v S1 le rel1 rp h1 => ?_
    cases q : truB S1 dv.frz with
    | none => simp only [q] at h1; exact h1.elim
    | some b =>
      refine ⟨b, by rw [c.cK]; exact truB_ok rel1 rp q, ?_⟩
      cases b with
      | true => simp only [q] at h1; exact iteT (Post.got h1 rel1 rp)
      | false => simp only [q] at h1; exact iteF ⟨En, F1, R1, E, S1, rel1, h1⟩⟩
theorem de_and (ha : DE G k N sc a ma) (hb : DE G k N sc (.BoolOp .And (b :: rest) pos) mb) : DE G k N sc (.BoolOp .And (a :: b :: rest) pos) (mAndV ma mb) :=
  ⟨fun X W c tk => pe_imp (pe_andW (ha.run X W c tk) (hb.run X W c tk)) fun σ H Q h => by
    obtain ⟨En, F, R, E, S, rel, h⟩ := h
    refine tD_then rel h fun F1 R1 H1 dv v S1 le rel1 rp h1 => ?_
    cases q : truB S1 dv.frz with
    | none => simp only [q] at h1; exact h1.elim
    | some b =>
      refine ⟨b, by rw [c.cK]; exact truB_ok rel1 rp q, ?_⟩
      cases b with
      | true => simp only [q] at h1; exact iteT ⟨En, F1, R1, E, S1, rel1, h1⟩
      | false => simp only [q] at h1; exact iteF (Post.got h1 rel1 rp)⟩
/-- -e -/
def negD : F1 := fun d S => match d with
  | .int i => fine (.int (-i)) S
  | _ => .bad
theorem de_neg (ha : DE G k N sc a ma) : DE G k N sc (.UnaryOp .USub a pos) (mUn negD ma) :=
  ⟨fun X W c tk => pe_imp (pe_un un_neg (ha.run X W c tk)) fun σ H Q h => by
    obtain ⟨En, F, R, E, S, rel, h⟩ := h
    refine tD_then rel h fun F1 R1 H1 dv v S1 le rel1 rp h1 => ?_
    cases q : dv.frz <;> (rw [q] at h1 rp; try exact h1.elim)
    cases rp
    exact ⟨_, rfl, Post.got h1 rel1 (.int _)⟩⟩
end
end Hm
set_option Elab.async false
set_option linter.all false
set_option maxRecDepth 100000
set_option maxHeartbeats 2000000
namespace Hm
open PySem PySem.Spec L2

section
variable {K : PySem.W.Frag} {En : Ent} {F F' : Hp} {R R' : List Addr} {E E' : Ev} {S S' : Store} {σ σ' : L2.St} {H H' : Hp} {W : WX}
/-! ### into a call, out of it -/
/-- the slots are let go -/
theorem Rel.drop (r : Rel K En F R E S σ H) : Rel K En F R [] S [] H :=
  ⟨r.len, r.frz, r.nodup, r.cell, fun i dv e => by simp at e, fun i j x y a e => by simp at e, r.keep, r.nf, r.nr, rfl⟩
theorem Rel.enter (r : Rel K En F R E S σ H) : Rel K ⟨H, F, R⟩ F R [] S [] H :=
  ⟨r.len, r.frz, r.nodup, r.cell, fun i dv e => by simp at e, fun i j x y a e => by simp at e, fun _ _ h _ _ => h, fun _ _ _ h => h, fun _ _ _ h => h, rfl⟩
theorem Rel.some_of (r : Rel K En F R E S σ H) {a : Addr} {o : HO} (h : En.H a = some o) : ∃ u, H a = some u := by
  by_cases m : a ∈ R
  · obtain ⟨_, _, _, _, q, _⟩ := r.cellOf m
    exact q.there
  · cases f : F a with
    | none => exact ⟨o, r.keep a o h m f⟩
    | some u => exact ⟨u, r.frz a u f⟩
theorem Rel.leave (r : Rel K En F R E S σ H) (le : Le F R F' R') (q : Rel K ⟨H, F, R⟩ F' R' E' S' σ' H') : Rel K En F' R' E S' σ H' := by
  have nr : ∀ {a : Addr} {u : HO}, H a = some u → a ∉ R → a ∉ R' := fun {a u} h n m => n (q.nr a u h m)
  refine ⟨q.len, q.frz, q.nodup, q.cell, fun i dv e => ?_, r.apart, fun a o e n f => ?_, fun a o e f => ?_, fun a o e m => ?_, r.elen⟩
  · refine (r.slot i dv e).mono le fun a ea ow f1 f2 f3 => ?_
    have hs : ∃ u, H a = some u := by
      have z := r.slot i dv e
      cases dv with
      | val d => cases ow
      | ol ds =>
        obtain ⟨b, eb, ⟨vs, ho, _⟩, _⟩ := z
        rw [ea] at eb; cases eb
        exact ⟨_, ho⟩
      | od ds =>
        obtain ⟨b, eb, ⟨vs, ho, _⟩, _⟩ := z
        rw [ea] at eb; cases eb
        exact ⟨_, ho⟩
    obtain ⟨u, hu⟩ := hs
    have n := nr hu f2
    have f' := q.nf a u hu f1
    exact ⟨(q.keep a u hu n f').trans hu.symm, f', n⟩
  · have n2 : a ∉ R := fun m => n (by
      obtain ⟨k, hk⟩ := List.mem_iff_getElem?.mp m
      exact List.mem_of_getElem? (le.r k a hk))
    exact q.keep a o (r.keep a o e n2 (le.none_of f)) n f
  · obtain ⟨u, hu⟩ := r.some_of e
    exact q.nf a u hu (r.nf a o e f)
  · obtain ⟨u, hu⟩ := r.some_of e
    exact r.nr a o e (q.nr a u hu m)
theorem Val.leave (r : Rel K En F R E S σ H) {v : V} {dv : DV} (q : Val K ⟨H, F, R⟩ F' R' E' σ' H' v dv) : Val K En F' R' E σ H' v dv := by
  have no : ∀ {a : Addr}, H a = none → En.H a = none ∧ ¬ OwnSlot E σ a := fun {a} h => ⟨(r.fresh h).2.2.1, (r.fresh h).2.2.2⟩
  cases dv with
  | val d => exact q
  | ol ds =>
    obtain ⟨a, e, o, f1, f2, f3, _⟩ := q
    exact ⟨a, e, o, f1, f2, (no f3).1, (no f3).2⟩
  | od ds =>
    obtain ⟨a, e, o, f1, f2, f3, _⟩ := q
    exact ⟨a, e, o, f1, f2, (no f3).1, (no f3).2⟩
theorem Val.drop {v : V} {dv : DV} (q : Val K En F R E σ H v dv) : Val K En F R [] [] H v dv := by
  have no : ∀ a, ¬ OwnSlot [] [] a := fun a ⟨i, x, e, _⟩ => by simp at e
  cases dv with
  | val d => exact q
  | ol ds =>
    obtain ⟨a, e, o, f1, f2, f3, _⟩ := q
    exact ⟨a, e, o, f1, f2, f3, no a⟩
  | od ds =>
    obtain ⟨a, e, o, f1, f2, f3, _⟩ := q
    exact ⟨a, e, o, f1, f2, f3, no a⟩
end

/-! ### what a def promises -/
abbrev FD := List D → Store → Res DV
def spD (K : PySem.W.Frag) (n : Nat) (f : FD) : Sp := fun vs H Q E => vs.length = n ∧ ∃ (F : Hp) (R : List Addr) (S : Store) (ds : List D), Rel K ⟨H, F, R⟩ F R [] S [] H ∧ Reps K F R ds vs ∧ Post K ⟨H, F, R⟩ F R [] [] (fun c d _ H' => E c d H') Q (f ds S)
/-- the def at f keeps F, by at most level k; dfl: what its defaults bind behind the written arguments -/
structure FOk (G : Gs) (k : Nat) (f : Addr) (ps : List Str) (F : FD) : Prop where
  ex : ∃ fd, FnOk G.P G.w G.K G.mg G.base (L2.CX G.P G.w) k f fd ps (spD G.K ps.length F) ∧ Binds G.K fd ps []
  kp : PySem.W.keepIn G.K (.ref f) = true
theorem FOk.mono {G : Gs} {j k : Nat} {f : Addr} {ps : List Str} {F : FD} (h : FOk G j f ps F) (l : j ≤ k) : FOk G k f ps F := by
  obtain ⟨⟨fd, h1, h2⟩, h3⟩ := h
  exact ⟨⟨fd, h1.mono l, h2⟩, h3⟩
/-- a call's promise from the caller's state -/
theorem sp_call {K : PySem.W.Frag} {En : Ent} {F : Hp} {R : List Addr} {E : Ev} {S : Store} {σ : L2.St} {H : Hp} {W : WX} {Q : VK} {f : FD} {ds : List D} {vs : List V} {n : Nat} (hn : vs.length = n) (rel : Rel K En F R E S σ H) (rs : Reps K F R ds vs) (p : Post K En F R E σ W Q (f ds S)) :
    spD K n f vs H Q (WE W σ) := by
  refine ⟨hn, F, R, S, ds, rel.enter, rs, ?_⟩
  cases q : f ds S with
  | ok dv S1 =>
    rw [q] at p
    exact fun F1 R1 H1 le r1 v hv => p F1 R1 H1 le (rel.leave le r1) v (hv.leave rel)
  | ex c fs S1 =>
    rw [q] at p
    exact fun F1 R1 H1 d vfs le r1 hd rf => p F1 R1 H1 d vfs le (rel.leave le r1) hd rf
  | bad => rw [q] at p; exact p.elim
/-- a weaker (better told) function -/
def FLe (f g : FD) : Prop := ∀ ds S, g ds S = .bad ∨ f ds S = g ds S
theorem FOk.imp {G : Gs} {k : Nat} {f : Addr} {ps : List Str} {F F' : FD} (h : FOk G k f ps F) (le : ∀ ds S, F' ds S = .bad ∨ F ds S = F' ds S) : FOk G k f ps F' := by
  obtain ⟨⟨fd, h1, h2⟩, h3⟩ := h
  refine ⟨⟨fd, h1.imp fun vs H Q E ⟨hn, F0, R, S, ds, rel, rs, p⟩ => ⟨hn, F0, R, S, ds, rel, rs, ?_⟩, h2⟩, h3⟩
  rcases le ds S with e | e
  · rw [e] at p; exact p.elim
  · rw [e]; exact p

def mCall (f : FD) (n : Nat) (ms : M (List D)) : M DV := bnd ms fun ds _ S => if ds.length = n then f ds S else .bad
section
variable {G : Gs} {k : Nat} {N : List Str} {sc : Scope} {pos p : Pos} {ms : M (List D)}
theorem ctx_fn {X : Cx} (c : CtxE G k N sc X) {j : Nat} {f : Addr} {fd : FuncData} {ps : List Str} {sp : Sp} (h : FnOk G.P G.w G.K G.mg G.base (L2.CX G.P G.w) j f fd ps sp) : FnOk X.prog X.w X.K X.mg X.base (L2.CX X.prog X.w) j f fd ps sp := by
  rw [c.cP, c.cw, c.cK, c.cmg, c.cbase]; exact h
theorem de_call {e : Expr} {es : List Expr} {x : Str} {f : Addr} {ps : List Str} {F : FD} {j : Nat} (h : FOk G j f ps F) (hm : G.mg x = some (.ref f)) (ha : DA G k N sc (e :: es) ms) (hj : j ≤ k := by decide) (hg : sc.names.lookup x = some .globalImplicit := by rfl)
    (hdb : (x == ("__debug__" : Str)) = false := by decide) (he : ∀ env, starEach (e :: es) env = (false, eval e env) :: starEach es env := by intro _; rfl) (hpl : ∀ env, (backTo pos (starEach es env)).any (·.1) = false := by intro _; rfl) :
    DE G k N sc (.Call (.Name x p) (e :: es) [] pos) (mCall F ps.length ms) :=
  ⟨fun X W c tk => by
    obtain ⟨⟨fd, h1, h2⟩, h3⟩ := h
    refine pe_imp (pe_callS (ctx_fn c h1) (c.croom.mono hj) (gl_of c hg) (by rw [c.cmg]; exact hm) (by rw [c.cK]; exact h3) (by rw [c.cK]; exact h2) (fun σ => passAt tk σ) (ha.run X W c tk) hdb (he _) (hpl _)) fun σ H Q q => ?_
    obtain ⟨En, F0, R, E, S, rel, q⟩ := q
    refine tA_then rel q fun F1 R1 H1 ds vs S1 le rel1 rs h1 => ?_
    split at h1
    · rename_i hl
      exact sp_call (by rw [← rs.length]; exact hl) rel1 rs h1
    · exact h1.elim⟩
theorem de_call0 {x : Str} {f : Addr} {F : FD} {j : Nat} (h : FOk G j f [] F) (hm : G.mg x = some (.ref f)) (hj : j ≤ k := by decide) (hg : sc.names.lookup x = some .globalImplicit := by rfl)
    (hdb : (x == ("__debug__" : Str)) = false := by decide) : DE G k N sc (.Call (.Name x p) [] [] pos) (mCall F 0 mNil) :=
  ⟨fun X W c tk => by
    obtain ⟨⟨fd, h1, h2⟩, h3⟩ := h
    refine ⟨fun pins s σ H Q I q => ?_⟩
    obtain ⟨En, F0, R, E, S, rel, q⟩ := q
    refine wpAny_Call_Name_kw (ld_glob I (gl_of c hg) (by rw [c.cmg]; exact hm) ?_ hdb)
    refine PySem.W.callWith_K0 I.kIn (by rw [c.cK]; exact h3) ?_
    refine run_fnS (us := []) (vs := []) (ctx_fn c h1) (c.croom.mono hj) (by rw [c.cK]; exact h2) (passAt tk σ) I .nil (sp_call rfl rel .nil q)⟩
end

/-! ### statements -/
inductive RS where
  | nx (E : Ev) (S : Store) | rt (dv : DV) (S : Store) | bk (E : Ev) (S : Store) | ct (E : Ev) (S : Store) | ex (c : Str) (fs : List (Str × D)) (E : Ev) (S : Store) | bad
abbrev MS := Ev → Store → RS
def ExS (K : PySem.W.Frag) (En : Ent) (F : Hp) (R : List Addr) (W : WX) (c : Str) (fs : List (Str × D)) (E : Ev) (S : Store) : Prop :=
  ∀ (F' : Hp) (R' : List Addr) (σ' : L2.St) (H' : Hp) (d : Addr) (vfs : List (Str × V)), Le F R F' R' → Rel K En F' R' E S σ' H' → H' d = some (.xd vfs) → RepF K F' R' fs vfs → W (.ref (He.ga K c)) (some d) σ' H'
def GoS (K : PySem.W.Frag) (En : Ent) (F : Hp) (R : List Addr) (E : Ev) (S : Store) (k : L2.St → Hp → Prop) : Prop := ∀ (F' : Hp) (R' : List Addr) (σ' : L2.St) (H' : Hp), Le F R F' R' → Rel K En F' R' E S σ' H' → k σ' H'
def RtS (K : PySem.W.Frag) (En : Ent) (F : Hp) (R : List Addr) (dv : DV) (S : Store) (k : VK) : Prop := ∀ (F' : Hp) (R' : List Addr) (H' : Hp) (v : V), Le F R F' R' → Rel K En F' R' [] S [] H' → Val K En F' R' [] [] H' v dv → k v H'
def PostS (K : PySem.W.Frag) (En : Ent) (F : Hp) (R : List Addr) (D : Ends) (W : WX) : RS → Prop
  | .nx E S => GoS K En F R E S D.nx
  | .rt dv S => RtS K En F R dv S D.rt
  | .bk E S => GoS K En F R E S D.bk
  | .ct E S => GoS K En F R E S D.ct
  | .ex c fs E S => ExS K En F R W c fs E S
  | .bad => False
def tS (K : PySem.W.Frag) (m : MS) (W : WX) : TS := fun D σ H => ∃ (En : Ent) (F : Hp) (R : List Addr) (E : Ev) (S : Store), Rel K En F R E S σ H ∧ PostS K En F R D W (m E S)
structure CtxS (G : Gs) (k : Nat) (N : List Str) (sc : Scope) (X : Cx) : Prop where
  e : CtxE G k N sc X
  stk : X.stack = X.env :: X.outer
  fr : X.env.frame = some X.env.locals
  exn : X.ex = []
  cfn : ∀ x, X.fn x = true
  pas : PassesOwn (model X.prog X.w) X.A X.env X.xe
structure DS (G : Gs) (k : Nat) (N : List Str) (sc : Scope) (st : Stmt) (m : MS) : Prop where
  run : ∀ (X : Cx) (W : WX), CtxS G k N sc X → Takes X W → PS X st (tS G.K m W)
structure DSs (G : Gs) (k : Nat) (N : List Str) (sc : Scope) (st : List Stmt) (m : MS) : Prop where
  run : ∀ (X : Cx) (W : WX), CtxS G k N sc X → Takes X W → PSs X st (tS G.K m W)

section
variable {K : PySem.W.Frag} {En : Ent} {F F' : Hp} {R R' : List Addr} {E E' : Ev} {S S' : Store} {σ σ' : L2.St} {H H' : Hp} {W : WX} {D D' : Ends}
theorem GoS.mono {k : L2.St → Hp → Prop} (le : Le F R F' R') (h : GoS K En F R E S k) : GoS K En F' R' E S k := fun F2 R2 σ2 H2 l r => h F2 R2 σ2 H2 (le.trans l) r
theorem PostS.mono (le : Le F R F' R') : ∀ {r : RS}, PostS K En F R D W r → PostS K En F' R' D W r
  | .nx _ _, h => GoS.mono le h
  | .rt _ _, h => fun F2 R2 H2 v l r q => h F2 R2 H2 v (le.trans l) r q
  | .bk _ _, h => GoS.mono le h
  | .ct _ _, h => GoS.mono le h
  | .ex _ _ _ _, h => fun F2 R2 σ2 H2 d vfs l r hd rf => h F2 R2 σ2 H2 d vfs (le.trans l) r hd rf
  | .bad, h => h
end
/-- then -/
def seqS (a b : MS) : MS := fun E S => match a E S with
  | .nx E1 S1 => b E1 S1
  | r => r
def nextS : MS := fun E S => .nx E S
/-- an expression, then what its value does with the slots -/
def withE {α : Type} (m : M α) (f : α → MS) : MS := fun E S => match m E S with
  | .ok a S1 => f a E S1
  | .ex c fs S1 => .ex c fs E S1
  | .bad => .bad
section
variable {K : PySem.W.Frag} {En : Ent} {F F' : Hp} {R R' : List Addr} {E E' : Ev} {S S' : Store} {σ σ' : L2.St} {H H' : Hp} {W : WX} {D D' : Ends}
theorem post_with {α : Type} {m : M α} {f : α → MS} (rel : Rel K En F R E S σ H) (h : PostS K En F R D W (withE m f E S)) : PostX K En F R E σ W (fun F1 R1 _ a S1 => PostS K En F1 R1 D W (f a E S1)) (m E S) := by
  unfold withE at h
  cases e : m E S with
  | ok a S1 => rw [e] at h; exact fun F1 R1 H1 le _ => PostS.mono le h
  | ex c fs S1 => rw [e] at h; exact fun F1 R1 H1 d vfs le r1 hd rf => h F1 R1 σ H1 d vfs le r1 hd rf
  | bad => rw [e] at h; exact h
theorem withE_then {m : M DV} {f : DV → MS} {k : V → Hp → Prop} (rel : Rel K En F R E S σ H) (h : PostS K En F R D W (withE m f E S))
    (hk : ∀ F1 R1 H1 dv v S1, Le F R F1 R1 → Rel K En F1 R1 E S1 σ H1 → Val K En F1 R1 E σ H1 v dv → PostS K En F1 R1 D W (f dv E S1) → k v H1) : tD K m W σ H k :=
  ⟨En, F, R, E, S, rel, (post_with rel h).imp fun F1 R1 H1 dv S1 le rel1 q v hv => hk F1 R1 H1 dv v S1 le rel1 hv q⟩
theorem withE_thenF {m : M DV} {f : DV → MS} {k : V → Hp → Prop} (rel : Rel K En F R E S σ H) (h : PostS K En F R D W (withE m f E S))
    (hk : ∀ F1 R1 H1 dv v S1, Le F R F1 R1 → Rel K En F1 R1 E S1 σ H1 → Rep K F1 R1 dv.frz v → PostS K En F1 R1 D W (f dv E S1) → k v H1) : tD K m W σ H k :=
  withE_then rel h fun F1 R1 H1 dv v S1 le rel1 hv q => by
    obtain ⟨F2, le2, rel2, rp⟩ := hv.freeze rel1
    exact hk F2 R1 H1 dv v S1 (le.trans le2) rel2 rp (q.mono le2)
theorem withT_then {m : M Bool} {f : Bool → MS} {k : Bool → Hp → Prop} (rel : Rel K En F R E S σ H) (h : PostS K En F R D W (withE m f E S))
    (hk : ∀ F1 R1 H1 b S1, Le F R F1 R1 → Rel K En F1 R1 E S1 σ H1 → PostS K En F1 R1 D W (f b E S1) → k b H1) : tT K m W σ H k :=
  ⟨En, F, R, E, S, rel, (post_with rel h).imp fun F1 R1 H1 b S1 le rel1 q => hk F1 R1 H1 b S1 le rel1 q⟩
/-- a slot is stored -/
theorem Rel.store (r : Rel K En F R E S σ H) {v : V} {dv : DV} (q : Val K En F R E σ H v dv) (i : Nat) : Rel K En F R (E.set i (some dv)) S (σ.set i (some v)) H := by
  have hi : ∀ {j : Nat} {x : DV}, (E.set i (some dv))[j]? = some (some x) → (j = i ∧ x = dv ∧ (σ.set i (some v))[j]? = some (some v)) ∨ (j ≠ i ∧ E[j]? = some (some x) ∧ (σ.set i (some v))[j]? = σ[j]?) := fun {j x} e => by
    by_cases h : j = i
    · subst h
      by_cases hl : j < E.length
      · rw [List.getElem?_set_self hl] at e
        cases e
        exact .inl ⟨rfl, rfl, List.getElem?_set_self (by rw [← r.elen]; exact hl)⟩
      · rw [List.getElem?_eq_none (by simpa using hl)] at e; cases e
    · rw [List.getElem?_set_ne (Ne.symm h)] at e
      exact .inr ⟨h, e, List.getElem?_set_ne (Ne.symm h)⟩
  refine ⟨r.len, r.frz, r.nodup, r.cell, fun j x e => ?_, fun j1 j2 x y a e1 e2 o1 o2 s1 s2 => ?_, r.keep, r.nf, r.nr, by rw [List.length_set, List.length_set]; exact r.elen⟩
  · rcases hi e with ⟨rfl, rfl, es⟩ | ⟨_, e', es⟩
    · rw [es]
      cases x with
      | val d => exact ⟨v, rfl, q⟩
      | ol ds =>
        obtain ⟨a, rfl, o, f1, f2, f3, _⟩ := q
        exact ⟨a, rfl, o, f1, f2, f3⟩
      | od ds =>
        obtain ⟨a, rfl, o, f1, f2, f3, _⟩ := q
        exact ⟨a, rfl, o, f1, f2, f3⟩
    · rw [es]; exact r.slot j x e'
  · have new : ∀ {b : Addr}, dv.isOwn = true → v = .ref b → ¬ OwnSlot E σ b := fun {b} ow ev => by
      cases dv with
      | val d => cases ow
      | ol ds =>
        obtain ⟨c, ec, _, _, _, _, n⟩ := q
        rw [ev] at ec; cases ec; exact n
      | od ds =>
        obtain ⟨c, ec, _, _, _, _, n⟩ := q
        rw [ev] at ec; cases ec; exact n
    rcases hi e1 with ⟨h1, h2, h3⟩ | ⟨h1, h2, h3⟩
    · rcases hi e2 with ⟨g1, g2, g3⟩ | ⟨g1, g2, g3⟩
      · rw [h1, g1]
      · rw [h3] at s1
        rw [g3] at s2
        cases s1
        exact (new (h2 ▸ o1) rfl ⟨j2, y, g2, o2, s2⟩).elim
    · rcases hi e2 with ⟨g1, g2, g3⟩ | ⟨g1, g2, g3⟩
      · rw [g3] at s2
        rw [h3] at s1
        cases s2
        exact (new (g2 ▸ o2) rfl ⟨j1, x, h2, o1, s1⟩).elim
      · rw [h3] at s1
        rw [g3] at s2
        exact r.apart j1 j2 x y a h2 g2 o1 o2 s1 s2
end
section
variable {G : Gs} {k : Nat} {N : List Str} {sc : Scope} {e : Expr} {m : M DV} {pos pos' : Pos} {st : Stmt} {sts : List Stmt} {a b : MS} {t : M Bool}
theorem dss_nil : DSs G k N sc [] nextS := ⟨fun X W c tk => pss_imp pss_nil fun D σ H h => by
  obtain ⟨En, F, R, E, S, rel, h⟩ := h
  exact h F R σ H Le.refl rel⟩
theorem dss_cons (h1 : DS G k N sc st a) (h2 : DSs G k N sc sts b) : DSs G k N sc (st :: sts) (seqS a b) :=
  ⟨fun X W c tk => pss_imp (pss_cons (h1.run X W c tk) (h2.run X W c tk)) fun D σ H h => by
    obtain ⟨En, F, R, E, S, rel, h⟩ := h
    refine ⟨En, F, R, E, S, rel, ?_⟩
    unfold seqS at h
    cases q : a E S with
    | nx E1 S1 =>
      rw [q] at h
      exact fun F1 R1 σ1 H1 le r1 => ⟨En, F1, R1, E1, S1, r1, PostS.mono le h⟩
    | rt dv S1 => rw [q] at h; exact h
    | bk E1 S1 => rw [q] at h; exact h
    | ct E1 S1 => rw [q] at h; exact h
    | ex c fs E1 S1 => rw [q] at h; exact h
    | bad => rw [q] at h; exact h⟩
theorem dss_one (h1 : DS G k N sc st a) : DSs G k N sc [st] a := ⟨fun X W c tk => pss_one (h1.run X W c tk)⟩
/-- code that is never reached -/
def neverS : MS := fun _ _ => .bad
theorem ds_never : DS G k N sc st neverS := ⟨fun X W c tk => ps_imp ps_never fun D σ H ⟨_, _, _, _, _, _, h⟩ => h⟩
theorem dss_never : DSs G k N sc sts neverS := ⟨fun X W c tk => pss_imp pss_never fun D σ H ⟨_, _, _, _, _, _, h⟩ => h⟩
def setS (i : Nat) (m : M DV) : MS := withE m fun dv E S => .nx (E.set i (some dv)) S
theorem ds_set {x : Str} (i : Nat) (he : DE G k N sc e m) (hN : N[i]? = some x := by rfl) (hx : Loc sc x := by first | exact .inl rfl | exact .inr rfl) (hs : ∀ env, swapsWith e (some (.Name x pos')) pos.line env = pure false := by intro _; rfl) : DS G k N sc (.Assign [.Name x pos'] e pos) (setS i m) :=
  ⟨fun X W c tk => ps_imp (ps_set (i := i) (by rw [c.e.cN]; exact c.e.cnd) (by rw [c.e.cN]; exact hN) (by rw [c.e.csc]; exact hx) (he.run X W c.e tk) (hs _) (.inl (c.cfn x))) fun D σ H h => by
    obtain ⟨En, F, R, E, S, rel, h⟩ := h
    exact withE_then rel h fun F1 R1 H1 dv v S1 le rel1 hv q => q F1 R1 _ H1 Le.refl (rel1.store hv i)⟩
def exprS (m : M DV) : MS := withE m fun _ E S => .nx E S
theorem ds_expr (he : DE G k N sc e m) (hs : ∀ env, swapsWith e none pos.line env = pure false := by intro _; rfl) : DS G k N sc (.Expr e pos) (exprS m) :=
  ⟨fun X W c tk => ps_imp (ps_expr (he.run X W c.e tk) (hs _)) fun D σ H h => by
    obtain ⟨En, F, R, E, S, rel, h⟩ := h
    exact withE_then rel h fun F1 R1 H1 dv v S1 le rel1 hv q => q F1 R1 _ H1 Le.refl rel1⟩
def retS (m : M DV) : MS := withE m fun dv _ S => .rt dv S
theorem ds_ret (he : DE G k N sc e m) : DS G k N sc (.Return (some e) pos) (retS m) :=
  ⟨fun X W c tk => ps_imp (ps_ret (he.run X W c.e tk)) fun D σ H h => by
    obtain ⟨En, F, R, E, S, rel, h⟩ := h
    exact withE_then rel h fun F1 R1 H1 dv v S1 le rel1 hv q => q F1 R1 H1 v Le.refl rel1.drop hv.drop⟩
/-- return x: the own thing goes out -/
def retVarS (i : Nat) : MS := fun E S => match E[i]? with
  | some (some dv) => .rt dv S
  | _ => .bad
theorem ds_retVar {x : Str} (i : Nat) (hN : N[i]? = some x := by rfl) (hv : Vis sc x := by first | exact Or.inl rfl | exact Or.inr (Or.inl rfl) | exact Or.inr (Or.inr rfl)) (hd : (x == ("__debug__" : Str)) = false := by decide)
    (hcd : (x == ("__classdict__" : Str)) = false := by decide) : DS G k N sc (.Return (some (.Name x pos')) pos) (retVarS i) :=
  ⟨fun X W c tk => ps_imp (ps_ret (pe_var (i := i) (by rw [c.e.cN]; exact hN) (by rw [c.e.csc]; exact hv) hd hcd)) fun D σ H h => by
    obtain ⟨En, F, R, E, S, rel, h⟩ := h
    unfold retVarS at h
    split at h
    · rename_i dv e
      have q := rel.slot i _ e
      have no : ∀ a, ¬ OwnSlot [] [] a := fun a ⟨i, x, e, _⟩ => by simp at e
      cases dv with
      | val d =>
        obtain ⟨v, e2, r⟩ := q
        exact ⟨v, e2, h F R H v Le.refl rel.drop r⟩
      | ol ds =>
        obtain ⟨a, e2, o, f1, f2, f3⟩ := q
        exact ⟨.ref a, e2, h F R H (.ref a) Le.refl rel.drop ⟨a, rfl, o, f1, f2, f3, no a⟩⟩
      | od ds =>
        obtain ⟨a, e2, o, f1, f2, f3⟩ := q
        exact ⟨.ref a, e2, h F R H (.ref a) Le.refl rel.drop ⟨a, rfl, o, f1, f2, f3, no a⟩⟩
    · exact h.elim⟩
def retNS : MS := fun _ S => .rt (.val .non) S
theorem ds_retN : DS G k N sc (.Return none pos) retNS := ⟨fun X W c tk => ps_imp ps_retN fun D σ H h => by
  obtain ⟨En, F, R, E, S, rel, h⟩ := h
  exact h F R H .non Le.refl rel.drop .non⟩
theorem ds_pass : DS G k N sc (.Pass pos) nextS := ⟨fun X W c tk => ps_imp ps_pass fun D σ H h => by
  obtain ⟨En, F, R, E, S, rel, h⟩ := h
  exact h F R σ H Le.refl rel⟩
def contS : MS := fun E S => .ct E S
def breakS : MS := fun E S => .bk E S
theorem ds_cont : DS G k N sc (.Continue pos) contS := ⟨fun X W c tk => ps_imp ps_continue fun D σ H h => by
  obtain ⟨En, F, R, E, S, rel, h⟩ := h
  exact h F R σ H Le.refl rel⟩
theorem ds_break : DS G k N sc (.Break pos) breakS := ⟨fun X W c tk => ps_imp ps_break fun D σ H h => by
  obtain ⟨En, F, R, E, S, rel, h⟩ := h
  exact h F R σ H Le.refl rel⟩
def ifS (t : M Bool) (a b : MS) : MS := withE t fun x => if x then a else b
theorem ds_if {as bs : List Stmt} (ht : DT G k N sc e t) (ha : DSs G k N sc as a) (hb : DSs G k N sc bs b) : DS G k N sc (.If e as bs pos) (ifS t a b) :=
  ⟨fun X W c tk => ps_imp (ps_if (ht.run X W c.e tk) (ha.run X W c tk) (hb.run X W c tk)) fun D σ H h => by
    obtain ⟨En, F, R, E, S, rel, h⟩ := h
    refine withT_then rel h fun F1 R1 H1 x S1 le rel1 q => ?_
    cases x with
    | true => exact iteT ⟨En, F1, R1, E, S1, rel1, q⟩
    | false => exact iteF ⟨En, F1, R1, E, S1, rel1, q⟩⟩
/-- an own slot is let stand for ever -/
def frzS (i : Nat) (m : MS) : MS := fun E S => match E[i]? with
  | some (some dv) => m (E.set i (some (.val dv.frz))) S
  | _ => m E S
theorem Rel.frzSlot {K : PySem.W.Frag} {En : Ent} {F : Hp} {R : List Addr} {E : Ev} {S : Store} {σ : L2.St} {H : Hp} (r : Rel K En F R E S σ H) {i : Nat} {dv : DV} (e : E[i]? = some (some dv)) : ∃ F', Le F R F' R ∧ Rel K En F' R (E.set i (some (.val dv.frz))) S σ H := by
  have hil : i < E.length := (List.getElem?_eq_some_iff.mp e).1
  -- forget the slot, freeze, put it back
  have key : ∀ (v : V), σ[i]? = some (some v) → Val K En F R (E.set i none) (σ.set i (some v)) H v dv → ∃ F', Le F R F' R ∧ Rel K En F' R (E.set i (some (.val dv.frz))) S σ H := fun v ev hv => by
    have es : σ.set i (some v) = σ := by
      apply List.ext_getElem?
      intro j
      by_cases h : j = i
      · subst h; rw [List.getElem?_set_self (by rw [← r.elen]; exact hil), ev]
      · rw [List.getElem?_set_ne (Ne.symm h)]
    rw [es] at hv
    have r0 : Rel K En F R (E.set i none) S σ H := by
      have hj : ∀ {j : Nat} {x : DV}, (E.set i none)[j]? = some (some x) → E[j]? = some (some x) := fun {j x} q => by
        by_cases h : j = i
        · subst h; rw [List.getElem?_set_self hil] at q; cases q
        · rw [List.getElem?_set_ne (Ne.symm h)] at q; exact q
      exact ⟨r.len, r.frz, r.nodup, r.cell, fun j x q => r.slot j x (hj q), fun j1 j2 x y a q1 q2 => r.apart j1 j2 x y a (hj q1) (hj q2), r.keep, r.nf, r.nr, by rw [List.length_set]; exact r.elen⟩
    obtain ⟨F', le, r1, rp⟩ := hv.freeze r0
    have r2 := r1.store (dv := .val dv.frz) rp i
    rw [es, List.set_set] at r2
    exact ⟨F', le, r2⟩
  have q := r.slot i dv e
  have nos : ∀ a v, σ[i]? = some (some v) → v = .ref a → dv.isOwn = true → ¬ OwnSlot (E.set i none) (σ.set i (some v)) a := fun a v ev eva ow ⟨j, x, ej, oj, sj⟩ => by
    by_cases h : j = i
    · subst h; rw [List.getElem?_set_self hil] at ej; cases ej
    · rw [List.getElem?_set_ne (Ne.symm h)] at ej sj
      exact h (r.apart j i x dv a ej e oj ow sj (by rw [ev, eva]))
  cases dv with
  | val d =>
    obtain ⟨v, ev, rp⟩ := q
    exact key v ev rp
  | ol ds =>
    obtain ⟨a, ev, o, f1, f2, f3⟩ := q
    exact key (.ref a) ev ⟨a, rfl, o, f1, f2, f3, nos a _ ev rfl rfl⟩
  | od ds =>
    obtain ⟨a, ev, o, f1, f2, f3⟩ := q
    exact key (.ref a) ev ⟨a, rfl, o, f1, f2, f3, nos a _ ev rfl rfl⟩
theorem ds_frz (i : Nat) (h : DS G k N sc st a) : DS G k N sc st (frzS i a) :=
  ⟨fun X W c tk => ps_imp (h.run X W c tk) fun D σ H q => by
    obtain ⟨En, F, R, E, S, rel, q⟩ := q
    unfold frzS at q
    split at q
    · rename_i dv e
      obtain ⟨F', le, r⟩ := rel.frzSlot e
      exact ⟨En, F', R, _, S, r, q.mono le⟩
    · exact ⟨En, F, R, E, S, rel, q⟩⟩

/-! ### a def's body -/
def slots0 (n : Nat) (ds : List D) : Ev := ds.map (fun d => some (.val d)) ++ List.replicate (n - ds.length) none
def runB (n : Nat) (b : MS) : FD := fun ds S => match b (slots0 n ds) S with
  | .nx _ S' => .ok (.val .non) S'
  | .rt dv S' => .ok dv S'
  | .ex c fs _ S' => .ex c fs S'
  | _ => .bad
theorem rel_start {K : PySem.W.Frag} {H F : Hp} {R : List Addr} {S : Store} {ds : List D} {vs : List V} {N : List Str} (rel : Rel K ⟨H, F, R⟩ F R [] S [] H) (rs : Reps K F R ds vs) : Rel K ⟨H, F, R⟩ F R (slots0 N.length ds) S (start N vs) H := by
  have key : ∀ (i : Nat) (dv : DV), (slots0 N.length ds)[i]? = some (some dv) → ∃ d v, dv = .val d ∧ (start N vs)[i]? = some (some v) ∧ Rep K F R d v := fun i dv e => by
    unfold slots0 at e
    by_cases hi : i < ds.length
    · rw [List.getElem?_append_left (by simpa using hi), List.getElem?_map] at e
      cases q : ds[i]? with
      | none => rw [q] at e; cases e
      | some d =>
        rw [q] at e
        cases e
        obtain ⟨v, hv, rv⟩ := rs.getD q
        refine ⟨d, v, rfl, ?_, rv⟩
        unfold L2.start
        rw [List.getElem?_append_left (by rw [List.length_map, ← rs.length]; exact hi), List.getElem?_map, hv]
        rfl
    · rw [List.getElem?_append_right (by simpa using hi), List.getElem?_replicate] at e
      split at e <;> cases e
  refine ⟨rel.len, rel.frz, rel.nodup, rel.cell, fun i dv e => ?_, fun i j x y a e1 e2 o1 _ _ _ => ?_, rel.keep, rel.nf, rel.nr, ?_⟩
  · obtain ⟨d, v, rfl, e2, r⟩ := key i dv e
    exact ⟨v, e2, r⟩
  · obtain ⟨d, v, rfl, _⟩ := key i x e1
    cases o1
  · unfold slots0 L2.start
    rw [List.length_append, List.length_append, List.length_map, List.length_map, List.length_replicate, List.length_replicate, rs.length]
/-- THE RULE: a def keeps what its body's data say -/
theorem fok {x qual : Str} {params : Arguments} {body : List Stmt} {f : Addr} {fd : FuncData} {ps : List Str} (Fn : FunD G.K x qual params body sc [] [] f fd) (Sc : FnScope N ps sc)
    (hb : ∀ (kV doc pm : Value) (an : Option Addr) (cdv ct : Value) (us : List Value), us.length = ps.length → bindArgs (PySem.W.fnOf x qual params body sc .none kV doc pm an cdv ct) ⟨us, []⟩ = pure (ps.zip us))
    (hbody : DSs G k N sc body a) : FOk G (k + 1) f ps (runB N.length a) := by
  refine ⟨⟨fd, ?_, Fn.bindsN hb⟩, Fn.kp⟩
  refine Fn.ok Sc (fun vs H Q E h => h.1) fun cdv A outer s H vs Q E hr h => ?_
  obtain ⟨hn, F, R, S, ds, rel, rs, p⟩ := h
  refine ⟨_, hbody.run _ (fun c d _ H' => E c d H') ⟨⟨rfl, rfl, rfl, rfl, rfl, rfl, rfl, Sc.nd, rfl, hr⟩, rfl, rfl, rfl, fun _ => rfl, passes_of rfl⟩ (takes_of rfl rfl rfl rfl), ?_⟩
  refine ⟨_, F, R, _, S, rel_start rel rs, ?_⟩
  unfold runB at p
  cases q : a (slots0 N.length ds) S with
  | nx E1 S1 => rw [q] at p; exact fun F1 R1 σ1 H1 le r1 => p F1 R1 H1 le r1.drop .non .non
  | rt dv S1 => rw [q] at p; exact fun F1 R1 H1 v le r1 hv => p F1 R1 H1 le r1 v hv
  | bk E1 S1 => rw [q] at p; exact p.elim
  | ct E1 S1 => rw [q] at p; exact p.elim
  | ex c fs E1 S1 => rw [q] at p; exact fun F1 R1 σ1 H1 d vfs le r1 hd rf => p F1 R1 H1 d vfs le r1.drop hd rf
  | bad => rw [q] at p; exact p.elim
end
end Hm
set_option Elab.async false
set_option linter.all false
set_option maxRecDepth 100000
set_option maxHeartbeats 2000000
namespace Hm
open PySem PySem.Spec L2 PyProof.Rows

/-! ### a, *b = a tuple, a list: by the model -/
section
variable {prog : Program} {w : World} {A : Around} {E : Value → Shared → Prop} {s : Shared} {l : Addr} {items : Array Value} {n i : Nat}
/-- what is told of the rest -/
def RestW (s : Shared) (items : Array Value) (n i : Nat) (Q : List Value → Shared → Prop) : Prop :=
  ∀ (g : Heap) (tk : Nat), (∀ b o, s.heap.get? b = some o → g.get? b = some o) →
    Q (items.toList.take i ++ [.ref g.objs.size] ++ (items.toList.drop i).drop (items.size + 1 - n)) { s with heap := g.push { cls := .type "list", data := .seq ((items.toList.drop i).take (items.size + 1 - n)).toArray }, toks := tk }
theorem restOf {I : Addr} {T : String} {St : Nat → Heap → Prop} {Q : List Value → Shared → Prop} {h0 h1 : Heap} {tk0 : Nat} (kept : ∀ b o, h0.get? b = some o → h1.get? b = some o) (hI : h0.get? I = none)
    (hT : T = "str_ascii_iterator" ∨ T = "str_iterator" ∨ T = "list_iterator" ∨ T = "tuple_iterator") (Wk : Walks prog w A.in1 I [I, l] [I] items.size (fun j v => items[j]? = some v) St)
    (hty : ∀ j (u : Shared), St j u.heap → u.TypeIs (.ref I) T) (hi : i ≤ items.size) (hn : n ≤ items.size + 1) (hin : i < n) (st : St i h1) (b1 : I < h1.objs.size) (b2 : l < h1.objs.size) (hz : items.size ≤ sizeLine)
    (hQ : RestW { s with heap := h0, toks := tk0 } items n i Q) {f : List Value → Sem (List Value)}
    (hf : ∀ rest : List Value, ¬ rest.length < n - 1 - i → f rest = newList (rest.take (rest.length - (n - 1 - i))) >>= fun d => pure (items.toList.take i ++ [d] ++ rest.drop (rest.length - (n - 1 - i)))) :
    wpAny (model prog w) A (holding (items.toList.take i) (collect (.ref I)) >>= f) Q E { s with heap := h1, toks := tk0 } := by
  refine wpAny_bind (wpAny_holding (PySem.W.kun_collect (s := { s with heap := h1, toks := tk0 }) (T := T) hT Wk hty hi st b1 b2 (fun h2 tk hk => ?_) hz))
  have el : (items.toList.drop i).length = items.size - i := by rw [List.length_drop, Array.length_toList]
  have em : (items.toList.drop i).length - (n - 1 - i) = items.size + 1 - n := by rw [el]; omega
  rw [hf _ (by rw [el]; omega), em]
  refine wpAny_bind (wpAny_newObj_type ?_ (by
    show (List.take _ _).toArray.size ≤ sizeLine
    rw [List.size_toArray, List.length_take, el]; omega))
  exact wpAny_pure (hQ h2 tk fun b o e => hk b o (fun z => by rw [z, hI] at e; cases e) (kept b o e))
theorem starL {Q : List Value → Shared → Prop} (hh : A.handled = none) (hl : s.heap.IsList l items) (hin : i < n) (hn : n ≤ items.size + 1) (hz : items.size ≤ sizeLine) (hQ : RestW s items n i Q) :
    wpAny (model prog w) A (unpackItems (.ref l) n (some i)) Q E s := by
  obtain ⟨ob, hob, _⟩ := id hl
  have lt := Heap.lt_size hob
  have ne : l ≠ s.heap.objs.size := Nat.ne_of_lt lt
  unfold unpackItems notIterableAtAll
  refine wpAny_bind (wpAny_bind (wpAny_specialOf hl.typeIs slot_list_iter.lookup (wpAny_pure ?_)))
  dsimp only [Option.isSome]
  rw [if_neg Bool.false_ne_true]
  refine wpAny_bind (wpAny_holding (wpAny_pyIter_list hl ?_))
  refine wpAny_bind (wpAny_holding (PySem.W.kun_draw ne i 0 _ _ ⟨_, Heap.get?_push_size _ rfl, rfl, rfl⟩ (hl.push _) (by omega) fun g it sb => ?_))
  have lg : g.IsList l items := (hl.push _).extBut sb.extBut ne
  rw [Nat.zero_add] at it
  obtain ⟨o1, e1, _⟩ := id it
  obtain ⟨o2, e2, _⟩ := id lg
  rw [List.drop_zero, if_neg (by rw [List.length_take, Array.length_toList]; omega)]
  exact restOf (h0 := s.heap) (T := "list_iterator") (fun b o e => sb.extBut b o (Nat.ne_of_lt (Heap.lt_size e)) (Heap.get?_push_of_some _ e)) (by cases e : s.heap.get? s.heap.objs.size with | none => rfl | some o => exact absurd (Heap.lt_size e) (Nat.lt_irrefl _)) (.inr (.inr (.inl rfl))) (Walks.list (A := A.in1) hh _ l ne items) (fun _ _ st => st.1.typeIs) (by omega) hn hin ⟨it, lg⟩ (Heap.lt_size e1) (Heap.lt_size e2) hz hQ
    fun rest hr => if_neg hr
theorem starT {Q : List Value → Shared → Prop} (hh : A.handled = none) (hl : IsTup s.heap l items) (hin : i < n) (hn : n ≤ items.size + 1) (hz : items.size ≤ sizeLine) (hQ : RestW s items n i Q) :
    wpAny (model prog w) A (unpackItems (.ref l) n (some i)) Q E s := by
  obtain ⟨ob, hob, _⟩ := id hl
  have lt := Heap.lt_size hob
  have ne : l ≠ s.heap.objs.size := Nat.ne_of_lt lt
  unfold unpackItems notIterableAtAll
  refine wpAny_bind (wpAny_bind (wpAny_specialOf hl.typeIs slot_tuple_iter.lookup (wpAny_pure ?_)))
  dsimp only [Option.isSome]
  rw [if_neg Bool.false_ne_true]
  refine wpAny_bind (wpAny_holding (iter_tuple hl ?_))
  refine wpAny_bind (wpAny_holding (draw_tuple ne i 0 _ _ ⟨_, Heap.get?_push_size _ rfl, rfl, rfl⟩ (hl.push _) (by omega) fun g it sb => ?_))
  have lg : IsTup g l items := (hl.push _).extBut sb.extBut ne
  rw [Nat.zero_add] at it
  obtain ⟨o1, e1, _⟩ := id it
  obtain ⟨o2, e2, _⟩ := id lg
  rw [List.drop_zero, if_neg (by rw [List.length_take, Array.length_toList]; omega)]
  exact restOf (h0 := s.heap) (T := "tuple_iterator") (fun b o e => sb.extBut b o (Nat.ne_of_lt (Heap.lt_size e)) (Heap.get?_push_of_some _ e)) (by cases e : s.heap.get? s.heap.objs.size with | none => rfl | some o => exact absurd (Heap.lt_size e) (Nat.lt_irrefl _)) (.inr (.inr (.inr rfl))) (Walks.tuple (A := A.in1) hh _ l ne items) (fun _ _ st => st.1.typeIs) (by omega) hn hin ⟨it, lg⟩ (Heap.lt_size e1) (Heap.lt_size e2) hz hQ
    fun rest hr => if_neg hr
end

/-! ### targets -/
/-- a, *b, c = a sequence -/
def gStar (K : PySem.W.Frag) (n i : Nat) (t : TGs) : TG := fun v σ H Q => ∃ a xs, v = .ref a ∧ (SqT K H a xs ∨ SqL K H a xs) ∧ i < n ∧ n ≤ xs.length + 1 ∧
  ∀ p, H p = none → t (xs.take i ++ [.ref p] ++ (xs.drop i).drop (xs.length + 1 - n)) σ (upd H p (.lst ((xs.drop i).take (xs.length + 1 - n)))) Q
theorem vals_take {vs : List V} {us : List Value} (h : Vals vs us) : ∀ n, Vals (vs.take n) (us.take n) := by
  induction h with
  | nil => intro n; rw [List.take_nil, List.take_nil]; exact .nil
  | cons r t ih => intro n; cases n with
    | zero => exact .nil
    | succ n => exact .cons r (ih n)
theorem vals_drop {vs : List V} {us : List Value} (h : Vals vs us) : ∀ n, Vals (vs.drop n) (us.drop n) := by
  induction h with
  | nil => intro n; rw [List.drop_nil, List.drop_nil]; exact .nil
  | cons r t ih => intro n; cases n with
    | zero => exact .cons r t
    | succ n => exact ih n
theorem vals_app {vs ws : List V} {us ts : List Value} (h : Vals vs us) (g : Vals ws ts) : Vals (vs ++ ws) (us ++ ts) := by
  induction h with
  | nil => exact g
  | cons r t ih => exact .cons r ih
theorem pg_star {X : Cx} {pos : Pos} {es : List Expr} {k : Nat} {t : TGs} {n i : Nat} (hc : X.calm = true) (h : PGs X es t)
    (hn : (assignEach es X.env).length = n := by rfl) (hst : (assignEach es X.env).findIdx? (·.1) = some i := by rfl) : PG X (.Tuple es k pos) (gStar X.K n i t) := by
  refine ⟨fun pins s σ H v u Q I r hw => ?_⟩
  obtain ⟨a, xs, e1, hq, hin, hl, hw⟩ := hw
  subst e1
  cases r
  rw [PyProof.Rows.assign_Tuple]
  refine wpAny_bind (wpAny_standAt ?_)
  unfold unpack
  rw [hn, hst]
  have fin : ∀ (its : List Value), Vals xs its → xs.length ≤ sizeLine → RestW s its.toArray n i fun vs s2 => wpAny (model X.prog X.w) X.A (assignInOrder ((assignEach es X.env).map (·.2)) vs) (fun _ s' => ∃ σ' H', Inv X pins σ' H' s' ∧ Q σ' H') X.xe s2 := fun its rv z g tk kept => by
    have I1 := I.kept (t' := tk) kept
    have hf : H g.objs.size = none := I1.hok.fresh (Nat.le_refl _)
    have el : its.toArray.size = xs.length := by rw [List.size_toArray]; exact rv.length.symm
    rw [el]
    have rm : Vals ((xs.drop i).take (xs.length + 1 - n)) ((its.drop i).take (xs.length + 1 - n)) := vals_take (vals_drop rv i) _
    refine h.run pins _ σ (upd H g.objs.size (.lst ((xs.drop i).take (xs.length + 1 - n)))) (xs.take i ++ [.ref g.objs.size] ++ (xs.drop i).drop (xs.length + 1 - n)) _ Q ?_ ?_ (hw _ hf)
    · refine I1.laid (t' := tk) (fun b u e => Heap.get?_push_of_some _ e) (Nat.le_refl _) ⟨?_, _, 0, rm, Heap.get?_push_size _ rfl⟩
      rw [List.length_take, List.length_drop]; omega
    · exact vals_app (vals_app (vals_take rv i) (.cons rfl .nil)) (vals_drop (vals_drop rv i) _)
  rcases hq with hq | hq
  · obtain ⟨its, rv, ht, hz⟩ := I.tuple hq
    refine wpAny_bind (wpAny_holding (starT (I.ok.hd hc) ht hin ?_ ?_ (fin its rv hz)))
    · rw [List.size_toArray, ← rv.length]; exact hl
    · rw [List.size_toArray, ← rv.length]; exact hz
  · obtain ⟨its, rv, pl, hz⟩ := I.list hq
    refine wpAny_bind (wpAny_holding (starL (I.ok.hd hc) pl.isList hin ?_ ?_ (fin its rv hz)))
    · rw [List.size_toArray, ← rv.length]; exact hl
    · rw [List.size_toArray, ← rv.length]; exact hz
end Hm
set_option Elab.async false
set_option linter.all false
set_option maxRecDepth 100000
set_option maxHeartbeats 2000000
namespace Hm
open PySem PySem.Spec L2

/-! ### targets -/
abbrev MG := D → Ev → Store → Option Ev
abbrev MGs := List D → Ev → Store → Option Ev
/-- other slots than those of own are as they were -/
def Same (own : List (Str × Nat)) (σ σ' : L2.St) : Prop := σ'.length = σ.length ∧ ∀ j, j ∉ own.map (·.2) → σ'[j]? = σ[j]?
def GoG (K : PySem.W.Frag) (En : Ent) (F : Hp) (R : List Addr) (S : Store) (own : List (Str × Nat)) (σ : L2.St) (Q : L2.St → Hp → Prop) : Option Ev → Prop
  | some E => ∀ (F' : Hp) (R' : List Addr) (σ' : L2.St) (H' : Hp), Le F R F' R' → Rel K En F' R' E S σ' H' → Same own σ σ' → Q σ' H'
  | none => False
def tG (K : PySem.W.Frag) (own : List (Str × Nat)) (m : MG) : TG := fun v σ H Q => ∃ (En : Ent) (F : Hp) (R : List Addr) (E : Ev) (S : Store) (d : D), Rel K En F R E S σ H ∧ Rep K F R d v ∧ GoG K En F R S own σ Q (m d E S)
def tGs (K : PySem.W.Frag) (own : List (Str × Nat)) (m : MGs) : TGs := fun vs σ H Q => ∃ (En : Ent) (F : Hp) (R : List Addr) (E : Ev) (S : Store) (ds : List D), Rel K En F R E S σ H ∧ Reps K F R ds vs ∧ GoG K En F R S own σ Q (m ds E S)
theorem pg_imp {X : Cx} {e : Expr} {t t' : TG} (h : PG X e t) (k : ∀ v σ H Q, t' v σ H Q → t v σ H Q) : PG X e t' :=
  ⟨fun pins s σ H v u Q I r q => h.run pins s σ H v u Q I r (k v σ H Q q)⟩
theorem pgs_imp {X : Cx} {e : List Expr} {t t' : TGs} (h : PGs X e t) (k : ∀ v σ H Q, t' v σ H Q → t v σ H Q) : PGs X e t' :=
  ⟨fun pins s σ H v u Q I r q => h.run pins s σ H v u Q I r (k v σ H Q q)⟩
/-- the names of own may be stored -/
def Sto (sc : Scope) (X : Cx) (own : List (Str × Nat)) : Prop := ∀ x ∈ own, X.fn x.1 = true ∨ sc.names.lookup x.1 = some .local
structure DG (G : Gs) (k : Nat) (N : List Str) (sc : Scope) (e : Expr) (own : List (Str × Nat)) (m : MG) : Prop where
  run : ∀ (X : Cx), CtxE G k N sc X → Sto sc X own → PG X e (tG G.K own m)
structure DGs (G : Gs) (k : Nat) (N : List Str) (sc : Scope) (e : List Expr) (own : List (Str × Nat)) (m : MGs) : Prop where
  run : ∀ (X : Cx), CtxE G k N sc X → Sto sc X own → PGs X e (tGs G.K own m)
theorem GoG.mono {K : PySem.W.Frag} {En : Ent} {F F' : Hp} {R R' : List Addr} {S : Store} {own : List (Str × Nat)} {σ : L2.St} {Q : L2.St → Hp → Prop} (le : Le F R F' R') : ∀ {o : Option Ev}, GoG K En F R S own σ Q o → GoG K En F' R' S own σ Q o
  | some _, h => fun F2 R2 σ2 H2 l r s => h F2 R2 σ2 H2 (le.trans l) r s
  | none, h => h
theorem Sto.left {sc : Scope} {X : Cx} {xs ys : List (Str × Nat)} (h : Sto sc X (xs ++ ys)) : Sto sc X xs := fun x hx => h x (List.mem_append_left _ hx)
theorem Sto.right {sc : Scope} {X : Cx} {xs ys : List (Str × Nat)} (h : Sto sc X (xs ++ ys)) : Sto sc X ys := fun x hx => h x (List.mem_append_right _ hx)
theorem Same.refl {own : List (Str × Nat)} {σ : L2.St} : Same own σ σ := ⟨rfl, fun _ _ => rfl⟩
theorem Same.app {xs ys : List (Str × Nat)} {σ σ1 σ2 : L2.St} (a : Same xs σ σ1) (b : Same ys σ1 σ2) : Same (xs ++ ys) σ σ2 :=
  ⟨b.1.trans a.1, fun j hj => by
    rw [List.map_append, List.mem_append, not_or] at hj
    exact (b.2 j hj.2).trans (a.2 j hj.1)⟩
def gN (i : Nat) : MG := fun d E _ => some (E.set i (some (.val d)))
def gNilM : MGs := fun ds E _ => match ds with
  | [] => some E
  | _ => none
def gConsM (g : MG) (gs : MGs) : MGs := fun ds E S => match ds with
  | d :: r => (match g d E S with
    | some E1 => gs r E1 S
    | none => none)
  | [] => none
def gT (n : Nat) (gs : MGs) : MG := fun d E S => match view S d with
  | .tup ds => if ds.length = n then gs ds E S else none
  | .lst ds => if ds.length = n then gs ds E S else none
  | .scr ds => if ds.length = n then gs ds E S else none
  | _ => none
def stD (n i : Nat) (ds : List D) : List D := ds.take i ++ [.lst ((ds.drop i).take (ds.length + 1 - n))] ++ (ds.drop i).drop (ds.length + 1 - n)
def gSt (n i : Nat) (gs : MGs) : MG := fun d E S => match view S d with
  | .tup ds => if i < n ∧ n ≤ ds.length + 1 then gs (stD n i ds) E S else none
  | .lst ds => if i < n ∧ n ≤ ds.length + 1 then gs (stD n i ds) E S else none
  | .scr ds => if i < n ∧ n ≤ ds.length + 1 then gs (stD n i ds) E S else none
  | _ => none
section
variable {G : Gs} {k : Nat} {N : List Str} {sc : Scope} {pos : Pos} {e : Expr} {es : List Expr} {xs ys : List (Str × Nat)} {g : MG} {gs : MGs}
theorem dg_name {x : Str} (i : Nat) (hN : N[i]? = some x := by rfl) (hx : Loc sc x := by first | exact .inl rfl | exact .inr rfl) : DG G k N sc (.Name x pos) [(x, i)] (gN i) :=
  ⟨fun X c st => pg_imp (pg_name (i := i) (by rw [c.cN]; exact c.cnd) (by rw [c.cN]; exact hN) (by rw [c.csc]; exact hx) (by rw [c.csc]; exact st (x, i) (List.mem_singleton.mpr rfl))) fun v σ H Q h => by
    obtain ⟨En, F, R, E, S, d, rel, rp, h⟩ := h
    exact h F R _ H Le.refl (rel.store (dv := .val d) rp i) ⟨List.length_set, fun j hj => List.getElem?_set_ne fun e => hj (by rw [e]; exact List.mem_singleton.mpr rfl)⟩⟩
theorem dgs_nil : DGs G k N sc [] [] gNilM := ⟨fun X c st => pgs_imp pgs_nil fun v σ H Q h => by
  obtain ⟨En, F, R, E, S, ds, rel, rs, h⟩ := h
  cases rs with
  | nil => exact ⟨rfl, h F R σ H Le.refl rel Same.refl⟩
  | cons _ _ => exact h.elim⟩
theorem dgs_cons (h1 : DG G k N sc e xs g) (h2 : DGs G k N sc es ys gs) (hs : ∀ env, (assignEach (e :: es) env).map (·.2) = assign e env :: (assignEach es env).map (·.2) := by intro _; rfl) : DGs G k N sc (e :: es) (xs ++ ys) (gConsM g gs) :=
  ⟨fun X c st => pgs_imp (pgs_cons (h1.run X c st.left) (h2.run X c st.right) (hs _)) fun v σ H Q h => by
    obtain ⟨En, F, R, E, S, ds, rel, rs, h⟩ := h
    cases rs with
    | nil => exact h.elim
    | cons r rs =>
      rename_i d v ds vs
      refine ⟨_, _, rfl, En, F, R, E, S, d, rel, r, ?_⟩
      change GoG _ _ _ _ _ _ _ _ (match g d E S with | some E1 => gs ds E1 S | none => none) at h
      cases e1 : g d E S with
      | none => rw [e1] at h; exact h.elim
      | some E1 =>
        rw [e1] at h
        dsimp only at h
        refine fun F1 R1 σ1 H1 le r1 sm => ⟨En, F1, R1, E1, S, ds, r1, rs.mono le _ _, ?_⟩
        cases e2 : gs ds E1 S with
        | none => rw [e2] at h; exact h.elim
        | some E2 =>
          rw [e2] at h
          exact fun F2 R2 σ2 H2 l r s => h F2 R2 σ2 H2 (le.trans l) r (sm.app s)⟩
theorem dg_tup {kk n : Nat} (h : DGs G k N sc es xs gs) (hn : ∀ env, (assignEach es env).length = n := by intro _; rfl) (hst : ∀ env, (assignEach es env).findIdx? (·.1) = none := by intro _; rfl) : DG G k N sc (.Tuple es kk pos) xs (gT n gs) :=
  ⟨fun X c st => ⟨fun pins s σ H v u Q I r q => by
    obtain ⟨En, F, R, E, S, d, rel, rp, q⟩ := q
    unfold gT at q
    split at q
    · rename_i ds ev
      split at q
      · rename_i hl
        obtain ⟨p, vs, rfl, h1, h2⟩ := view_tup rel rp ev
        exact (pg_tup (n := n) c.ccalm (h.run X c st) (hn _) (hst _)).run pins s σ H _ u Q I r ⟨p, vs, rfl, by rw [c.cK]; exact h1, by rw [← h2.length]; exact hl, En, F, R, E, S, ds, rel, h2, q⟩
      · exact q.elim
    · rename_i ds ev
      split at q
      · rename_i hl
        obtain ⟨p, vs, rfl, h1, h2⟩ := view_lst rel rp ev
        exact (pg_lst (n := n) c.ccalm (h.run X c st) (hn _) (hst _)).run pins s σ H _ u Q I r ⟨p, vs, rfl, .of h1, by rw [← h2.length]; exact hl, En, F, R, E, S, ds, rel, h2, q⟩
      · exact q.elim
    · rename_i ds ev
      split at q
      · rename_i hl
        obtain ⟨p, vs, rfl, h1, h2⟩ := view_scr rel rp ev
        exact (pg_lst (n := n) c.ccalm (h.run X c st) (hn _) (hst _)).run pins s σ H _ u Q I r ⟨p, vs, rfl, by rw [c.cK]; exact h1, by rw [← h2.length]; exact hl, En, F, R, E, S, ds, rel, h2, q⟩
      · exact q.elim
    · exact q.elim⟩⟩
theorem stD_ok {K : PySem.W.Frag} {En : Ent} {F : Hp} {R : List Addr} {E : Ev} {S : Store} {σ : L2.St} {H : Hp} {Q : L2.St → Hp → Prop} {n i : Nat} {ds : List D} {vs : List V} (rel : Rel K En F R E S σ H) (rs : Reps K F R ds vs) (q : GoG K En F R S xs σ Q (gs (stD n i ds) E S)) (p : Addr) (hp : H p = none) :
    tGs K xs gs (vs.take i ++ [.ref p] ++ (vs.drop i).drop (vs.length + 1 - n)) σ (upd H p (.lst ((vs.drop i).take (vs.length + 1 - n)))) Q := by
  obtain ⟨h1, h2, h3, h4⟩ := rel.fresh hp
  obtain ⟨le, rel2⟩ := (rel.laid (o := .lst ((vs.drop i).take (vs.length + 1 - n))) hp).freeze upd_same h1 h2 h3 h4
  refine ⟨En, _, R, E, S, stD n i ds, rel2, ?_, q.mono le⟩
  unfold stD
  rw [rs.length]
  have rs' := rs.mono le _ _
  exact ((rs'.take i).append (.cons (.lst upd_same ((rs'.drop i).take _)) .nil)).append ((rs'.drop i).drop _)
theorem dg_star {kk n i : Nat} (h : DGs G k N sc es xs gs) (hn : ∀ env, (assignEach es env).length = n := by intro _; rfl) (hst : ∀ env, (assignEach es env).findIdx? (·.1) = some i := by intro _; rfl) : DG G k N sc (.Tuple es kk pos) xs (gSt n i gs) :=
  ⟨fun X c st => ⟨fun pins s σ H v u Q I r q => by
    obtain ⟨En, F, R, E, S, d, rel, rp, q⟩ := q
    have fin : ∀ p vs ds, v = .ref p → (SqT X.K H p vs ∨ SqL X.K H p vs) → Reps G.K F R ds vs → i < n → n ≤ ds.length + 1 → GoG G.K En F R S xs σ Q (gs (stD n i ds) E S) → wpAny (model X.prog X.w) X.A (assign (.Tuple es kk pos) X.env u) (fun _ s' => ∃ σ' H', Inv X pins σ' H' s' ∧ Q σ' H') X.xe s := fun p vs ds ev sq rs hi hl q => by
      subst ev
      exact (pg_star (n := n) (i := i) c.ccalm (h.run X c st) (hn _) (hst _)).run pins s σ H _ u Q I r ⟨p, vs, rfl, sq, hi, by rw [← rs.length]; exact hl, fun p hp => stD_ok rel rs q p hp⟩
    unfold gSt at q
    split at q
    · rename_i ds ev
      split at q
      · rename_i hl
        obtain ⟨p, vs, e, h1, h2⟩ := view_tup rel rp ev
        exact fin p vs ds e (.inl (by rw [c.cK]; exact h1)) h2 hl.1 hl.2 q
      · exact q.elim
    · rename_i ds ev
      split at q
      · rename_i hl
        obtain ⟨p, vs, e, h1, h2⟩ := view_lst rel rp ev
        exact fin p vs ds e (.inr (.of h1)) h2 hl.1 hl.2 q
      · exact q.elim
    · rename_i ds ev
      split at q
      · rename_i hl
        obtain ⟨p, vs, e, h1, h2⟩ := view_scr rel rp ev
        exact fin p vs ds e (.inr (by rw [c.cK]; exact h1)) h2 hl.1 hl.2 q
      · exact q.elim
    · exact q.elim⟩⟩
/-- target = value -/
def setG (m : M DV) (g : MG) : MS := withE m fun dv E S => match g dv.frz E S with
  | some E1 => .nx E1 S
  | none => .bad
theorem ds_asg {tg : Expr} {m : M DV} (he : DE G k N sc e m) (hg : DG G k N sc tg xs g) (hs : ∀ env, swapsWithSole [tg] e pos.line env = pure false := by intro _; rfl) (hw : ∀ env, swappedStores [tg] e env = pure none := by intro _; rfl)
    (h1 : ∀ env, (assignEach [tg] env).map (·.2) = [assign tg env] := by intro _; rfl) : DS G k N sc (.Assign [tg] e pos) (setG m g) :=
  ⟨fun X W c tk => ps_imp (ps_asg (he.run X W c.e tk) (hg.run X c.e fun x _ => .inl (c.cfn x.1)) (hs _) (hw _) (h1 _)) fun D σ H h => by
    obtain ⟨En, F, R, E, S, rel, h⟩ := h
    refine withE_thenF rel h fun F1 R1 H1 dv v S1 le rel1 rp q => ⟨En, F1, R1, E, S1, _, rel1, rp, ?_⟩
    cases e1 : g dv.frz E S1 with
    | none => rw [e1] at q; exact q.elim
    | some E1 => rw [e1] at q; exact fun F2 R2 σ2 H2 l r _ => q F2 R2 σ2 H2 l r⟩
end
end Hm
set_option Elab.async false
set_option linter.all false
set_option maxRecDepth 100000
set_option maxHeartbeats 2000000
namespace Hm
open PySem PySem.Spec L2

/-! ### what is walked -/
structure Wk where
  ds : List D
  gd : Option (Store → Prop)
def Wk.ok (t : Wk) (S : Store) : Prop := match t.gd with
  | none => True
  | some p => p S
def kD : Key → D
  | .inl i => .int i
  | .inr s => .str s
structure WalkD (K : PySem.W.Frag) (F : Hp) (R : List Addr) (J : It) (t : Wk) : Prop where
  ex : ∃ (G : Hp → Prop) (Y : Nat → Hp → V → Hp → Prop), Walk J t.ds.length G Y ∧
    (∀ (En : Ent) (F2 : Hp) (R2 : List Addr) (E : Ev) (S : Store) (σ : L2.St) (H : Hp), Le F R F2 R2 → Rel K En F2 R2 E S σ H → t.ok S → G H) ∧
    (∀ (En : Ent) (F2 : Hp) (R2 : List Addr) (E : Ev) (S : Store) (σ : L2.St) (H : Hp) (i : Nat) (x : V) (H' : Hp), Le F R F2 R2 → Rel K En F2 R2 E S σ H → t.ok S → i < t.ds.length → Y i H x H' →
      ∃ F3 d, Le F2 R2 F3 R2 ∧ Rel K En F3 R2 E S σ H' ∧ t.ds[i]? = some d ∧ Rep K F3 R2 d x)
def tI (K : PySem.W.Frag) (m : M Wk) (W : WX) : TI := fun σ H Q => ∃ (En : Ent) (F : Hp) (R : List Addr) (E : Ev) (S : Store), Rel K En F R E S σ H ∧
  PostX K En F R E σ W (fun F' R' H' t S' => t.ok S' ∧ ∀ (F2 : Hp) (H2 : Hp) (J : It), Le F' R' F2 R' → Rel K En F2 R' E S' σ H2 → WalkD K F2 R' J t → Q J H2) (m E S)
structure DI (G : Gs) (k : Nat) (N : List Str) (sc : Scope) (tg e : Expr) (m : M Wk) : Prop where
  run : ∀ (X : Cx) (W : WX), CtxE G k N sc X → Takes X W → PI X tg e (tI G.K m W)
theorem pi_imp {X : Cx} {tg e : Expr} {t t' : TI} (h : PI X tg e t) (k : ∀ σ H Q, t' σ H Q → t σ H Q) : PI X tg e t' :=
  ⟨fun pins s σ H Q I q => h.run pins s σ H Q I (k σ H Q q)⟩
/-- the dict that came is locked -/
def tLk (t : TE) : TE := fun σ H Q => t σ H fun x H1 => Q x H1 ∨ ∃ d ks, x = .ref d ∧ H1 d = some (.dK ks) ∧ ∀ od, Q x (upd H1 d (.frz od (.dK ks)))
theorem pe_lk {X : Cx} {e : Expr} {t : TE} (h : PE X e t) : PE X e (tLk t) :=
  ⟨fun pins s σ H Q I q => thn (h.run pins s σ H _ I q) fun v s1 ⟨x, H1, I1, r1, q1⟩ => by
    rcases q1 with q1 | ⟨d, ks, rfl, hd, q1⟩
    · exact ⟨x, H1, I1, r1, q1⟩
    · obtain ⟨od, I2⟩ := I1.lock hd trivial
      exact ⟨_, _, I2, r1, q1 od⟩⟩
section
variable {K : PySem.W.Frag} {F : Hp} {R : List Addr} {ds es : List D} {a b : Addr} {vs us : List V}
theorem sq_of {F2 : Hp} {R2 : List Addr} {En : Ent} {E : Ev} {S : Store} {σ : L2.St} {H : Hp} (h : SqL K F a vs) (le : Le F R F2 R2) (rel : Rel K En F2 R2 E S σ H) : SqL K H a vs := sqL_same rel.frz (sqL_mono le h)
theorem sqt_of {F2 : Hp} {R2 : List Addr} {En : Ent} {E : Ev} {S : Store} {σ : L2.St} {H : Hp} (h : SqT K F a vs) (le : Le F R F2 R2) (rel : Rel K En F2 R2 E S σ H) : SqT K H a vs := sqT_same rel.frz (sqT_mono le h)
theorem wd_lst (h : SqL K F a vs) (rs : Reps K F R ds vs) : WalkD K F R (Itl K a) ⟨ds, none⟩ := by
  refine ⟨⟨_, _, by rw [rs.length]; exact walk_list (xs := vs), fun En F2 R2 E S σ H le rel _ => sq_of h le rel, fun En F2 R2 E S σ H i x H' le rel _ hi y => ?_⟩⟩
  obtain ⟨rfl, e⟩ := y
  obtain ⟨d, e1, r1⟩ := rs.get e
  exact ⟨F2, d, Le.refl, rel, e1, r1.mono le _ _⟩
theorem wd_tup (h : SqT K F a vs) (rs : Reps K F R ds vs) : WalkD K F R (Itt K a) ⟨ds, none⟩ := by
  refine ⟨⟨_, _, by rw [rs.length]; exact walk_tup (xs := vs), fun En F2 R2 E S σ H le rel _ => sqt_of h le rel, fun En F2 R2 E S σ H i x H' le rel _ hi y => ?_⟩⟩
  obtain ⟨rfl, e⟩ := y
  obtain ⟨d, e1, r1⟩ := rs.get e
  exact ⟨F2, d, Le.refl, rel, e1, r1.mono le _ _⟩
/-- a cell's list, as long as it stays -/
theorem wd_cell {k : Nat} (hk : R[k]? = some a) : WalkD K F R (Itl K a) ⟨ds, some fun S => S[k]? = some (.lst ds)⟩ := by
  have get : ∀ {En : Ent} {F2 : Hp} {R2 : List Addr} {E : Ev} {S : Store} {σ : L2.St} {H : Hp}, Le F R F2 R2 → Rel K En F2 R2 E S σ H → S[k]? = some (.lst ds) → ∃ vs, SqL K H a vs ∧ Reps K F2 R2 ds vs := fun le rel e => by
    obtain ⟨⟨vs, h1, h2⟩, _⟩ := rel.cell k _ a e (le.r k a hk)
    exact ⟨vs, .of h1, h2⟩
  refine ⟨⟨fun H => ∃ vs, SqL K H a vs ∧ vs.length = ds.length, fun i H x H' => H' = H ∧ ∀ vs, SqL K H a vs → vs[i]? = some x, ⟨fun i H hi ⟨vs, q, l⟩ => ?_, fun H ⟨vs, q, l⟩ => ⟨vs, q, Nat.le_of_eq l⟩, fun i H x H' _ _ y => y⟩, fun En F2 R2 E S σ H le rel ok => ?_, fun En F2 R2 E S σ H i x H' le rel ok hi y => ?_⟩⟩
  · have hi' : i < vs.length := by rw [l]; exact hi
    exact ⟨vs, vs[i], q, List.getElem?_eq_getElem hi'⟩
  · obtain ⟨vs, h1, h2⟩ := get le rel ok
    exact ⟨vs, h1, h2.length.symm⟩
  · obtain ⟨rfl, e⟩ := y
    obtain ⟨vs, h1, h2⟩ := get le rel ok
    obtain ⟨d, e1, r1⟩ := h2.get (e vs h1)
    exact ⟨F2, d, Le.refl, rel, e1, r1⟩
theorem wd_rng {lo : Int} {n : Nat} : WalkD K F R (Itr lo n) ⟨(List.range n).map fun i => .int (lo + (i : Nat)), none⟩ := by
  refine ⟨⟨_, _, by rw [List.length_map, List.length_range]; exact walk_range (lo := lo) (n := n), fun _ _ _ _ _ _ _ _ _ _ => trivial, fun En F2 R2 E S σ H i x H' le rel _ hi y => ?_⟩⟩
  obtain ⟨rfl, rfl⟩ := y
  have hi : i < ((List.range n).map fun i => D.int (lo + (i : Nat))).length := hi
  rw [List.length_map, List.length_range] at hi
  refine ⟨F2, .int (lo + i), Le.refl, rel, ?_, .int _⟩
  show ((List.range n).map fun i => D.int (lo + (i : Nat)))[i]? = _
  rw [List.getElem?_map, List.getElem?_range hi]
  rfl
theorem wd_rngC {lo c : Int} {n : Nat} : WalkD K F R (Itc lo c n) ⟨(List.range n).map fun i => .int (lo + (i : Nat) * c), none⟩ := by
  refine ⟨⟨_, _, by rw [List.length_map, List.length_range]; exact walk_rangeC (lo := lo) (c := c) (n := n), fun _ _ _ _ _ _ _ _ _ _ => trivial, fun En F2 R2 E S σ H i x H' le rel _ hi y => ?_⟩⟩
  obtain ⟨rfl, rfl⟩ := y
  have hi : i < ((List.range n).map fun i => D.int (lo + (i : Nat) * c)).length := hi
  rw [List.length_map, List.length_range] at hi
  refine ⟨F2, .int (lo + i * c), Le.refl, rel, ?_, .int _⟩
  show ((List.range n).map fun i => D.int (lo + (i : Nat) * c))[i]? = _
  rw [List.getElem?_map, List.getElem?_range hi]
  rfl
def signs (z : Str) : List D := z.cps.toList.map fun c => .str ⟨#[c]⟩
theorem wd_str {z : Str} : WalkD K F R (Its z) ⟨signs z, none⟩ := by
  have hl : (signs z).length = z.cps.size := by unfold signs; rw [List.length_map]; simp
  refine ⟨⟨_, _, by rw [hl]; exact walk_str (z := z), fun _ _ _ _ _ _ _ _ _ _ => trivial, fun En F2 R2 E S σ H i x H' le rel _ hi y => ?_⟩⟩
  obtain ⟨rfl, c, e, rfl⟩ := y
  refine ⟨F2, .str ⟨#[c]⟩, Le.refl, rel, ?_, .str _⟩
  show (signs z)[i]? = _
  unfold signs
  rw [List.getElem?_map, Array.getElem?_toList, e]
  rfl
theorem RepK.get : ∀ {ds : List (Key × D)} {vs : List (Key × V)} {i : Nat} {k : Key} {v : V}, RepK K F R ds vs → vs[i]? = some (k, v) → ∃ d, ds[i]? = some (k, d) ∧ Rep K F R d v
  | _, _, _, _, _, .nil, e => by simp at e
  | _, _, 0, _, _, .cons r _, e => by simp at e; obtain ⟨rfl, rfl⟩ := e; exact ⟨_, rfl, r⟩
  | _, _, i + 1, _, _, .cons _ t, e => by
    obtain ⟨d, h1, h2⟩ := RepK.get (i := i) t (by simpa using e)
    exact ⟨d, by simpa using h1, h2⟩
theorem rep_kV {k : Key} : Rep K F R (kD k) (kV k) := by
  cases k with
  | inl i => exact .int i
  | inr s => exact .str s
theorem wd_keys {o : Obj} {kvs : List (Key × D)} {ks : List (Key × V)} (h : F a = some (.frz o (.dK ks))) (rs : RepK K F R kvs ks) : WalkD K F R (Itk a o ks) ⟨kvs.map fun kv => kD kv.1, none⟩ := by
  refine ⟨⟨_, _, by rw [List.length_map, rs.length]; exact walk_keys (o := o) (d := a) (kvs := ks), fun En F2 R2 E S σ H le rel _ => rel.frz _ _ (le.at_ h lk_frz), fun En F2 R2 E S σ H i x H' le rel _ hi y => ?_⟩⟩
  obtain ⟨rfl, k, v, e, rfl⟩ := y
  obtain ⟨d, e1, r1⟩ := rs.get e
  refine ⟨F2, kD k, Le.refl, rel, ?_, rep_kV⟩
  show (kvs.map fun kv => kD kv.1)[i]? = _
  rw [List.getElem?_map, e1]
  rfl
theorem wd_vals {o : Obj} {kvs : List (Key × D)} {ks : List (Key × V)} (h : F a = some (.frz o (.dK ks))) (rs : RepK K F R kvs ks) : WalkD K F R (Itd a o ks) ⟨kvs.map fun kv => kv.2, none⟩ := by
  refine ⟨⟨_, _, by rw [List.length_map, rs.length]; exact walk_values (o := o) (d := a) (kvs := ks), fun En F2 R2 E S σ H le rel _ => rel.frz _ _ (le.at_ h lk_frz), fun En F2 R2 E S σ H i x H' le rel _ hi y => ?_⟩⟩
  obtain ⟨rfl, k, e⟩ := y
  obtain ⟨d, e1, r1⟩ := rs.get e
  refine ⟨F2, d, Le.refl, rel, ?_, r1.mono le _ _⟩
  show (kvs.map fun kv => kv.2)[i]? = _
  rw [List.getElem?_map, e1]
  rfl
/-- a new pair -/
theorem pair_new {En : Ent} {F2 : Hp} {R2 : List Addr} {E : Ev} {S : Store} {σ : L2.St} {H : Hp} {T : Addr} {x y : V} {d e : D} (rel : Rel K En F2 R2 E S σ H) (hT : H T = none) (rx : Rep K F2 R2 d x) (ry : Rep K F2 R2 e y) :
    ∃ F3, Le F2 R2 F3 R2 ∧ Rel K En F3 R2 E S σ (upd H T (.tup [x, y])) ∧ Rep K F3 R2 (.tup [d, e]) (.ref T) := by
  obtain ⟨h1, h2, h3, h4⟩ := rel.fresh hT
  obtain ⟨le, rel2⟩ := (rel.laid (o := .tup [x, y]) hT).freeze upd_same h1 h2 h3 h4
  exact ⟨_, le, rel2, .tup (.of upd_same) (.cons (rx.mono le _ _) (.cons (ry.mono le _ _) .nil))⟩
theorem wd_pair {J : It} {n : Nat} {xs ys : Nat → Option V} {ds : List D} {G : Hp → Prop} (wk : Walk J n G (YPair xs ys)) (hn : n = ds.length) (hG : ∀ (En : Ent) (F2 : Hp) (R2 : List Addr) (E : Ev) (S : Store) (σ : L2.St) (H : Hp), Le F R F2 R2 → Rel K En F2 R2 E S σ H → G H)
    (hd : ∀ (i : Nat) (x y : V), xs i = some x → ys i = some y → ∃ d e, ds[i]? = some (.tup [d, e]) ∧ Rep K F R d x ∧ Rep K F R e y) : WalkD K F R J ⟨ds, none⟩ := by
  subst hn
  refine ⟨⟨G, _, wk, fun En F2 R2 E S σ H le rel _ => hG En F2 R2 E S σ H le rel, fun En F2 R2 E S σ H i x H' le rel _ hi y => ?_⟩⟩
  obtain ⟨T, x1, y1, rfl, hT, rfl, e1, e2⟩ := y
  obtain ⟨d, e, e3, r1, r2⟩ := hd i x1 y1 e1 e2
  obtain ⟨F3, le3, rel3, rp⟩ := pair_new rel hT (r1.mono le _ _) (r2.mono le _ _)
  exact ⟨F3, _, le3, rel3, e3, rp⟩
theorem wd_items {o : Obj} {kvs : List (Key × D)} {ks : List (Key × V)} (h : F a = some (.frz o (.dK ks))) (rs : RepK K F R kvs ks) : WalkD K F R (Iti a o ks) ⟨kvs.map fun kv => .tup [kD kv.1, kv.2], none⟩ := by
  refine wd_pair (walk_items (o := o) (d := a) (kvs := ks)) (by rw [List.length_map, rs.length]) (fun En F2 R2 E S σ H le rel => rel.frz _ _ (le.at_ h lk_frz)) fun i x y e1 e2 => ?_
  cases e : ks[i]? with
  | none => rw [e] at e1; cases e1
  | some kv =>
    obtain ⟨k, v⟩ := kv
    rw [e] at e1 e2
    cases e1
    cases e2
    obtain ⟨d, e3, r1⟩ := rs.get e
    exact ⟨kD k, d, by rw [List.getElem?_map, e3]; rfl, rep_kV, r1⟩
def enumL : Nat → List D → List D
  | _, [] => []
  | n, d :: ds => .tup [.int (n : Nat), d] :: enumL (n + 1) ds
theorem enumL_length : ∀ (n : Nat) (ds : List D), (enumL n ds).length = ds.length
  | _, [] => rfl
  | n, _ :: ds => congrArg (· + 1) (enumL_length (n + 1) ds)
theorem enumL_get : ∀ (n : Nat) (ds : List D) (i : Nat) (d : D), ds[i]? = some d → (enumL n ds)[i]? = some (.tup [.int ((n + i : Nat)), d])
  | _, [], _, _, e => by simp at e
  | n, _ :: ds, 0, _, e => by simp at e; subst e; rfl
  | n, _ :: ds, i + 1, d, e => by
    show (enumL (n + 1) ds)[i]? = _
    rw [enumL_get (n + 1) ds i d (by simpa using e), show n + 1 + i = n + (i + 1) by omega]
theorem wd_enum (h : SqL K F a vs) (rs : Reps K F R ds vs) : WalkD K F R (Ite K a) ⟨enumL 0 ds, none⟩ := by
  refine wd_pair (walk_enum (a := a) (xs := vs)) (by rw [enumL_length, rs.length]) (fun En F2 R2 E S σ H le rel => sq_of h le rel) fun i x y e1 e2 => ?_
  cases e1
  obtain ⟨d, e3, r1⟩ := rs.get e2
  exact ⟨.int (i : Nat), d, by rw [enumL_get 0 ds i d e3, Nat.zero_add], .int _, r1⟩
def zipL : List D → List D → List D
  | d :: ds, e :: es => .tup [d, e] :: zipL ds es
  | _, _ => []
theorem zipL_length : ∀ (ds es : List D), (zipL ds es).length = min ds.length es.length
  | [], _ => by simp [zipL]
  | _ :: _, [] => by simp [zipL]
  | _ :: ds, _ :: es => by simp [zipL, zipL_length ds es]
theorem zipL_get : ∀ (ds es : List D) (i : Nat) (d e : D), ds[i]? = some d → es[i]? = some e → (zipL ds es)[i]? = some (.tup [d, e])
  | [], _, _, _, _, e, _ => by simp at e
  | _ :: _, [], _, _, _, _, e => by simp at e
  | _ :: ds, _ :: es, 0, _, _, e1, e2 => by simp at e1 e2; subst e1 e2; rfl
  | _ :: ds, _ :: es, i + 1, d, e, e1, e2 => by
    show (zipL ds es)[i]? = _
    exact zipL_get ds es i d e (by simpa using e1) (by simpa using e2)
theorem wd_zip (h : SqL K F a vs) (g : SqL K F b us) (rs : Reps K F R ds vs) (qs : Reps K F R es us) : WalkD K F R (Itz K a b) ⟨zipL ds es, none⟩ := by
  refine wd_pair (walk_zip (a := a) (b := b) (xs := vs) (ys := us) rfl) (by rw [zipL_length, rs.length, qs.length]) (fun En F2 R2 E S σ H le rel => ⟨sq_of h le rel, sq_of g le rel⟩) fun i x y e1 e2 => ?_
  obtain ⟨d, e3, r1⟩ := rs.get e1
  obtain ⟨e, e4, r2⟩ := qs.get e2
  exact ⟨d, e, zipL_get ds es i d e e3 e4, r1, r2⟩
end
end Hm
set_option Elab.async false
set_option linter.all false
set_option maxRecDepth 100000
set_option maxHeartbeats 2000000
namespace Hm
open PySem PySem.Spec L2

/-! ### iterables -/
def itV (d : D) (S : Store) : Option Wk := match d with
  | .ref k => (match S[k]? with
    | some (.lst ds) => some ⟨ds, some fun S => S[k]? = some (.lst ds)⟩
    | _ => none)
  | .lst ds => some ⟨ds, none⟩
  | .scr ds => some ⟨ds, none⟩
  | .tup ds => some ⟨ds, none⟩
  | .str z => some ⟨signs z, none⟩
  | .dct kvs => some ⟨kvs.map fun kv => kD kv.1, none⟩
  | _ => none
theorem itV_ref {j : Nat} {S : Store} {t : Wk} (h : itV (.ref j) S = some t) : ∃ ds, S[j]? = some (.lst ds) ∧ t = ⟨ds, some fun S => S[j]? = some (.lst ds)⟩ := by
  cases e : S[j]? with
  | none => simp only [itV, e] at h; cases h
  | some c => cases c with
    | lst ds => simp only [itV, e] at h; cases h; exact ⟨ds, rfl, rfl⟩
    | dct ds => simp only [itV, e] at h; cases h
    | ins c fs => simp only [itV, e] at h; cases h
    | exc c fs => simp only [itV, e] at h; cases h
def mWk (f : D → Store → Option Wk) (m : M DV) : M Wk := bnd m fun x _ S => match f x.frz S with
  | some t => .ok t S
  | none => .bad
section
variable {K : PySem.W.Frag} {En : Ent} {F : Hp} {R : List Addr} {E : Ev} {S : Store} {σ : L2.St} {H : Hp} {W : WX} {Q : It → Hp → Prop}
/-- what is wished behind an iterable -/
def Wis (K : PySem.W.Frag) (En : Ent) (E : Ev) (σ : L2.St) (Q : It → Hp → Prop) (F : Hp) (R : List Addr) (t : Wk) (S : Store) : Prop :=
  t.ok S ∧ ∀ (F2 : Hp) (H2 : Hp) (J : It), Le F R F2 R → Rel K En F2 R E S σ H2 → WalkD K F2 R J t → Q J H2
theorem Wis.mono {F' : Hp} {R' : List Addr} {t : Wk} (le : Le F R F' R) (h : Wis K En E σ Q F R t S) : Wis K En E σ Q F' R t S := ⟨h.1, fun F2 H2 J l r w => h.2 F2 H2 J (le.trans l) r w⟩
theorem wk_then {f : D → Store → Option Wk} {m : M DV} {k : V → Hp → Prop} (rel : Rel K En F R E S σ H) (h : PostX K En F R E σ W (fun F' R' H' t S' => Wis K En E σ Q F' R' t S') (mWk f m E S))
    (hk : ∀ F1 R1 H1 x v S1 t, m E S = .ok x S1 → f x.frz S1 = some t → Le F R F1 R1 → Rel K En F1 R1 E S1 σ H1 → Rep K F1 R1 x.frz v → Wis K En E σ Q F1 R1 t S1 → k v H1) : tD K m W σ H k := by
  cases e : m E S with
  | bad => unfold mWk bnd at h; rw [e] at h; exact h.elim
  | ex c fs S1 => unfold mWk bnd at h; rw [e] at h; exact ⟨En, F, R, E, S, rel, by rw [e]; exact h⟩
  | ok x S1 =>
    unfold mWk bnd at h
    rw [e] at h
    dsimp only at h
    cases e2 : f x.frz S1 with
    | none => rw [e2] at h; exact h.elim
    | some t =>
      rw [e2] at h
      refine ⟨En, F, R, E, S, rel, ?_⟩
      rw [e]
      intro F1 R1 H1 le rel1 v hv
      obtain ⟨F2, le2, rel2, rp⟩ := hv.freeze rel1
      exact hk F2 R1 H1 x v S1 t e e2 (le.trans le2) rel2 rp (Wis.mono le2 (R' := R1) (h F1 R1 H1 le rel1))
end
section
variable {G : Gs} {k : Nat} {N : List Str} {sc : Scope} {tg e : Expr} {m : M DV} {pos p : Pos} {xs : List (Str × Nat)} {g : MG}
theorem di_val (he : DE G k N sc e m) : DI G k N sc tg e (mWk itV m) :=
  ⟨fun X W c tk => ⟨fun pins s σ H Q I h => by
    obtain ⟨En, F, R, E, S, rel, h⟩ := h
    have h' : PostX G.K En F R E σ W (fun F' R' H' t S' => Wis G.K En E σ Q F' R' t S') (mWk itV m E S) := h
    have pe := he.run X W c tk
    have viaL : (∀ x S1 t, m E S = .ok x S1 → itV x.frz S1 = some t → ∀ F1 R1 H1 v, Rel G.K En F1 R1 E S1 σ H1 → Rep G.K F1 R1 x.frz v → ∃ a, v = .ref a ∧ (∃ xs, SqL G.K H1 a xs) ∧ WalkD G.K F1 R1 (Itl G.K a) t) → iList X.K (tD G.K m W) σ H Q := fun hh => by
      refine wk_then rel h' fun F1 R1 H1 x v S1 t e1 e2 le rel1 rp w => ?_
      obtain ⟨a, ea, hs, wd⟩ := hh x S1 t e1 e2 F1 R1 H1 v rel1 rp
      refine ⟨a, ea, by rw [c.cK]; exact hs, ?_⟩
      rw [c.cK]
      exact w.2 F1 H1 _ Le.refl rel1 wd
    cases e1 : m E S with
    | bad => unfold mWk bnd at h; rw [e1] at h; exact h.elim
    | ex cc fs S1 => exact (pi_list pe).run pins s σ H Q I (viaL fun x S1 t z => by rw [e1] at z; cases z)
    | ok x S1 =>
      have go : ∀ d, x.frz = d → wpAny (model X.prog X.w) X.A (eval e X.env) (fun v s1 => wpAny (model X.prog X.w) X.A (pyIter v) (PIE X pins σ tg Q) X.xe s1) X.xe s := fun d ed => by
        have nope : itV d S1 = none → wpAny (model X.prog X.w) X.A (eval e X.env) (fun v s1 => wpAny (model X.prog X.w) X.A (pyIter v) (PIE X pins σ tg Q) X.xe s1) X.xe s := fun z => by
          unfold mWk bnd at h
          rw [e1] at h
          dsimp only at h
          rw [ed, z] at h
          exact h.elim
        cases d with
        | lst ds =>
          refine (pi_list pe).run pins s σ H Q I (viaL fun x' S1' t z z2 F1 R1 H1 v rel1 rp => ?_)
          rw [e1] at z
          cases z
          rw [ed] at rp z2
          cases z2
          cases rp with
          | lst h1 h2 => exact ⟨_, rfl, ⟨_, .of (rel1.frz _ _ h1)⟩, wd_lst (.of h1) h2⟩
        | scr ds =>
          refine (pi_list pe).run pins s σ H Q I (viaL fun x' S1' t z z2 F1 R1 H1 v rel1 rp => ?_)
          rw [e1] at z
          cases z
          rw [ed] at rp z2
          cases z2
          cases rp with
          | scr h1 h2 => exact ⟨_, rfl, ⟨_, sqL_same rel1.frz h1⟩, wd_lst h1 h2⟩
        | ref j =>
          refine (pi_list pe).run pins s σ H Q I (viaL fun x' S1' t z z2 F1 R1 H1 v rel1 rp => ?_)
          rw [e1] at z
          cases z
          rw [ed] at rp z2
          cases rp with
          | ref hk =>
            rename_i a
            obtain ⟨ds, hs, rfl⟩ := itV_ref z2
            obtain ⟨⟨vs, h1, h2⟩, _⟩ := rel1.cell _ _ a hs hk
            exact ⟨a, rfl, ⟨vs, .of h1⟩, wd_cell hk⟩
        | tup ds =>
          refine (pi_tup pe).run pins s σ H Q I ?_
          refine wk_then rel h' fun F1 R1 H1 x' v S1' t z z2 le rel1 rp w => ?_
          rw [e1] at z
          cases z
          rw [ed] at rp z2
          cases z2
          cases rp with
          | tup h1 h2 =>
            refine ⟨_, rfl, ⟨_, by rw [c.cK]; exact sqT_same rel1.frz h1⟩, ?_⟩
            rw [c.cK]
            exact w.2 F1 H1 _ Le.refl rel1 (wd_tup h1 h2)
        | str zz =>
          refine (pi_str pe).run pins s σ H Q I ?_
          refine wk_then rel h' fun F1 R1 H1 x' v S1' t z z2 le rel1 rp w => ?_
          rw [e1] at z
          cases z
          rw [ed] at rp z2
          cases z2
          cases rp
          exact ⟨_, rfl, w.2 F1 H1 _ Le.refl rel1 wd_str⟩
        | dct kvs =>
          refine (pi_keys (pe_lk pe)).run pins s σ H Q I ?_
          refine wk_then rel h' fun F1 R1 H1 x' v S1' t z z2 le rel1 rp w => ?_
          rw [e1] at z
          cases z
          rw [ed] at rp z2
          cases z2
          cases rp with
          | dct h1 h2 =>
            rename_i a ks
            rcases h1 with h1 | ⟨od, h1⟩
            · refine .inr ⟨a, ks, rfl, rel1.frz _ _ h1, fun od => ?_⟩
              obtain ⟨le2, rel2⟩ := rel1.lock (od := od) h1
              exact ⟨a, od, rfl, .inl ⟨ks, upd_same, w.2 _ _ _ le2 rel2 (wd_keys upd_same (h2.mono le2 _ _))⟩⟩
            · exact .inl ⟨a, od, rfl, .inl ⟨ks, rel1.frz _ _ h1, w.2 F1 H1 _ Le.refl rel1 (wd_keys h1 h2)⟩⟩
        | non => exact nope rfl
        | bl b => exact nope rfl
        | int i => exact nope rfl
        | ty n => exact nope rfl
        | obj n => exact nope rfl
      exact go _ rfl⟩⟩
/-! ranges -/
def fit62 (i : Int) : Bool := decide (-(2 ^ 62) ≤ i) && decide (i < 2 ^ 62)
theorem fit62_ok {i : Int} (h : fit62 i = true) : -(2 ^ 62) ≤ i ∧ i < 2 ^ 62 := by
  unfold fit62 at h
  simp only [Bool.and_eq_true, decide_eq_true_eq] at h
  exact h
def rngL (lo : Int) (n : Nat) : Wk := ⟨(List.range n).map fun i => .int (lo + (i : Nat)), none⟩
def rngC (lo c : Int) (n : Nat) : Wk := ⟨(List.range n).map fun i => .int (lo + (i : Nat) * c), none⟩
def mR1 (ms : M (List D)) : M Wk := bnd ms fun ds _ S => match ds with
  | [.int j] => if fit62 j then .ok (rngL 0 j.toNat) S else .bad
  | _ => .bad
def mR2 (ms : M (List D)) : M Wk := bnd ms fun ds _ S => match ds with
  | [.int i, .int j] => if fit62 i && fit62 j then .ok (rngL i (j - i).toNat) S else .bad
  | _ => .bad
theorem reps1 {K : PySem.W.Frag} {F : Hp} {R : List Addr} {d : D} {vs : List V} (h : Reps K F R [d] vs) : ∃ v, vs = [v] ∧ Rep K F R d v := by
  cases h with
  | cons r t => cases t; exact ⟨_, rfl, r⟩
theorem reps2 {K : PySem.W.Frag} {F : Hp} {R : List Addr} {d e : D} {vs : List V} (h : Reps K F R [d, e] vs) : ∃ v w, vs = [v, w] ∧ Rep K F R d v ∧ Rep K F R e w := by
  cases h with
  | cons r t => cases t with
    | cons r2 t => cases t; exact ⟨_, _, rfl, r, r2⟩
theorem di_rng1 {ms : M (List D)} (hm : G.mg "range" = none) (ha : DA G k N sc [e] ms) (hg : sc.names.lookup ("range" : Str) = some .globalImplicit := by rfl) (hs : ∀ env, starEach [e] env = [(false, eval e env)] := by intro _; rfl) : DI G k N sc tg (.Call (.Name "range" p) [e] [] pos) (mR1 ms) :=
  ⟨fun X W c tk => pi_imp (pi_range1 (gl_of c hg) (by rw [c.cmg]; exact hm) (ha.run X W c tk) (hs _)) fun σ H Q h => by
    obtain ⟨En, F, R, E, S, rel, h⟩ := h
    refine tA_then rel h fun F1 R1 H1 ds vs S1 le rel1 rs h1 => ?_
    split at h1
    · rename_i j
      split at h1
      · rename_i hf
        obtain ⟨v, rfl, r⟩ := reps1 rs
        cases r
        obtain ⟨q1, q2⟩ := fit62_ok hf
        exact ⟨j, rfl, q1, q2, (h1 F1 R1 H1 Le.refl rel1).2 F1 H1 _ Le.refl rel1 wd_rng⟩
      · exact h1.elim
    · exact h1.elim⟩
theorem di_rng2 {a b : Expr} {ms : M (List D)} (hm : G.mg "range" = none) (ha : DA G k N sc [a, b] ms) (hg : sc.names.lookup ("range" : Str) = some .globalImplicit := by rfl) (hs : ∀ env, starEach [a, b] env = [(false, eval a env), (false, eval b env)] := by intro _; rfl)
    (hs2 : ∀ env, starEach [b] env = [(false, eval b env)] := by intro _; rfl) : DI G k N sc tg (.Call (.Name "range" p) [a, b] [] pos) (mR2 ms) :=
  ⟨fun X W c tk => pi_imp (pi_range2 (gl_of c hg) (by rw [c.cmg]; exact hm) (ha.run X W c tk) (hs _) (hs2 _)) fun σ H Q h => by
    obtain ⟨En, F, R, E, S, rel, h⟩ := h
    refine tA_then rel h fun F1 R1 H1 ds vs S1 le rel1 rs h1 => ?_
    split at h1
    · rename_i i j
      split at h1
      · rename_i hf
        obtain ⟨v, w, rfl, r1, r2⟩ := reps2 rs
        cases r1
        cases r2
        rw [Bool.and_eq_true] at hf
        obtain ⟨q1, q2⟩ := fit62_ok hf.1
        obtain ⟨q3, q4⟩ := fit62_ok hf.2
        exact ⟨i, j, rfl, ⟨q1, q2, q3, q4⟩, (h1 F1 R1 H1 Le.refl rel1).2 F1 H1 _ Le.refl rel1 wd_rng⟩
      · exact h1.elim
    · exact h1.elim⟩
/-! dicts by their methods -/
def dctV (f : Key × D → D) (d : D) (_ : Store) : Option Wk := match d with
  | .dct kvs => some ⟨kvs.map f, none⟩
  | _ => none
theorem dct_then {f : Key × D → D} {X : Cx} {W : WX} {σ : L2.St} {H : Hp} {Q : It → Hp → Prop} {J : Addr → Obj → List (Key × V) → It} (h : tI G.K (mWk (dctV f) m) W σ H Q)
    (wd : ∀ (F : Hp) (R : List Addr) (a : Addr) (o : Obj) (kvs : List (Key × D)) (ks : List (Key × V)), F a = some (.frz o (.dK ks)) → RepK G.K F R kvs ks → WalkD G.K F R (J a o ks) ⟨kvs.map f, none⟩) :
    tLk (tD G.K m W) σ H fun x H1 => ∃ d o kvs, x = .ref d ∧ H1 d = some (.frz o (.dK kvs)) ∧ Q (J d o kvs) H1 := by
  obtain ⟨En, F, R, E, S, rel, h⟩ := h
  have h' : PostX G.K En F R E σ W (fun F' R' H' t S' => Wis G.K En E σ Q F' R' t S') (mWk (dctV f) m E S) := h
  refine wk_then rel h' fun F1 R1 H1 x v S1 t z z2 le rel1 rp w => ?_
  cases ed : x.frz with
  | dct kvs =>
    rw [ed] at rp z2
    cases z2
    cases rp with
    | dct h1 h2 =>
      rename_i a ks
      rcases h1 with h1 | ⟨od, h1⟩
      · refine .inr ⟨a, ks, rfl, rel1.frz _ _ h1, fun od => ?_⟩
        obtain ⟨le2, rel2⟩ := rel1.lock (od := od) h1
        exact ⟨a, od, ks, rfl, upd_same, w.2 _ _ _ le2 rel2 (wd _ _ _ _ _ _ upd_same (h2.mono le2 _ _))⟩
      · exact .inl ⟨a, od, ks, rfl, rel1.frz _ _ h1, w.2 F1 H1 _ Le.refl rel1 (wd _ _ _ _ _ _ h1 h2)⟩
  | _ => rw [ed] at z2; cases z2
theorem di_items {apos cpos tpos : Pos} {elts : List Expr} {kk : Nat} (he : DE G k N sc e m) (hbase : ∀ env, attributeBase e "items" env (eval e env) = eval e env := by intro _; rfl) (hline : (apos.endLine == cpos.line) = true := by rfl) :
    DI G k N sc (.Tuple elts kk tpos) (.Call (.Attribute e "items" apos) [] [] cpos) (mWk (dctV fun kv => .tup [kD kv.1, kv.2]) m) :=
  ⟨fun X W c tk => pi_imp (pi_items (pe_lk (he.run X W c tk)) (hbase _) hline) fun σ H Q h => dct_then (X := X) h fun F R a o kvs ks h1 h2 => wd_items h1 h2⟩
theorem di_values {apos cpos : Pos} (he : DE G k N sc e m) (hbase : ∀ env, attributeBase e "values" env (eval e env) = eval e env := by intro _; rfl) (hline : (apos.endLine == cpos.line) = true := by rfl) :
    DI G k N sc tg (.Call (.Attribute e "values" apos) [] [] cpos) (mWk (dctV fun kv => kv.2) m) :=
  ⟨fun X W c tk => pi_imp (pi_values (pe_lk (he.run X W c tk)) (hbase _) hline) fun σ H Q h => dct_then (X := X) h fun F R a o kvs ks h1 h2 => wd_vals h1 h2⟩
theorem di_keys {apos cpos : Pos} (he : DE G k N sc e m) (hbase : ∀ env, attributeBase e "keys" env (eval e env) = eval e env := by intro _; rfl) (hline : (apos.endLine == cpos.line) = true := by rfl) :
    DI G k N sc tg (.Call (.Attribute e "keys" apos) [] [] cpos) (mWk (dctV fun kv => kD kv.1) m) :=
  ⟨fun X W c tk => pi_imp (pi_keysM (pe_lk (he.run X W c tk)) (hbase _) hline) fun σ H Q h => dct_then (X := X) h fun F R a o kvs ks h1 h2 => wd_keys h1 h2⟩
end
end Hm
set_option Elab.async false
set_option linter.all false
set_option maxRecDepth 100000
set_option maxHeartbeats 2000000
namespace Hm
open PySem PySem.Spec L2

/-! ### for -/
open Classical in
noncomputable def chk {α : Type} (t : Wk) (S : Store) (z r : α) : α := match t.gd with
  | none => r
  | some p => if p S then r else z
theorem chk_cases {α : Type} (t : Wk) (S : Store) (z r : α) : (t.ok S ∧ chk t S z r = r) ∨ chk t S z r = z := by
  unfold Wk.ok chk
  cases t.gd with
  | none => exact .inl ⟨trivial, rfl⟩
  | some p =>
    by_cases h : p S
    · exact .inl ⟨h, if_pos h⟩
    · exact .inr (if_neg h)
noncomputable def loopS (g : MG) (b : MS) (t : Wk) : List D → Ev → Store → RS
  | [], E, S => chk t S .bad (.nx E S)
  | d :: ds, E, S => chk t S .bad (match g d E S with
    | none => .bad
    | some E1 => (match b E1 S with
      | .nx E2 S2 => loopS g b t ds E2 S2
      | .ct E2 S2 => loopS g b t ds E2 S2
      | .bk E2 S2 => .nx E2 S2
      | r => r))
noncomputable def forS (mi : M Wk) (g : MG) (b : MS) : MS := withE mi fun t E S => loopS g b t t.ds E S
theorem loop_ok {K : PySem.W.Frag} {En : Ent} {F : Hp} {R : List Addr} {D : Ends} {W : WX} {g : MG} {b : MS} {t : Wk} : ∀ {ds : List Hm.D} {E : Ev} {S : Store}, PostS K En F R D W (loopS g b t ds E S) → t.ok S
  | [], E, S, h => by
    unfold loopS at h
    rcases chk_cases t S RS.bad (.nx E S) with ⟨q, _⟩ | q
    · exact q
    · rw [q] at h; exact h.elim
  | d :: ds, E, S, h => by
    unfold loopS at h
    rcases chk_cases t S RS.bad _ with ⟨q, _⟩ | q
    · exact q
    · rw [q] at h; exact h.elim
section
variable {G : Gs} {k : Nat} {N : List Str} {sc : Scope} {tg e : Expr} {pos p : Pos} {xs : List (Str × Nat)} {g : MG} {mi : M Wk} {b : MS}
theorem ds_for {body : List Stmt} (hi : DI G k N sc tg e mi) (hg : DG G k N sc tg xs g) (hb : DSs G k N sc body b) (hs : ∀ env x, foldedSetIterable e env x = pure x := by intro _ _; rfl) : DS G k N sc (.For tg e body [] pos) (forS mi g b) :=
  ⟨fun X W c tk => ps_imp (ps_for c.pas c.e.ccalm (hi.run X W c.e tk) (hg.run X c.e fun x _ => .inl (c.cfn x.1)) (hb.run X W c tk) (hs _)) fun D σ H h => by
    obtain ⟨En, F, R, E, S, rel, h⟩ := h
    refine ⟨En, F, R, E, S, rel, (post_with rel h).imp fun F1 R1 H1 t S1 le rel1 q => ⟨loop_ok q, fun F2 H2 J le2 rel2 wd => ?_⟩⟩
    obtain ⟨⟨Gp, Y, wk, hG, hY⟩⟩ := wd
    refine for_it wk (fun i σ' H' => ∃ F' R' E' S', Le F2 R1 F' R' ∧ Rel G.K En F' R' E' S' σ' H' ∧ PostS G.K En F' R' D W (loopS g b t (t.ds.drop i) E' S')) ?_ ?_ ?_ ?_
    · exact ⟨F2, R1, E, S1, Le.refl, rel2, q.mono le2⟩
    · rintro i σ' H' hi ⟨F', R', E', S', l, r, p⟩
      exact hG En F' R' E' S' σ' H' l r (loop_ok p)
    · rintro i x σ' H' H3 hi ⟨F', R', E', S', l, r, p⟩ y
      obtain ⟨F3, d, le3, rel3, e3, rp⟩ := hY En F' R' E' S' σ' H' i x H3 l r (loop_ok p) hi y
      have hd : t.ds.drop i = d :: t.ds.drop (i + 1) := by
        rw [List.drop_eq_getElem_cons hi, (List.getElem?_eq_some_iff.mp e3).2]
      rw [hd] at p
      unfold loopS at p
      rcases chk_cases t S' RS.bad _ with ⟨_, z⟩ | z
      · rw [z] at p
        refine ⟨En, F3, R', E', S', d, rel3, rp, ?_⟩
        cases eg : g d E' S' with
        | none => rw [eg] at p; exact p.elim
        | some E1 =>
          rw [eg] at p
          dsimp only at p
          intro F4 R4 σ4 H4 le4 rel4 _
          refine ⟨En, F4, R4, E1, S', rel4, ?_⟩
          have le5 := le3.trans le4
          cases eb : b E1 S' with
          | nx E2 S2 =>
            rw [eb] at p
            exact fun F5 R5 σ5 H5 l5 r5 => ⟨F5, R5, E2, S2, l.trans (le5.trans l5), r5, PostS.mono (le5.trans l5) p⟩
          | ct E2 S2 =>
            rw [eb] at p
            exact fun F5 R5 σ5 H5 l5 r5 => ⟨F5, R5, E2, S2, l.trans (le5.trans l5), r5, PostS.mono (le5.trans l5) p⟩
          | bk E2 S2 =>
            rw [eb] at p
            exact fun F5 R5 σ5 H5 l5 r5 => p F5 R5 σ5 H5 (le5.trans l5) r5
          | rt dv S2 =>
            rw [eb] at p
            exact fun F5 R5 H5 v l5 r5 q5 => p F5 R5 H5 v (le5.trans l5) r5 q5
          | ex c fs E2 S2 =>
            rw [eb] at p
            exact fun F5 R5 σ5 H5 d vfs l5 r5 hd rf => p F5 R5 σ5 H5 d vfs (le5.trans l5) r5 hd rf
          | bad => rw [eb] at p; exact p.elim
      · rw [z] at p; exact p.elim
    · rintro σ' H' ⟨F', R', E', S', l, r, p⟩
      have hn : t.ds.drop t.ds.length = [] := List.drop_length
      rw [hn] at p
      unfold loopS at p
      rcases chk_cases t S' RS.bad (.nx E' S') with ⟨_, z⟩ | z
      · rw [z] at p; exact p F' R' σ' H' Le.refl r
      · rw [z] at p; exact p.elim⟩
end

/-! ### comprehensions -/
def valOnly : Option DV → Option DV
  | some (.val d) => some (.val d)
  | _ => none
def wipeE (E : Ev) : List Nat → Ev
  | [] => E
  | v :: vs => (wipeE E vs).set v none
/-- the slots in a comprehension's block -/
def innerE (own : List (Str × Nat)) (E : Ev) : Ev := wipeE (E.map valOnly) (own.map (·.2))
noncomputable def compL (g : MG) (t : M Bool) (e : M DV) (w : Wk) (E0 : Ev) : List D → List D → Store → Res (List D)
  | [], acc, S => chk w S .bad (.ok acc S)
  | d :: ds, acc, S => chk w S .bad (match g d E0 S with
    | none => .bad
    | some E1 => (match t E1 S with
      | .ok true S1 => (match e E1 S1 with
        | .ok x S2 => if acc.length < sizeLine then compL g t e w E0 ds (acc ++ [x.frz]) S2 else .bad
        | _ => .bad)
      | .ok false S1 => compL g t e w E0 ds acc S1
      | _ => .bad))
noncomputable def mLc (mi : M Wk) (g : MG) (t : M Bool) (e : M DV) (own : List (Str × Nat)) : M DV := bnd mi fun w E S => match compL g t e w (innerE own E) w.ds [] S with
  | .ok ds S1 => .ok (.ol ds) S1
  | _ => .bad
def mYes : M Bool := fun _ S => .ok true S
theorem compL_ok {g : MG} {t : M Bool} {e : M DV} {w : Wk} {E0 : Ev} {r : List D} {S1 : Store} : ∀ {ds acc : List D} {S : Store}, compL g t e w E0 ds acc S = .ok r S1 → w.ok S
  | [], acc, S, h => by
    unfold compL at h
    rcases chk_cases w S Res.bad (Res.ok acc S) with ⟨q, _⟩ | q
    · exact q
    · rw [q] at h; cases h
  | d :: ds, acc, S, h => by
    unfold compL at h
    rcases chk_cases w S Res.bad _ with ⟨q, _⟩ | q
    · exact q
    · rw [q] at h; cases h
section
variable {K : PySem.W.Frag} {En : Ent} {F F' : Hp} {R R' : List Addr} {E E' : Ev} {S S' : Store} {σ σ' : L2.St} {H H' : Hp} {W : WX}
theorem wipeE_length (E : Ev) : ∀ vs : List Nat, (wipeE E vs).length = E.length
  | [] => rfl
  | v :: vs => by unfold wipeE; rw [List.length_set, wipeE_length E vs]
theorem wipeE_get {E : Ev} : ∀ {vs : List Nat} {j : Nat} {x : DV}, (wipeE E vs)[j]? = some (some x) → E[j]? = some (some x) ∧ j ∉ vs
  | [], j, x, h => ⟨h, by simp⟩
  | v :: vs, j, x, h => by
    unfold wipeE at h
    by_cases e : v = j
    · subst e
      by_cases hl : v < (wipeE E vs).length
      · rw [List.getElem?_set_self hl] at h; cases h
      · rw [List.getElem?_eq_none (by simpa using hl)] at h; cases h
    · rw [List.getElem?_set_ne e] at h
      obtain ⟨h1, h2⟩ := wipeE_get h
      exact ⟨h1, by simp only [List.mem_cons, not_or]; exact ⟨fun q => e q.symm, h2⟩⟩
theorem wipe_get {σ : L2.St} : ∀ {vs : List Nat} {j : Nat}, j ∉ vs → (wipe σ vs)[j]? = σ[j]?
  | [], _, _ => rfl
  | v :: vs, j, h => by
    rw [List.mem_cons, not_or] at h
    unfold wipe
    rw [List.getElem?_set_ne (Ne.symm h.1)]
    exact wipe_get h.2
theorem wipe_in {σ : L2.St} : ∀ {vs : List Nat} {j : Nat}, j ∈ vs → j < σ.length → (wipe σ vs)[j]? = some none
  | v :: vs, j, h, hl => by
    unfold wipe
    by_cases e : v = j
    · subst e
      exact List.getElem?_set_self (by rw [wipe_length]; exact hl)
    · rw [List.getElem?_set_ne e]
      rcases List.mem_cons.mp h with q | q
      · exact (e q.symm).elim
      · exact wipe_in q hl
theorem wipe_same {own : List (Str × Nat)} (h : Same own (wipe σ (own.map (·.2))) σ') : wipe σ' (own.map (·.2)) = wipe σ (own.map (·.2)) := by
  have hl : σ'.length = σ.length := by rw [h.1, wipe_length]
  apply List.ext_getElem?
  intro j
  by_cases m : j ∈ own.map (·.2)
  · by_cases lt : j < σ.length
    · rw [wipe_in m (by rw [hl]; exact lt), wipe_in m lt]
    · rw [List.getElem?_eq_none (by rw [wipe_length, hl]; omega), List.getElem?_eq_none (by rw [wipe_length]; omega)]
  · rw [wipe_get m, h.2 j m]
theorem valOnly_get {j : Nat} {x : DV} (h : (E.map valOnly)[j]? = some (some x)) : ∃ d, x = .val d ∧ E[j]? = some (some (.val d)) := by
  rw [List.getElem?_map] at h
  cases e : E[j]? with
  | none => rw [e] at h; cases h
  | some y =>
    rw [e] at h
    cases y with
    | none => cases h
    | some dv => cases dv with
      | val d => cases h; exact ⟨d, rfl, rfl⟩
      | ol ds => cases h
      | od ds => cases h
/-- only values that stand -/
def Plain (E : Ev) : Prop := ∀ (j : Nat) (x : DV), E[j]? = some (some x) → ∃ d, x = .val d
theorem plain_inner {own : List (Str × Nat)} : Plain (innerE own E) := fun j x h => by
  obtain ⟨d, e, _⟩ := valOnly_get (wipeE_get h).1
  exact ⟨d, e⟩
/-- into a block -/
theorem Rel.block (r : Rel K En F R E S σ H) (own : List (Str × Nat)) : Rel K ⟨H, F, R⟩ F R (innerE own E) S (wipe σ (own.map (·.2))) H := by
  refine ⟨r.len, r.frz, r.nodup, r.cell, fun j x e => ?_, fun i j x y a e1 e2 o1 _ _ _ => ?_, fun _ _ h _ _ => h, fun _ _ _ h => h, fun _ _ _ h => h, ?_⟩
  · obtain ⟨h1, h2⟩ := wipeE_get e
    obtain ⟨d, rfl, h3⟩ := valOnly_get h1
    obtain ⟨v, e1, rp⟩ := r.slot j _ h3
    exact ⟨v, by rw [wipe_get h2]; exact e1, rp⟩
  · obtain ⟨d, rfl⟩ := plain_inner (own := own) i x e1
    cases o1
  · unfold innerE
    rw [wipeE_length, List.length_map, wipe_length, r.elen]
/-- a new entry where only values stand -/
theorem Rel.again (r : Rel K En F R E S σ H) (p : Plain E) : Rel K ⟨H, F, R⟩ F R E S σ H := by
  refine ⟨r.len, r.frz, r.nodup, r.cell, fun j x e => ?_, r.apart, fun _ _ h _ _ => h, fun _ _ _ h => h, fun _ _ _ h => h, r.elen⟩
  obtain ⟨d, rfl⟩ := p j x e
  exact r.slot j _ e
theorem Plain.noSlot (p : Plain E) {a : Addr} : ¬ OwnSlot E σ a := fun ⟨i, x, e, o, _⟩ => by
  obtain ⟨d, rfl⟩ := p i x e
  cases o
/-- a thing that is nobody's is changed -/
theorem Rel.poke (r : Rel K En F R E S σ H) {p : Addr} {o : HO} (hF : F p = none) (hR : p ∉ R) (hE : En.H p = none) (hS : ¬ OwnSlot E σ p) : Rel K En F R E S σ (upd H p o) := by
  refine ⟨r.len, fun a u e => ?_, r.nodup, fun k c a e1 e2 => ?_, fun i dv e => ?_, r.apart, fun a u e n f => ?_, r.nf, r.nr, r.elen⟩
  · rw [upd_ne (fun z => by rw [z, hF] at e; cases e)]; exact r.frz a u e
  · obtain ⟨q, f⟩ := r.cell k c a e1 e2
    exact ⟨q.mono Le.refl (upd_ne fun z => hR (by rw [← z]; exact List.mem_of_getElem? e2)), f⟩
  · exact (r.slot i dv e).mono Le.refl fun a ea ow f1 f2 f3 => ⟨upd_ne fun z => hS ⟨i, dv, e, ow, by rw [ea, z]⟩, f1, f2⟩
  · rw [upd_ne (fun z => by rw [z, hE] at e; cases e)]; exact r.keep a u e n f
end
end Hm
set_option Elab.async false
set_option linter.all false
set_option maxRecDepth 100000
set_option maxHeartbeats 2000000
namespace Hm
open PySem PySem.Spec L2

def noX : WX := fun _ _ _ _ => False
theorem takes_blk {X : Cx} (hx : X.xe = fun _ _ => False) : Takes X noX := fun u s' x => by
  obtain ⟨_, _, _, _, _, _, _, _, _, _, _, _, _, _, _, _, w⟩ := x
  exact w.elim
/-- what may be stored within a block -/
def stoB (scope sc : Scope) (own : List (Str × Nat)) : Bool := own.all fun p => (scope.names.lookup p.1 == some .cell) || ((relS scope sc).names.lookup p.1 == some .local)
section
variable {G : Gs} {k : Nat} {N : List Str} {sc scope : Scope} {X : Cx}
theorem ctx_blk (c : CtxE G k N sc X) {s : Shared} {H : Hp} {C : Addr} {cl : List (Str × Addr)} {fp : List Addr} : CtxE G k N (relS scope sc) (X.blk s H scope (compEnvC scope cl C X.env) fp) := by
  refine ⟨c.cP, c.cw, c.cK, c.cmg, c.cbase, c.cN, ?_, c.cnd, c.ccalm, c.croom⟩
  have e := c.csc
  subst e
  rfl
theorem sto_blk {own : List (Str × Nat)} (h : stoB scope sc own = true) {s : Shared} {H : Hp} {e : Env} {fp : List Addr} : Sto (relS scope sc) (X.blk s H scope e fp) own := fun p hp => by
  have q := List.all_eq_true.mp h p hp
  rw [Bool.or_eq_true] at q
  rcases q with q | q
  · exact .inl q
  · exact .inr (by simpa using q)
/-- tests of a comprehension -/
structure DTs (G : Gs) (k : Nat) (N : List Str) (sc : Scope) (es : List Expr) (m : M Bool) : Prop where
  run : ∀ (X : Cx) (W : WX), CtxE G k N sc X → Takes X W → PTs X es (tT G.K m W)
theorem dts_nil : DTs G k N sc [] mYes := ⟨fun X W c tk => ⟨fun pins s σ H Q I h => pts_nil.run pins s σ H Q I (by
  obtain ⟨En, F, R, E, S, rel, h⟩ := h
  exact h F R H Le.refl rel)⟩⟩
theorem dts_one {e : Expr} {m : M Bool} (h : DT G k N sc e m) : DTs G k N sc [e] m := ⟨fun X W c tk => pts_one (h.run X W c tk)⟩
end

section
variable {K : PySem.W.Frag} {En : Ent} {F F' : Hp} {R R' : List Addr} {E E' : Ev} {S S' : Store} {σ σ' : L2.St} {H H' : Hp} {W : WX}
/-- a comprehension over data -/
theorem lc_data {w : Wk} {g : MG} {t : M Bool} {e : M DV} {own : List (Str × Nat)} {dsR : List D} {Sn : Store} {J : It} {Q : VK} (rel : Rel K En F R E S σ H) (wd : WalkD K F R J w) (hr : compL g t e w (innerE own E) w.ds [] S = .ok dsR Sn)
    (hQ : ∀ F' R' H' v, Le F R F' R' → Rel K En F' R' E Sn σ H' → Val K En F' R' E σ H' v (.ol dsR) → Q v H') (L : Addr) (hL : H L = none) :
    ∃ Wv : Nat → Nat → Hp → Prop, (∃ m, Wv 0 m (upd H L (.lst []))) ∧ ∀ i m H, Wv i m H →
      (J.stop i H ∧ Q (.ref L) H) ∨ (J.go i H ∧ ∃ Nx : Hp → Prop, (∀ H', Nx H' → ∃ m', m' < m ∧ Wv (i + 1) m' H') ∧ ∀ x H', J.yld i H x H' → tG K own g x (wipe σ (own.map (·.2))) H' fun σ2 H2 => wipe σ2 (own.map (·.2)) = wipe σ (own.map (·.2)) ∧ tT K t noX σ2 H2 fun b H3 =>
        if b = true then tD K e noX σ2 H3 fun y H4 => ∃ acc, H4 L = some (.lst acc) ∧ acc.length < sizeLine ∧ Nx (upd H4 L (.lst (acc ++ [y]))) else Nx H3) := by
  obtain ⟨⟨Gp, Y, wk, hG, hY⟩⟩ := wd
  have pl := plain_inner (own := own) (E := E)
  generalize hE0 : innerE own E = E0 at hr pl
  have relB : Rel K ⟨H, F, R⟩ F R E0 S (wipe σ (own.map (·.2))) H := by rw [← hE0]; exact rel.block own
  obtain ⟨n1, n2, n3, n4⟩ := relB.fresh hL
  refine lc_it wk (fun i H2 => ∃ F2 R2 S2 acc vacc, Le F R F2 R2 ∧ Rel K ⟨H, F, R⟩ F2 R2 E0 S2 (wipe σ (own.map (·.2))) H2 ∧ H2 L = some (.lst vacc) ∧ Reps K F2 R2 acc vacc ∧ F2 L = none ∧ L ∉ R2 ∧ compL g t e w E0 (w.ds.drop i) acc S2 = .ok dsR Sn) ?_ ?_ ?_ ?_
  · exact ⟨F, R, S, [], [], Le.refl, relB.laid hL, upd_same, .nil, n1, n2, hr⟩
  · rintro i H2 hi ⟨F2, R2, S2, acc, vacc, le, r2, hl, rs, f1, f2, hc⟩
    exact hG _ F2 R2 E0 S2 _ H2 le r2 (compL_ok hc)
  · rintro i x H2 H3 hi ⟨F2, R2, S2, acc, vacc, le, r2, hl, rs, f1, f2, hc⟩ y
    have ok := compL_ok hc
    -- the turn's own entry
    obtain ⟨F3, d, le3, r3, e3, rp⟩ := hY _ F2 R2 E0 S2 _ H2 i x H3 le (r2.again pl) ok hi y
    have hd : w.ds.drop i = d :: w.ds.drop (i + 1) := by
      rw [List.drop_eq_getElem_cons hi, (List.getElem?_eq_some_iff.mp e3).2]
    rw [hd] at hc
    unfold compL at hc
    rcases chk_cases w S2 Res.bad _ with ⟨_, z⟩ | z
    · rw [z] at hc
      refine ⟨_, F3, R2, E0, S2, d, r3, rp, ?_⟩
      cases eg : g d E0 S2 with
      | none => rw [eg] at hc; cases hc
      | some E1 =>
        rw [eg] at hc
        dsimp only at hc
        intro F4 R4 σ4 H4 le4 r4 sm
        refine ⟨wipe_same sm, ?_⟩
        refine ⟨_, F4, R4, E1, S2, r4, ?_⟩
        -- the end of a turn: what L holds, and back to the entry
        have fin : ∀ {F5 R5 S5 σ5 H5}, Le F4 R4 F5 R5 → Rel K ⟨H2, F2, R2⟩ F5 R5 E1 S5 σ5 H5 → H5 L = some (.lst vacc) ∧ F5 L = none ∧ L ∉ R5 ∧ Rel K ⟨H, F, R⟩ F5 R5 E0 S5 (wipe σ (own.map (·.2))) H5 := fun {F5 R5 S5 σ5 H5} l r5 => by
          have a1 : F5 L = none := r5.nf L _ hl f1
          have a2 : L ∉ R5 := fun m => f2 (r5.nr L _ hl m)
          exact ⟨r5.keep L _ hl a2 a1, a1, a2, r2.leave (le3.trans (le4.trans l)) r5⟩
        cases et : t E1 S2 with
        | bad => rw [et] at hc; cases hc
        | ex c fs S5 => rw [et] at hc; cases hc
        | ok b S5 =>
          rw [et] at hc
          intro F5 R5 H5 le5 r5
          obtain ⟨a0, a1, a2, a3⟩ := fin le5 r5
          cases b with
          | false =>
            rw [if_neg Bool.false_ne_true]
            exact ⟨F5, R5, S5, acc, vacc, le.trans (le3.trans (le4.trans le5)), a3, a0, rs.mono (le3.trans (le4.trans le5)) _ _, a1, a2, hc⟩
          | true =>
            rw [if_pos rfl]
            dsimp only at hc
            refine ⟨_, F5, R5, E1, S5, r5, ?_⟩
            cases ee : e E1 S5 with
            | bad => rw [ee] at hc; cases hc
            | ex c fs S6 => rw [ee] at hc; cases hc
            | ok yv S6 =>
              rw [ee] at hc
              dsimp only at hc
              intro F6 R6 H6 le6 r6 v hv
              obtain ⟨F7, le7, r7, rpy⟩ := hv.freeze r6
              obtain ⟨b0, b1, b2, b3⟩ := fin (le5.trans (le6.trans le7)) r7
              have lall := le3.trans (le4.trans (le5.trans (le6.trans le7)))
              split at hc
              · rename_i hz
                refine ⟨vacc, b0, by rw [← rs.length]; exact hz, F7, R6, S6, acc ++ [yv.frz], vacc ++ [v], le.trans lall, ?_, upd_same, ?_, b1, b2, hc⟩
                · exact b3.poke b1 b2 hL pl.noSlot
                · exact (rs.mono lall _ _).append (.cons rpy .nil)
              · cases hc
    · rw [z] at hc; cases hc
  · rintro H2 ⟨F2, R2, S2, acc, vacc, le, r2, hl, rs, f1, f2, hc⟩
    have hn : w.ds.drop w.ds.length = [] := List.drop_length
    rw [hn] at hc
    unfold compL at hc
    rcases chk_cases w S2 Res.bad (.ok acc S2) with ⟨_, z⟩ | z
    · rw [z] at hc
      cases hc
      refine hQ F2 R2 H2 (.ref L) le (rel.leave le r2) ?_
      obtain ⟨_, _, m3, m4⟩ := rel.fresh hL
      exact ⟨L, rfl, ⟨vacc, hl, rs⟩, f1, f2, m3, m4⟩
    · rw [z] at hc; cases hc
end

section
variable {G : Gs} {k : Nat} {N : List Str} {sc scope : Scope} {tg it elt : Expr} {pos : Pos} {own : List (Str × Nat)} {g : MG} {mi : M Wk} {t : M Bool} {m : M DV} {ifs : List Expr}
theorem tLc_of {σ : L2.St} {H : Hp} {W : WX} {Q : VK} (h : tD G.K (mLc mi g t m own) W σ H Q) : tLc (tI G.K mi W) (tG G.K own g) (tT G.K t noX) (tD G.K m noX) (own.map (·.2)) σ H Q := by
  obtain ⟨En, F, R, E, S, rel, h⟩ := h
  refine ⟨En, F, R, E, S, rel, (post_bnd h).imp fun F1 R1 H1 w S1 le rel1 q => ?_⟩
  cases ec : compL g t m w (innerE own E) w.ds [] S1 with
  | bad => rw [ec] at q; exact q.elim
  | ex c fs S2 => rw [ec] at q; exact q.elim
  | ok ds S2 =>
    rw [ec] at q
    refine ⟨compL_ok ec, fun F2 H2 J le2 rel2 wd L hL => lc_data rel2 wd ec (fun F' R' H' v l r hv => q F' R' H' (le2.trans l) r v hv) L hL⟩
theorem de_lc (hi : DI G k N sc tg it mi) (hg : DG G k N (relS scope sc) tg own g) (ht : DTs G k N (relS scope sc) ifs t) (he : DE G k N (relS scope sc) elt m) (hb : blkC N sc scope own = true := by decide) (hst : stoB scope sc own = true := by decide)
    (hs : ∀ env x, foldedSetIterable it env x = pure x := by intro _ _; rfl) : DE G k N sc (.ListComp elt [⟨tg, it, ifs, 0⟩] scope pos) (mLc mi g t m own) :=
  ⟨fun X W c tk => pe_imp (pe_lc (own := own) c.ccalm (by rw [c.cN]; exact c.cnd) (hi.run X W c tk) (by rw [c.cN, c.csc]; exact blkOk_by hb) (fun s H C cl fp => hg.run _ (ctx_blk c) (sto_blk hst)) (fun s H C cl fp => ht.run _ noX (ctx_blk c) (takes_blk rfl)) (fun s H C cl fp => he.run _ noX (ctx_blk c) (takes_blk rfl)) (hs _)) fun σ H Q h => tLc_of h⟩
/-- name = [..], the list swapped -/
theorem ds_setLc {x : Str} {px spos : Pos} (i : Nat) (hi : DI G k N sc tg it mi) (hg : DG G k N (relS scope sc) tg own g) (ht : DTs G k N (relS scope sc) ifs t) (he : DE G k N (relS scope sc) elt m) (hN : N[i]? = some x := by rfl) (hx : sc.names.lookup x = some .local := by rfl)
    (hk : sc.kind = .function := by rfl) (hl : (px.line == pos.line) = true := by decide) (hna : (scope.names.any fun (n, k) => n == x && (k == .local || k == .cell)) = false := by decide)
    (hb : blkC N sc scope own = true := by decide) (hst : stoB scope sc own = true := by decide) (hs : ∀ env x, foldedSetIterable it env x = pure x := by intro _ _; rfl) :
    DS G k N sc (.Assign [.Name x px] (.ListComp elt [⟨tg, it, ifs, 0⟩] scope pos) spos) (setS i (mLc mi g t m own)) :=
  ⟨fun X W c tk => ps_imp (ps_setLc (own := own) c.e.ccalm (by rw [c.e.cN]; exact c.e.cnd) (by rw [c.e.cN]; exact hN) (by rw [c.e.csc]; exact hx) (sw_true (by rw [c.e.csc]; exact hk) (by rw [c.e.csc]; exact hx) hl hna) (hi.run X W c.e tk) (by rw [c.e.cN, c.e.csc]; exact blkOk_by hb)
      (fun s H C cl fp => hg.run _ (ctx_blk c.e) (sto_blk hst)) (fun s H C cl fp => ht.run _ noX (ctx_blk c.e) (takes_blk rfl)) (fun s H C cl fp => he.run _ noX (ctx_blk c.e) (takes_blk rfl)) (hs _)) fun D σ H h => by
    refine tLc_of ?_
    obtain ⟨En, F, R, E, S, rel, h⟩ := h
    exact withE_then rel h fun F1 R1 H1 dv v S1 le rel1 hv q => q F1 R1 _ H1 Le.refl (rel1.store hv i)⟩
end
end Hm
set_option Elab.async false
set_option linter.all false
set_option maxRecDepth 100000
set_option maxHeartbeats 2000000
namespace Hm
open PySem PySem.Spec L2

/-! ### calls of built-in functions and types -/
abbrev RL := List V → Hp → VK → Prop
/-- the reading r is met where f says how it goes -/
def SndL (K : PySem.W.Frag) (f : FD) (r : RL) : Prop :=
  ∀ (En : Ent) (F : Hp) (R : List Addr) (E : Ev) (S : Store) (σ : L2.St) (H : Hp) (W : WX) (Q : VK) (ds : List D) (vs : List V), Rel K En F R E S σ H → Reps K F R ds vs → Post K En F R E σ W Q (f ds S) → r vs H Q
def mF (f : FD) (ms : M (List D)) : M DV := bnd ms fun ds _ S => f ds S
section
variable {G : Gs} {k : Nat} {N : List Str} {sc : Scope} {x : Str} {p pos : Pos} {e : Expr} {es : List Expr} {f : FD} {r : RL} {ms : M (List D)} {id : String}
theorem tF_of {σ : L2.St} {H : Hp} {W : WX} {Q : VK} (hs : SndL G.K f r) (h : tD G.K (mF f ms) W σ H Q) : tCB r (tA G.K ms W) σ H Q := by
  obtain ⟨En, F, R, E, S, rel, h⟩ := h
  exact tA_then rel h fun F1 R1 H1 ds vs S1 le rel1 rs h1 => hs En F1 R1 E S1 σ H1 W Q ds vs rel1 rs h1
theorem de_cB (hc : ∀ X, CtxE G k N sc X → CallR X (.builtin id) r) (hs : SndL G.K f r) (hm : G.mg x = none) (ha : DA G k N sc (e :: es) ms) (hv : bootBuiltins x = some (.builtin id) := by rfl) (hg : sc.names.lookup x = some .globalImplicit := by rfl) (hn : x ≠ "__name__" := by decide) (hdb : (x == ("__debug__" : Str)) = false := by decide)
    (he : ∀ env, starEach (e :: es) env = (false, eval e env) :: starEach es env := by intro _; rfl) (hpl : ∀ env, (backTo pos (starEach es env)).any (·.1) = false := by intro _; rfl) : DE G k N sc (.Call (.Name x p) (e :: es) [] pos) (mF f ms) :=
  ⟨fun X W c tk => pe_imp (pe_callB (hc X c) (gl_of c hg) (by rw [c.cmg]; exact hm) hv (ha.run X W c tk) hn hdb (he _) (hpl _)) fun σ H Q h => tF_of hs h⟩
theorem de_cT (hc : ∀ X, CtxE G k N sc X → CallR X (.type id) r) (hs : SndL G.K f r) (hm : G.mg x = none) (ha : DA G k N sc (e :: es) ms) (hv : bootBuiltins x = some (.type id) := by rfl) (hg : sc.names.lookup x = some .globalImplicit := by rfl) (hn : x ≠ "__name__" := by decide) (hdb : (x == ("__debug__" : Str)) = false := by decide)
    (he : ∀ env, starEach (e :: es) env = (false, eval e env) :: starEach es env := by intro _; rfl) (hpl : ∀ env, (backTo pos (starEach es env)).any (·.1) = false := by intro _; rfl) : DE G k N sc (.Call (.Name x p) (e :: es) [] pos) (mF f ms) :=
  ⟨fun X W c tk => pe_imp (pe_callTy (hc X c) (gl_of c hg) (by rw [c.cmg]; exact hm) hv (ha.run X W c tk) hn hdb (he _) (hpl _)) fun σ H Q h => tF_of hs h⟩
end

/-! len -/
def lenOf (S : Store) (d : D) : Option Nat := match view S d with
  | .lst ds => some ds.length
  | .scr ds => some ds.length
  | .tup ds => some ds.length
  | .dct kvs => some kvs.length
  | .str s => if small s.length then some s.length else none
  | _ => none
def lenD : FD := fun ds S => match ds with
  | [d] => (match lenOf S d with
    | some n => fine (.int n) S
    | none => .bad)
  | _ => .bad
def rLen (K : PySem.W.Frag) : RL := fun xs H Q => (∃ x n, xs = [x] ∧ LenV K x H n ∧ Q (.int n) H) ∨ ∃ (a : Addr) (kvs : List (Key × V)), xs = [V.ref a] ∧ Rd H a (.dK kvs) ∧ Q (.int kvs.length) H
theorem cl_len {X : Cx} : CallR X (.builtin "len") (rLen X.K) := call_len.or fun pins s σ H xs us Q I r h => by
  obtain ⟨a, kvs, rfl, ha, q⟩ := h
  obtain ⟨u, rfl, ru⟩ := vals1 r
  cases ru
  exact d_len I ha fun t s' I' => ⟨.int kvs.length, H, I', ⟨t, rfl⟩, q⟩
theorem snd_len {K : PySem.W.Frag} : SndL K lenD (rLen K) := fun En F R E S σ H W Q ds vs rel rs p => by
  unfold lenD at p
  split at p
  · rename_i d
    obtain ⟨v, rfl, rp⟩ := reps1 rs
    split at p
    · rename_i n hn
      have q := p.got rel (.int (n : Nat))
      unfold lenOf at hn
      split at hn
      · rename_i xs e1
        cases hn
        obtain ⟨a, ws, rfl, h1, h2⟩ := view_lst rel rp e1
        exact .inl ⟨_, _, rfl, .inl ⟨ws, .of h1, h2.length⟩, q⟩
      · rename_i xs e1
        cases hn
        obtain ⟨a, ws, rfl, h1, h2⟩ := view_scr rel rp e1
        exact .inl ⟨_, _, rfl, .inl ⟨ws, h1, h2.length⟩, q⟩
      · rename_i xs e1
        cases hn
        obtain ⟨a, ws, rfl, h1, h2⟩ := view_tup rel rp e1
        exact .inl ⟨_, _, rfl, .inr ⟨ws, h1, h2.length⟩, q⟩
      · rename_i xs e1
        cases hn
        obtain ⟨a, ws, rfl, h1, h2⟩ := view_dct rel rp e1
        exact .inr ⟨a, ws, rfl, h1, by rw [← h2.length]; exact q⟩
      · rename_i s0 e1
        have e1 := view_str e1
        subst e1
        cases rp
        split at hn
        · rename_i hz
          cases hn
          exact .inl ⟨_, _, rfl, ⟨of_decide_eq_true hz, rfl⟩, q⟩
        · cases hn
      · cases hn
    · exact p.elim
  · exact p.elim

/-! what lists hold -/
def asBls : List D → Option (List Bool)
  | [] => some []
  | .bl b :: ds => (asBls ds).map (b :: ·)
  | _ => none
def asInts : List D → Option (List Int)
  | [] => some []
  | .int b :: ds => (asInts ds).map (b :: ·)
  | _ => none
def asStrs : List D → Option (List Str)
  | [] => some []
  | .str b :: ds => (asStrs ds).map (b :: ·)
  | _ => none
section
variable {K : PySem.W.Frag} {F : Hp} {R : List Addr}
theorem reps_bls : ∀ {ds : List D} {bs : List Bool} {vs : List V}, Reps K F R ds vs → asBls ds = some bs → vs = bs.map V.bl
  | [], bs, _, .nil, e => by cases e; rfl
  | d :: ds, bs, _, .cons r t, e => by
    cases d with
    | bl b =>
      obtain ⟨cs, e1, rfl⟩ := Option.map_eq_some_iff.mp e
      cases r
      rw [reps_bls t e1]
      rfl
    | _ => cases e
theorem reps_ints : ∀ {ds : List D} {bs : List Int} {vs : List V}, Reps K F R ds vs → asInts ds = some bs → vs = bs.map V.int
  | [], bs, _, .nil, e => by cases e; rfl
  | d :: ds, bs, _, .cons r t, e => by
    cases d with
    | int b =>
      obtain ⟨cs, e1, rfl⟩ := Option.map_eq_some_iff.mp e
      cases r
      rw [reps_ints t e1]
      rfl
    | _ => cases e
theorem reps_strs : ∀ {ds : List D} {bs : List Str} {vs : List V}, Reps K F R ds vs → asStrs ds = some bs → vs = bs.map V.str
  | [], bs, _, .nil, e => by cases e; rfl
  | d :: ds, bs, _, .cons r t, e => by
    cases d with
    | str b =>
      obtain ⟨cs, e1, rfl⟩ := Option.map_eq_some_iff.mp e
      cases r
      rw [reps_strs t e1]
      rfl
    | _ => cases e
theorem ints_reps : ∀ {bs : List Int}, Reps K F R (bs.map D.int) (bs.map V.int)
  | [] => .nil
  | b :: bs => .cons (.int b) ints_reps
theorem strs_reps : ∀ {bs : List Str}, Reps K F R (bs.map D.str) (bs.map V.str)
  | [] => .nil
  | b :: bs => .cons (.str b) strs_reps
/-- a list that is read -/
def seqL (S : Store) (d : D) : Option (List D) := match view S d with
  | .lst ds => some ds
  | .scr ds => some ds
  | _ => none
theorem seqL_ok {En : Ent} {E : Ev} {S : Store} {σ : L2.St} {H : Hp} (rel : Rel K En F R E S σ H) {d : D} {x : V} {ds : List D} (rp : Rep K F R d x) (e : seqL S d = some ds) : ∃ a vs, x = .ref a ∧ SqL K H a vs ∧ Reps K F R ds vs := by
  unfold seqL at e
  split at e
  · rename_i xs e1
    cases e
    obtain ⟨a, ws, rfl, h1, h2⟩ := view_lst rel rp e1
    exact ⟨a, ws, rfl, .of h1, h2⟩
  · rename_i xs e1
    cases e
    obtain ⟨a, ws, rfl, h1, h2⟩ := view_scr rel rp e1
    exact ⟨a, ws, rfl, h1, h2⟩
  · cases e
end
def allD : FD := fun ds S => match ds with
  | [d] => (match (seqL S d).bind asBls with
    | some bs => fine (.bl (bs.all id)) S
    | none => .bad)
  | _ => .bad
def anyD : FD := fun ds S => match ds with
  | [d] => (match (seqL S d).bind asBls with
    | some bs => fine (.bl (bs.any id)) S
    | none => .bad)
  | _ => .bad
def sumD : FD := fun ds S => match ds with
  | [d] => (match (seqL S d).bind asInts with
    | some bs => fine (.int bs.sum) S
    | none => .bad)
  | _ => .bad
theorem snd_all {K : PySem.W.Frag} : SndL K allD (rAll K) := fun En F R E S σ H W Q ds vs rel rs p => by
  unfold allD at p
  split at p
  · obtain ⟨v, rfl, rp⟩ := reps1 rs
    split at p
    · rename_i bs hb
      obtain ⟨xs, e1, e2⟩ := Option.bind_eq_some_iff.mp hb
      obtain ⟨a, ws, rfl, h1, h2⟩ := seqL_ok rel rp e1
      rw [reps_bls h2 e2] at h1
      exact ⟨a, bs, rfl, h1, p.got rel (.bl _)⟩
    · exact p.elim
  · exact p.elim
theorem snd_any {K : PySem.W.Frag} : SndL K anyD (rAny K) := fun En F R E S σ H W Q ds vs rel rs p => by
  unfold anyD at p
  split at p
  · obtain ⟨v, rfl, rp⟩ := reps1 rs
    split at p
    · rename_i bs hb
      obtain ⟨xs, e1, e2⟩ := Option.bind_eq_some_iff.mp hb
      obtain ⟨a, ws, rfl, h1, h2⟩ := seqL_ok rel rp e1
      rw [reps_bls h2 e2] at h1
      exact ⟨a, bs, rfl, h1, p.got rel (.bl _)⟩
    · exact p.elim
  · exact p.elim
theorem snd_sum {K : PySem.W.Frag} : SndL K sumD (rSum K) := fun En F R E S σ H W Q ds vs rel rs p => by
  unfold sumD at p
  split at p
  · obtain ⟨v, rfl, rp⟩ := reps1 rs
    split at p
    · rename_i bs hb
      obtain ⟨xs, e1, e2⟩ := Option.bind_eq_some_iff.mp hb
      obtain ⟨a, ws, rfl, h1, h2⟩ := seqL_ok rel rp e1
      rw [reps_ints h2 e2] at h1
      exact ⟨a, bs, rfl, h1, p.got rel (.int _)⟩
    · exact p.elim
  · exact p.elim

/-! str, int -/
def fitI (i : Int) : Bool := decide (i.natAbs.log2 < 1920)
def strD : FD := fun ds S => match ds with
  | [.int i] => if fitI i then fine (.str (toString i)) S else .bad
  | [.str s] => fine (.str s) S
  | _ => .bad
def rStr : RL := fun xs H Q => (∃ i : Int, xs = [V.int i] ∧ i.natAbs.log2 < 1920 ∧ Q (.str (toString i)) H) ∨ ∃ a, xs = [V.str a] ∧ Q (.str a) H
theorem cl_str {X : Cx} : CallR X (.type "str") rStr := call_str_int.or SkE.call_str_str
theorem snd_str {K : PySem.W.Frag} : SndL K strD rStr := fun En F R E S σ H W Q ds vs rel rs p => by
  unfold strD at p
  split at p
  · obtain ⟨v, rfl, rp⟩ := reps1 rs
    cases rp
    split at p
    · rename_i i hf
      exact .inl ⟨_, rfl, of_decide_eq_true hf, p.got rel (.str _)⟩
    · exact p.elim
  · obtain ⟨v, rfl, rp⟩ := reps1 rs
    cases rp
    exact .inr ⟨_, rfl, p.got rel (.str _)⟩
  · exact p.elim
def intD1 : FD := fun ds S => match ds with
  | [.int i] => fine (.int i) S
  | [.bl b] => fine (.int (if b then 1 else 0)) S
  | [.str s] => (match PySem.intText? s with
    | some n => if s.length ≤ 640 then fine (.int n) S else .bad
    | none => .bad)
  | _ => .bad
def rInt : RL := fun xs H Q => ((∃ i, xs = [V.int i] ∧ Q (.int i) H) ∨ ∃ k, xs = [V.bl k] ∧ Q (.int (if k then 1 else 0)) H) ∨ ∃ a n, xs = [V.str a] ∧ PySem.intText? a = some n ∧ a.length ≤ 640 ∧ Q (.int n) H
theorem cl_int {X : Cx} : CallR X (.type "int") rInt := call_int1.or call_int_str
theorem snd_int {K : PySem.W.Frag} : SndL K intD1 rInt := fun En F R E S σ H W Q ds vs rel rs p => by
  unfold intD1 at p
  split at p
  · obtain ⟨v, rfl, rp⟩ := reps1 rs
    cases rp
    exact .inl (.inl ⟨_, rfl, p.got rel (.int _)⟩)
  · obtain ⟨v, rfl, rp⟩ := reps1 rs
    cases rp
    exact .inl (.inr ⟨_, rfl, p.got rel (.int _)⟩)
  · obtain ⟨v, rfl, rp⟩ := reps1 rs
    cases rp
    split at p
    · rename_i n hn
      split at p
      · rename_i hl
        exact .inr ⟨_, n, rfl, hn, hl, p.got rel (.int _)⟩
      · exact p.elim
    · exact p.elim
  · exact p.elim

/-! tuple, list -/
def tupD : FD := fun ds S => match ds with
  | [d] => (match view S d with
    | .lst xs => fine (.tup xs) S
    | .scr xs => fine (.tup xs) S
    | .tup xs => fine (.tup xs) S
    | _ => .bad)
  | _ => .bad
def rTuple (K : PySem.W.Frag) : RL := fun xs H Q => ∃ p ys, xs = [V.ref p] ∧ ((SqL K H p ys ∧ ∀ l, H l = none → Q (.ref l) (upd H l (.tup ys))) ∨ (SqT K H p ys ∧ Q (.ref p) H))
theorem rep_tup {K : PySem.W.Frag} {En : Ent} {F : Hp} {R : List Addr} {E : Ev} {S : Store} {σ : L2.St} {H : Hp} (rel : Rel K En F R E S σ H) {d : D} {x : V} {ds : List D} (r : Rep K F R d x) (e : view S d = .tup ds) : d = .tup ds := by
  cases d with
  | ref j =>
    cases hs : S[j]? with
    | none => simp only [view, hs] at e; cases e
    | some c => cases c <;> (simp only [view, hs] at e; cases e)
  | _ => exact e
theorem snd_tup {K : PySem.W.Frag} : SndL K tupD (rTuple K) := fun En F R E S σ H W Q ds vs rel rs p => by
  unfold tupD at p
  split at p
  · rename_i d
    obtain ⟨v, rfl, rp⟩ := reps1 rs
    split at p
    · rename_i xs e1
      obtain ⟨a, ws, rfl, h1, h2⟩ := view_lst rel rp e1
      exact ⟨a, ws, rfl, .inl ⟨.of h1, fun l hl => p.tup rel h2 hl⟩⟩
    · rename_i xs e1
      obtain ⟨a, ws, rfl, h1, h2⟩ := view_scr rel rp e1
      exact ⟨a, ws, rfl, .inl ⟨h1, fun l hl => p.tup rel h2 hl⟩⟩
    · rename_i xs e1
      have ed := rep_tup rel rp e1
      obtain ⟨a, ws, rfl, h1, h2⟩ := view_tup rel rp e1
      subst ed
      exact ⟨a, ws, rfl, .inr ⟨h1, p.got rel rp⟩⟩
    · exact p.elim
  · exact p.elim
def lstD : FD := fun ds S => match ds with
  | [d] => (match view S d with
    | .lst xs => .ok (.ol xs) S
    | .scr xs => .ok (.ol xs) S
    | .tup xs => .ok (.ol xs) S
    | _ => .bad)
  | _ => .bad
def rList (K : PySem.W.Frag) : RL := fun xs H Q => ∃ p ys, xs = [V.ref p] ∧ (SqL K H p ys ∨ SqT K H p ys) ∧ ∀ l, H l = none → Q (.ref l) (upd H l (.lst ys))
theorem snd_lst {K : PySem.W.Frag} : SndL K lstD (rList K) := fun En F R E S σ H W Q ds vs rel rs p => by
  unfold lstD at p
  split at p
  · rename_i d
    obtain ⟨v, rfl, rp⟩ := reps1 rs
    split at p
    · rename_i xs e1
      obtain ⟨a, ws, rfl, h1, h2⟩ := view_lst rel rp e1
      exact ⟨a, ws, rfl, .inl (.of h1), fun l hl => p.ol rel h2 hl⟩
    · rename_i xs e1
      obtain ⟨a, ws, rfl, h1, h2⟩ := view_scr rel rp e1
      exact ⟨a, ws, rfl, .inl h1, fun l hl => p.ol rel h2 hl⟩
    · rename_i xs e1
      obtain ⟨a, ws, rfl, h1, h2⟩ := view_tup rel rp e1
      exact ⟨a, ws, rfl, .inr h1, fun l hl => p.ol rel h2 hl⟩
    · exact p.elim
  · exact p.elim

/-! isinstance -/
def kindS (S : Store) (d : D) : Option String := match view S d with
  | .non => some "NoneType"
  | .bl _ => some "bool"
  | .int _ => some "int"
  | .str _ => some "str"
  | .tup _ => some "tuple"
  | .lst _ => some "list"
  | .scr _ => some "list"
  | .dct _ => some "dict"
  | _ => none
def tyIs (K : PySem.W.Frag) (T n : String) : Option Bool := PySem.W.kitOne K (.type T) (.type n)
def isiD (K : PySem.W.Frag) : FD := fun ds S => match ds with
  | [d, .ty n] => (match (kindS S d).bind fun T => tyIs K T n with
    | some b => fine (.bl b) S
    | none => .bad)
  | _ => .bad
theorem sqL_ty {K : PySem.W.Frag} {H : Hp} {a : Addr} {vs : List V} (h : SqL K H a vs) : TyX K H (.ref a) (.type "list") := by
  rcases h with (h | ⟨o, h⟩) | ⟨o, its, n, h, c, _⟩
  · exact .base (.lst h)
  · exact .base (.frz h)
  · exact .kList h c
theorem sqT_ty {K : PySem.W.Frag} {H : Hp} {a : Addr} {vs : List V} (h : SqT K H a vs) : TyX K H (.ref a) (.type "tuple") := by
  rcases h with (h | ⟨o, h⟩) | ⟨o, its, n, h, c, _⟩
  · exact .base (.tup h)
  · exact .fTuple h
  · exact .kTuple h c
theorem kind_ty {K : PySem.W.Frag} {En : Ent} {F : Hp} {R : List Addr} {E : Ev} {S : Store} {σ : L2.St} {H : Hp} (rel : Rel K En F R E S σ H) {d : D} {x : V} {T : String} (r : Rep K F R d x) (e : kindS S d = some T) : TyX K H x (.type T) := by
  unfold kindS at e
  split at e
  · rename_i e1
    cases e
    have e1 := view_non e1
    subst e1; cases r; exact .base .non
  · rename_i b e1
    cases e
    have e1 := view_bl e1
    subst e1; cases r; exact .base (.bl _)
  · rename_i b e1
    cases e
    have e1 := view_int e1
    subst e1; cases r; exact .base (.int _)
  · rename_i b e1
    cases e
    have e1 := view_str e1
    subst e1; cases r; exact .base (.str _)
  · rename_i b e1
    cases e
    obtain ⟨a, ws, rfl, h1, h2⟩ := view_tup rel r e1
    exact sqT_ty h1
  · rename_i b e1
    cases e
    obtain ⟨a, ws, rfl, h1, h2⟩ := view_lst rel r e1
    exact .base (.lst h1)
  · rename_i b e1
    cases e
    obtain ⟨a, ws, rfl, h1, h2⟩ := view_scr rel r e1
    exact sqL_ty h1
  · rename_i b e1
    cases e
    obtain ⟨a, ws, rfl, h1, h2⟩ := view_dct rel r e1
    rcases h1 with h1 | ⟨o, h1⟩
    · exact .base (.dK h1)
    · exact .fDict h1
  · cases e
theorem snd_isi {K : PySem.W.Frag} : SndL K (isiD K) (rIsi K) := fun En F R E S σ H W Q ds vs rel rs p => by
  unfold isiD at p
  split at p
  · rename_i d n
    obtain ⟨v, w, rfl, r1, r2⟩ := reps2 rs
    cases r2
    split at p
    · rename_i b hb
      obtain ⟨T, e1, e2⟩ := Option.bind_eq_some_iff.mp hb
      exact ⟨v, .ty n, .type T, .type n, b, rfl, .ty n, kind_ty rel r1 e1, e2, p.got rel (.bl _)⟩
    · exact p.elim
  · exact p.elim
end Hm
set_option Elab.async false
set_option linter.all false
set_option maxRecDepth 100000
set_option maxHeartbeats 2000000
namespace Hm
open PySem PySem.Spec L2

/-! ### a op b op c -/
def mCh (f g : F2) (a b c : M DV) : M DV := bnd a fun x => bnd b fun y E S => match f x.frz y.frz S with
  | .ok (.val (.bl true)) S1 => bnd c (fun z _ S2 => g y.frz z.frz S2) E S1
  | .ok (.val (.bl false)) S1 => fine (.bl false) S1
  | _ => .bad
section
variable {G : Gs} {k : Nat} {N : List Str} {sc : Scope} {a b c : Expr} {ma mb mc : M DV} {pos : Pos} {f g : F2} {op op' : CmpOp}
theorem chain_of {K : PySem.W.Frag} {r r' : R2} {W : WX} {σ : L2.St} {H : Hp} {Q : VK} (hs : Snd2 K f r) (hs' : Snd2 K g r') (h : tD K (mCh f g ma mb mc) W σ H Q) : tChain r r' (tD K ma W) (tD K mb W) (tD K mc W) σ H Q := by
  obtain ⟨En, F, R, E, S, rel, h⟩ := h
  refine tD_then rel h fun F1 R1 H1 dv v S1 le rel1 rp h1 => ?_
  refine tD_then rel1 h1 fun F2 R2 H2 dw w S2 le2 rel2 rq h2 => ?_
  have rp2 := rp.mono le2 _ _
  refine hs En F2 R2 E S2 σ H2 W _ _ _ v w rel2 rp2 rq ?_
  cases e1 : f dv.frz dw.frz S2 with
  | bad => rw [e1] at h2; exact h2.elim
  | ex cc fs S3 => rw [e1] at h2; exact h2.elim
  | ok z S3 =>
    rw [e1] at h2
    intro F3 R3 H3 le3 rel3 v3 hv
    cases z with
    | ol ds => exact h2.elim
    | od ds => exact h2.elim
    | val d => cases d with
      | bl kk =>
        cases hv
        refine ⟨kk, rfl, ?_⟩
        cases kk with
        | true =>
          rw [if_pos rfl]
          have h3 := PostX.mono le3 h2
          refine tD_then rel3 h3 fun F4 R4 H4 du u S4 le4 rel4 rr h4 => ?_
          exact hs' En F4 R4 E S4 σ H4 W Q _ _ w u rel4 (rq.mono (le3.trans le4) _ _) rr h4
        | false =>
          rw [if_neg Bool.false_ne_true]
          exact Post.got (PostX.mono le3 h2) rel3 (.bl false)
      | _ => exact h2.elim
theorem de_ch (c1 : CmpRule G k N sc op f) (c2 : CmpRule G k N sc op' g) (ha : DE G k N sc a ma) (hb : DE G k N sc b mb) (hc : DE G k N sc c mc) (hm : lastMarks [op, op'] [b, c] = false := by with_unfolding_all rfl) : DE G k N sc (.Compare a [op, op'] [b, c] pos) (mCh f g ma mb mc) := by
  obtain ⟨r, hs, ho⟩ := c1.ex
  obtain ⟨r', hs', ho'⟩ := c2.ex
  exact ⟨fun X W c tk => pe_imp (pe_chain (ho X c) (ho' X c) (ha.run X W c tk) (hb.run X W c tk) (hc.run X W c tk) hm) fun σ H Q h => chain_of hs hs' h⟩
theorem dt_ch (c1 : CmpRule G k N sc op f) (c2 : CmpRule G k N sc op' g) (ha : DE G k N sc a ma) (hb : DE G k N sc b mb) (hc : DE G k N sc c mc) (hm : lastMarks [op, op'] [b, c] = false := by with_unfolding_all rfl) : DT G k N sc (.Compare a [op, op'] [b, c] pos) (mTst (mCh f g ma mb mc)) := by
  obtain ⟨r, hs, ho⟩ := c1.ex
  obtain ⟨r', hs', ho'⟩ := c2.ex
  exact ⟨fun X W c tk => pt_imp (pt_chain (ho X c) (ho' X c) (ha.run X W c tk) (hb.run X W c tk) (hc.run X W c tk) hm) fun σ H Q h => by
    obtain ⟨En, F, R, E, S, rel, h⟩ := tst_of h
    exact chain_of hs hs' ⟨En, F, R, E, S, rel, h⟩⟩
end

/-! ### a text's methods -/
def mM1 (f : Str → F1) (mo me : M DV) : M DV := bnd mo fun x => match x.frz with
  | .str a => bnd me fun y _ S => f a y.frz S
  | _ => fun _ _ => .bad
def SndM (K : PySem.W.Frag) (f : Str → F1) (r : V → List V → Hp → VK → Prop) : Prop :=
  ∀ (En : Ent) (F : Hp) (R : List Addr) (E : Ev) (S : Store) (σ : L2.St) (H : Hp) (W : WX) (Q : VK) (a : Str) (d : D) (y : V), Rel K En F R E S σ H → Rep K F R d y → Post K En F R E σ W Q (f a d S) → r (.str a) [y] H Q
section
variable {G : Gs} {k : Nat} {N : List Str} {sc : Scope} {o e : Expr} {mo me : M DV} {apos pos : Pos} {f : Str → F1} {r : V → List V → Hp → VK → Prop}
theorem tM1_of {σ : L2.St} {H : Hp} {W : WX} {Q : VK} (hs : SndM G.K f r) (h : tD G.K (mM1 f mo me) W σ H Q) : tM1 r (tD G.K mo W) (tD G.K me W) σ H Q := by
  obtain ⟨En, F, R, E, S, rel, h⟩ := h
  refine tD_then rel h fun F1 R1 H1 dv v S1 le rel1 rp h1 => ?_
  cases ed : dv.frz with
  | str a =>
    rw [ed] at rp h1
    cases rp
    refine ⟨⟨a, rfl⟩, ?_⟩
    refine tD_then rel1 h1 fun F2 R2 H2 dw w S2 le2 rel2 rq h2 => ?_
    exact hs En F2 R2 E S2 σ H2 W Q a _ w rel2 rq h2
  | _ => rw [ed] at h1; exact h1.elim
theorem de_m1 {id : String} {name : Str} (slot : Slot "str" name id) (ty : typeOf (.builtin id) = pure (.type "method_descriptor")) (rule : ∀ X, CtxE G k N sc X → MtR X id r) (hs : SndM G.K f r) (ho : DE G k N sc o mo) (he : DE G k N sc e me)
    (hst : ∀ env, starEach [e] env = [(false, eval e env)] := by intro _; rfl) (hbase : ∀ env, attributeBase o name env (eval o env) = eval o env := by intro _; rfl) (hline : (apos.endLine == pos.line) = true := by rfl) :
    DE G k N sc (.Call (.Attribute o name apos) [e] [] pos) (mM1 f mo me) :=
  ⟨fun X W c tk => pe_imp (pe_m1 slot ty (rule X c) (ho.run X W c tk) (he.run X W c tk) (hst _) (hbase _) hline) fun σ H Q h => tM1_of hs h⟩
def swD (a : Str) : F1 := fun d S => match d with
  | .str b => fine (.bl (Txt.startswith a b)) S
  | _ => .bad
def ewD (a : Str) : F1 := fun d S => match d with
  | .str b => fine (.bl (Txt.endswith a b)) S
  | _ => .bad
def splitOk (a b : Str) : Bool := (b.length != 0) && decide (a.length + 2 ≤ sizeLine)
def splitD (a : Str) : F1 := fun d S => match d with
  | .str b => if splitOk a b then .ok (.ol ((Txt.split a b).map .str)) S else .bad
  | _ => .bad
def partD (a : Str) : F1 := fun d S => match d with
  | .str b => if (b.length != 0) && decide (a.length ≤ sizeLine) then fine (.tup [.str (Txt.partition a b).1, .str (Txt.partition a b).2.1, .str (Txt.partition a b).2.2]) S else .bad
  | _ => .bad
/-- the texts of a list, of a tuple -/
def strsOf (S : Store) (d : D) : Option (List Str) := match view S d with
  | .lst ds => asStrs ds
  | .scr ds => asStrs ds
  | .tup ds => asStrs ds
  | _ => none
def joinOk (a : Str) (ys : List Str) : Bool := decide ((ys.map (·.length)).sum + ys.length * a.length ≤ 16777216)
def joinD (a : Str) : F1 := fun d S => match strsOf S d with
  | some ys => if joinOk a ys then fine (.str (Txt.join a ys)) S else .bad
  | none => .bad
theorem de_startswith (ho : DE G k N sc o mo) (he : DE G k N sc e me) (hst : ∀ env, starEach [e] env = [(false, eval e env)] := by intro _; rfl) (hbase : ∀ env, attributeBase o "startswith" env (eval o env) = eval o env := by intro _; rfl) (hline : (apos.endLine == pos.line) = true := by rfl) :
    DE G k N sc (.Call (.Attribute o "startswith" apos) [e] [] pos) (mM1 swD mo me) :=
  de_m1 F.slot_str_startswith F.type_str_startswith (fun _ _ => mt_startswith) (fun En F R E S σ H W Q a d y rel rp p => by
    cases d <;> try exact p.elim
    cases rp
    exact ⟨a, _, rfl, rfl, p.got rel (.bl _)⟩) ho he hst hbase hline
theorem de_endswith (ho : DE G k N sc o mo) (he : DE G k N sc e me) (hst : ∀ env, starEach [e] env = [(false, eval e env)] := by intro _; rfl) (hbase : ∀ env, attributeBase o "endswith" env (eval o env) = eval o env := by intro _; rfl) (hline : (apos.endLine == pos.line) = true := by rfl) :
    DE G k N sc (.Call (.Attribute o "endswith" apos) [e] [] pos) (mM1 ewD mo me) :=
  de_m1 F.slot_str_endswith F.type_str_endswith (fun _ _ => mt_endswith) (fun En F R E S σ H W Q a d y rel rp p => by
    cases d <;> try exact p.elim
    cases rp
    exact ⟨a, _, rfl, rfl, p.got rel (.bl _)⟩) ho he hst hbase hline
theorem map_str (ys : List Str) {K : PySem.W.Frag} {F : Hp} {R : List Addr} : Reps K F R (ys.map D.str) (ys.map V.str) := strs_reps
theorem de_split (ho : DE G k N sc o mo) (he : DE G k N sc e me) (hst : ∀ env, starEach [e] env = [(false, eval e env)] := by intro _; rfl) (hbase : ∀ env, attributeBase o "split" env (eval o env) = eval o env := by intro _; rfl) (hline : (apos.endLine == pos.line) = true := by rfl) :
    DE G k N sc (.Call (.Attribute o "split" apos) [e] [] pos) (mM1 splitD mo me) :=
  de_m1 F.slot_str_split F.type_str_split (fun _ _ => mt_split) (fun En F R E S σ H W Q a d y rel rp p => by
    cases d <;> try exact p.elim
    cases rp
    rename_i b
    unfold splitD at p
    dsimp only at p
    split at p
    · rename_i hz
      unfold splitOk at hz
      simp only [Bool.and_eq_true, bne_iff_ne, decide_eq_true_eq] at hz
      exact ⟨a, b, rfl, rfl, beq_eq_false_iff_ne.mpr hz.1, hz.2, fun l hl => p.ol rel strs_reps hl⟩
    · exact p.elim) ho he hst hbase hline
theorem de_partition (ho : DE G k N sc o mo) (he : DE G k N sc e me) (hst : ∀ env, starEach [e] env = [(false, eval e env)] := by intro _; rfl) (hbase : ∀ env, attributeBase o "partition" env (eval o env) = eval o env := by intro _; rfl) (hline : (apos.endLine == pos.line) = true := by rfl) :
    DE G k N sc (.Call (.Attribute o "partition" apos) [e] [] pos) (mM1 partD mo me) :=
  de_m1 F.slot_str_partition F.type_str_partition (fun _ _ => mt_partition) (fun En F R E S σ H W Q a d y rel rp p => by
    cases d <;> try exact p.elim
    cases rp
    rename_i b
    unfold partD at p
    dsimp only at p
    split at p
    · rename_i hz
      simp only [Bool.and_eq_true, bne_iff_ne, decide_eq_true_eq] at hz
      exact ⟨a, b, rfl, rfl, beq_eq_false_iff_ne.mpr hz.1, hz.2, fun l hl => p.tup rel (.cons (.str _) (.cons (.str _) (.cons (.str _) .nil))) hl⟩
    · exact p.elim) ho he hst hbase hline
theorem strsOf_ok {K : PySem.W.Frag} {En : Ent} {F : Hp} {R : List Addr} {E : Ev} {S : Store} {σ : L2.St} {H : Hp} (rel : Rel K En F R E S σ H) {d : D} {x : V} {ys : List Str} (rp : Rep K F R d x) (h : strsOf S d = some ys) : ∃ p, x = .ref p ∧ (SqL K H p (ys.map V.str) ∨ SqT K H p (ys.map V.str)) := by
  unfold strsOf at h
  split at h
  · rename_i xs e1
    obtain ⟨a, ws, rfl, h1, h2⟩ := view_lst rel rp e1
    rw [reps_strs h2 h] at h1
    exact ⟨a, rfl, .inl (.of h1)⟩
  · rename_i xs e1
    obtain ⟨a, ws, rfl, h1, h2⟩ := view_scr rel rp e1
    rw [reps_strs h2 h] at h1
    exact ⟨a, rfl, .inl h1⟩
  · rename_i xs e1
    obtain ⟨a, ws, rfl, h1, h2⟩ := view_tup rel rp e1
    rw [reps_strs h2 h] at h1
    exact ⟨a, rfl, .inr h1⟩
  · cases h
theorem de_join (ho : DE G k N sc o mo) (he : DE G k N sc e me) (hst : ∀ env, starEach [e] env = [(false, eval e env)] := by intro _; rfl) (hbase : ∀ env, attributeBase o "join" env (eval o env) = eval o env := by intro _; rfl) (hline : (apos.endLine == pos.line) = true := by rfl) :
    DE G k N sc (.Call (.Attribute o "join" apos) [e] [] pos) (mM1 joinD mo me) :=
  de_m1 F.slot_str_join F.type_str_join (fun X c => c.cK ▸ mt_join) (fun En F R E S σ H W Q a d y rel rp p => by
    unfold joinD at p
    split at p
    · rename_i ys hy
      split at p
      · rename_i hz
        obtain ⟨q, rfl, hq⟩ := strsOf_ok rel rp hy
        exact ⟨a, q, ys, rfl, rfl, hq, of_decide_eq_true hz, p.got rel (.str _)⟩
      · exact p.elim
    · exact p.elim) ho he hst hbase hline
end

/-! ### f-strings -/
def fmtD : F1 := fun d S => match d with
  | .str s => if small s.length then fine (.str s) S else .bad
  | .int i => if fitI i then fine (.str (toString i)) S else .bad
  | _ => .bad
structure DJ (G : Gs) (k : Nat) (N : List Str) (sc : Scope) (es : List Expr) (ms : List (M DV)) : Prop where
  run : ∀ (X : Cx) (W : WX), CtxE G k N sc X → Takes X W → PJ X es (ms.map fun m => tD G.K m W)
def mJs : List (M DV) → Str → M DV
  | [], acc => fun _ S => fine (.str acc) S
  | m :: ms, acc => bnd m fun x => match x.frz with
    | .str y => if small (acc ++ y).length then mJs ms (acc ++ y) else fun _ _ => .bad
    | _ => fun _ _ => .bad
section
variable {G : Gs} {k : Nat} {N : List Str} {sc : Scope} {e : Expr} {es : List Expr} {m : M DV} {ms : List (M DV)} {pos : Pos}
theorem de_fmt (he : DE G k N sc e m) : DE G k N sc (.FormattedValue e (-1) none pos) (mUn fmtD m) :=
  ⟨fun X W c tk => pe_imp (pe_fmt (he.run X W c tk)) fun σ H Q h => by
    obtain ⟨En, F, R, E, S, rel, h⟩ := h
    refine tD_then rel h fun F1 R1 H1 dv v S1 le rel1 rp h1 => ?_
    cases ed : dv.frz with
    | str s =>
      rw [ed] at rp h1
      cases rp
      change Post _ _ _ _ _ _ _ _ (if small s.length then fine (.str s) S1 else .bad) at h1
      split at h1
      · rename_i hz
        exact .inl ⟨s, rfl, of_decide_eq_true hz, Post.got h1 rel1 (.str s)⟩
      · exact h1.elim
    | int i =>
      rw [ed] at rp h1
      cases rp
      change Post _ _ _ _ _ _ _ _ (if fitI i then fine (.str (toString i)) S1 else .bad) at h1
      split at h1
      · rename_i hz
        exact .inr ⟨i, rfl, of_decide_eq_true hz, Post.got h1 rel1 (.str _)⟩
      · exact h1.elim
    | _ => rw [ed] at h1; exact h1.elim⟩
theorem dj_nil : DJ G k N sc [] [] := ⟨fun _ _ _ _ => .nil⟩
theorem dj_cons (he : DE G k N sc e m) (hr : DJ G k N sc es ms) : DJ G k N sc (e :: es) (m :: ms) := ⟨fun X W c tk => .cons (he.run X W c tk) (hr.run X W c tk)⟩
theorem tJs_of {K : PySem.W.Frag} {En : Ent} {E : Ev} {σ : L2.St} {W : WX} {Q : VK} : ∀ {ms : List (M DV)} {acc : Str} {F : Hp} {R : List Addr} {S : Store} {H : Hp}, Rel K En F R E S σ H → Post K En F R E σ W Q (mJs ms acc E S) → tJs (ms.map fun m => tD K m W) acc σ H fun out H1 => Q (.str out) H1
  | [], acc, F, R, S, H, rel, h => Post.got h rel (.str acc)
  | m :: ms, acc, F, R, S, H, rel, h => by
    refine tD_then rel h fun F1 R1 H1 dv v S1 le rel1 rp h1 => ?_
    cases ed : dv.frz with
    | str y =>
      rw [ed] at rp h1
      cases rp
      dsimp only at h1
      split at h1
      · rename_i hz
        exact ⟨y, rfl, of_decide_eq_true hz, tJs_of rel1 h1⟩
      · exact h1.elim
    | _ => rw [ed] at h1; exact h1.elim
theorem de_joined {v1 v2 : Expr} (h : DJ G k N sc (v1 :: v2 :: es) ms) : DE G k N sc (.JoinedStr (v1 :: v2 :: es) pos) (mJs ms Str.empty) :=
  ⟨fun X W c tk => pe_imp (pe_joined (h.run X W c tk)) fun σ H Q h => by
    obtain ⟨En, F, R, E, S, rel, h⟩ := h
    exact tJs_of rel h⟩
end
end Hm
set_option Elab.async false
set_option linter.all false
set_option maxRecDepth 100000
set_option maxHeartbeats 2000000
namespace Hm
open PySem PySem.Spec L2

/-! ### places: an own slot, a cell -/
inductive Plc where
  | sl (i : Nat) | ce (k : Nat)
def plcL (E : Ev) (S : Store) : Plc → Option (List D)
  | .sl i => (match E[i]? with
    | some (some (.ol ds)) => some ds
    | _ => none)
  | .ce k => (match S[k]? with
    | some (.lst ds) => some ds
    | _ => none)
def plcK (E : Ev) (S : Store) : Plc → Option (List (Key × D))
  | .sl i => (match E[i]? with
    | some (some (.od ds)) => some ds
    | _ => none)
  | .ce k => (match S[k]? with
    | some (.dct ds) => some ds
    | _ => none)
theorem plcL_sl {E : Ev} {S : Store} {i : Nat} {ds : List D} (h : plcL E S (.sl i) = some ds) : E[i]? = some (some (.ol ds)) := by
  dsimp only [plcL] at h
  split at h
  · rename_i e; cases h; exact e
  · cases h
theorem plcL_ce {E : Ev} {S : Store} {i : Nat} {ds : List D} (h : plcL E S (.ce i) = some ds) : S[i]? = some (.lst ds) := by
  dsimp only [plcL] at h
  split at h
  · rename_i e; cases h; exact e
  · cases h
theorem plcK_sl {E : Ev} {S : Store} {i : Nat} {ds : List (Key × D)} (h : plcK E S (.sl i) = some ds) : E[i]? = some (some (.od ds)) := by
  dsimp only [plcK] at h
  split at h
  · rename_i e; cases h; exact e
  · cases h
theorem plcK_ce {E : Ev} {S : Store} {i : Nat} {ds : List (Key × D)} (h : plcK E S (.ce i) = some ds) : S[i]? = some (.dct ds) := by
  dsimp only [plcK] at h
  split at h
  · rename_i e; cases h; exact e
  · cases h
def putE (E : Ev) (dv : DV) : Plc → Ev
  | .sl i => E.set i (some dv)
  | .ce _ => E
def putS (S : Store) (c : Cell) : Plc → Store
  | .sl _ => S
  | .ce k => S.set k c
def AtP (R : List Addr) (σ : L2.St) (a : Addr) : Plc → Prop
  | .sl i => σ[i]? = some (some (.ref a))
  | .ce k => R[k]? = some a
theorem AtP.mono {F F' : Hp} {R R' : List Addr} {σ : L2.St} {a : Addr} (le : Le F R F' R') : ∀ {p : Plc}, AtP R σ a p → AtP R' σ a p
  | .sl _, h => h
  | .ce _, h => le.r _ _ h
section
variable {K : PySem.W.Frag} {En : Ent} {F F' : Hp} {R R' : List Addr} {E E' : Ev} {S S' : Store} {σ σ' : L2.St} {H H' : Hp} {W : WX}
/-- an own slot's thing is changed -/
theorem Rel.setOwn (r : Rel K En F R E S σ H) {i : Nat} {x dv : DV} {a : Addr} {o : HO} (e : E[i]? = some (some x)) (ox : x.isOwn = true) (od : dv.isOwn = true) (es : σ[i]? = some (some (.ref a))) (h : OwnAt K F R (upd H a o) a dv) : Rel K En F R (E.set i (some dv)) S σ (upd H a o) := by
  have hil : i < E.length := (List.getElem?_eq_some_iff.mp e).1
  have q : F a = none ∧ a ∉ R ∧ En.H a = none := by
    have z := r.slot i x e
    cases x with
    | val d => cases ox
    | ol ds =>
      obtain ⟨b, eb, _, f1, f2, f3⟩ := z
      rw [es] at eb; cases eb
      exact ⟨f1, f2, f3⟩
    | od ds =>
      obtain ⟨b, eb, _, f1, f2, f3⟩ := z
      rw [es] at eb; cases eb
      exact ⟨f1, f2, f3⟩
  obtain ⟨f1, f2, f3⟩ := q
  have hi : ∀ {j : Nat} {y : DV}, (E.set i (some dv))[j]? = some (some y) → (j = i ∧ y = dv) ∨ (j ≠ i ∧ E[j]? = some (some y)) := fun {j y} e2 => by
    by_cases hj : j = i
    · subst hj
      rw [List.getElem?_set_self hil] at e2
      cases e2
      exact .inl ⟨rfl, rfl⟩
    · rw [List.getElem?_set_ne (Ne.symm hj)] at e2
      exact .inr ⟨hj, e2⟩
  refine ⟨r.len, fun b u eb => ?_, r.nodup, fun k c b e1 e2 => ?_, fun j y ej => ?_, fun j1 j2 y1 y2 b e1 e2 o1 o2 s1 s2 => ?_, fun b u eb n f => ?_, r.nf, r.nr, by rw [List.length_set]; exact r.elen⟩
  · rw [upd_ne (fun z => by rw [z, f1] at eb; cases eb)]; exact r.frz b u eb
  · obtain ⟨q, f⟩ := r.cell k c b e1 e2
    exact ⟨q.mono Le.refl (upd_ne fun z => f2 (by rw [← z]; exact List.mem_of_getElem? e2)), f⟩
  · rcases hi ej with ⟨rfl, rfl⟩ | ⟨hj, e2⟩
    · cases y with
      | val d => cases od
      | ol ds => exact ⟨a, es, h, f1, f2, f3⟩
      | od ds => exact ⟨a, es, h, f1, f2, f3⟩
    · exact (r.slot j y e2).mono Le.refl fun b eb ow g1 g2 g3 => ⟨upd_ne fun z => hj (r.apart j i y x a e2 e ow ox (by rw [eb, z]) es), g1, g2⟩
  · rcases hi e1 with ⟨h1, h2⟩ | ⟨h1, h2⟩
    · rcases hi e2 with ⟨g1, g2⟩ | ⟨g1, g2⟩
      · rw [h1, g1]
      · subst h1
        exact r.apart j1 j2 x y2 b e g2 ox o2 s1 s2
    · rcases hi e2 with ⟨g1, g2⟩ | ⟨g1, g2⟩
      · subst g1
        exact r.apart j1 j2 y1 x b h2 e o1 ox s1 s2
      · exact r.apart j1 j2 y1 y2 b h2 g2 o1 o2 s1 s2
  · rw [upd_ne (fun z => by rw [z, f3] at eb; cases eb)]; exact r.keep b u eb n f
/-- a cell is changed -/
theorem Rel.setCell (r : Rel K En F R E S σ H) {k : Nat} {c : Cell} {a : Addr} {o : HO} (hk : R[k]? = some a) (h : CellAt K F R (upd H a o) a c) : Rel K En F R E (S.set k c) σ (upd H a o) := by
  have hkl : k < S.length := by rw [← r.len]; exact (List.getElem?_eq_some_iff.mp hk).1
  have mem : a ∈ R := List.mem_of_getElem? hk
  have f1 : F a = none := (r.cell k _ a (List.getElem?_eq_getElem hkl) hk).2
  refine ⟨by rw [List.length_set]; exact r.len, fun b u eb => ?_, r.nodup, fun j cc b e1 e2 => ?_, fun j y ej => ?_, r.apart, fun b u eb n f => ?_, r.nf, r.nr, r.elen⟩
  · rw [upd_ne (fun z => by rw [z, f1] at eb; cases eb)]; exact r.frz b u eb
  · by_cases hj : j = k
    · subst hj
      rw [List.getElem?_set_self hkl] at e1
      cases e1
      rw [hk] at e2
      cases e2
      exact ⟨h, f1⟩
    · rw [List.getElem?_set_ne (Ne.symm hj)] at e1
      obtain ⟨q, f⟩ := r.cell j cc b e1 e2
      refine ⟨q.mono Le.refl (upd_ne fun z => ?_), f⟩
      subst z
      have l1 : j < R.length := (List.getElem?_eq_some_iff.mp e2).1
      have l2 : k < R.length := (List.getElem?_eq_some_iff.mp hk).1
      have g1 : R[j] = b := (List.getElem?_eq_some_iff.mp e2).2
      have g2 : R[k] = b := (List.getElem?_eq_some_iff.mp hk).2
      exact hj ((List.getElem_inj r.nodup).mp (g1.trans g2.symm))
  · exact (r.slot j y ej).mono Le.refl fun b eb ow g1 g2 g3 => ⟨upd_ne fun z => g2 (by rw [z]; exact mem), g1, g2⟩
  · rw [upd_ne (fun z => n (by rw [z]; exact mem))]; exact r.keep b u eb n f
theorem Rel.plcL (r : Rel K En F R E S σ H) : ∀ {p : Plc} {a : Addr} {ds : List D}, AtP R σ a p → plcL E S p = some ds → ∃ vs, H a = some (.lst vs) ∧ Reps K F R ds vs ∧
    ∀ ds' vs', Reps K F R ds' vs' → Rel K En F R (putE E (.ol ds') p) (putS S (.lst ds') p) σ (upd H a (.lst vs'))
  | .sl i, a, ds, ha, e => by
    have hx := plcL_sl e
    obtain ⟨b, eb, ⟨vs, h1, h2⟩, _⟩ := r.slot i _ hx
    rw [show σ[i]? = some (some (.ref a)) from ha] at eb
    cases eb
    exact ⟨vs, h1, h2, fun ds' vs' rs => r.setOwn hx rfl rfl ha ⟨vs', upd_same, rs⟩⟩
  | .ce k, a, ds, ha, e => by
    obtain ⟨⟨vs, h1, h2⟩, _⟩ := r.cell k _ a (plcL_ce e) ha
    exact ⟨vs, h1, h2, fun ds' vs' rs => r.setCell ha ⟨vs', upd_same, rs⟩⟩
theorem Rel.plcK (r : Rel K En F R E S σ H) : ∀ {p : Plc} {a : Addr} {ds : List (Key × D)}, AtP R σ a p → plcK E S p = some ds → ∃ vs, H a = some (.dK vs) ∧ RepK K F R ds vs ∧
    ∀ ds' vs', RepK K F R ds' vs' → Rel K En F R (putE E (.od ds') p) (putS S (.dct ds') p) σ (upd H a (.dK vs'))
  | .sl i, a, ds, ha, e => by
    have hx := plcK_sl e
    obtain ⟨b, eb, ⟨vs, h1, h2⟩, _⟩ := r.slot i _ hx
    rw [show σ[i]? = some (some (.ref a)) from ha] at eb
    cases eb
    exact ⟨vs, h1, h2, fun ds' vs' rs => r.setOwn hx rfl rfl ha ⟨vs', upd_same, rs⟩⟩
  | .ce k, a, ds, ha, e => by
    obtain ⟨⟨vs, h1, h2⟩, _⟩ := r.cell k _ a (plcK_ce e) ha
    exact ⟨vs, h1, h2, fun ds' vs' rs => r.setCell ha ⟨vs', upd_same, rs⟩⟩
end
def tP (K : PySem.W.Frag) (m : M Plc) (W : WX) : TE := fun σ H Q => ∃ (En : Ent) (F : Hp) (R : List Addr) (E : Ev) (S : Store), Rel K En F R E S σ H ∧ PostX K En F R E σ W (fun _ R' H' p _ => ∀ a, AtP R' σ a p → Q (.ref a) H') (m E S)
structure DP (G : Gs) (k : Nat) (N : List Str) (sc : Scope) (e : Expr) (m : M Plc) : Prop where
  run : ∀ (X : Cx) (W : WX), CtxE G k N sc X → Takes X W → PE X e (tP G.K m W)
def mPv (i : Nat) : M Plc := fun E S => match E[i]? with
  | some (some (.val (.ref k))) => .ok (.ce k) S
  | some (some (.ol _)) => .ok (.sl i) S
  | some (some (.od _)) => .ok (.sl i) S
  | _ => .bad
def mPe (m : M DV) : M Plc := bnd m fun x _ S => match x with
  | .val (.ref k) => .ok (.ce k) S
  | _ => .bad
section
variable {G : Gs} {k : Nat} {N : List Str} {sc : Scope} {e : Expr} {m : M DV} {pos : Pos}
theorem dp_name {x : Str} (i : Nat) (hN : N[i]? = some x := by rfl) (hv : Vis sc x := by first | exact Or.inl rfl | exact Or.inr (Or.inl rfl) | exact Or.inr (Or.inr rfl)) (hd : (x == ("__debug__" : Str)) = false := by decide)
    (hcd : (x == ("__classdict__" : Str)) = false := by decide) : DP G k N sc (.Name x pos) (mPv i) :=
  ⟨fun X W c tk => pe_imp (pe_var (i := i) (by rw [c.cN]; exact hN) (by rw [c.csc]; exact hv) hd hcd) fun σ H Q h => by
    obtain ⟨En, F, R, E, S, rel, h⟩ := h
    unfold mPv at h
    split at h
    · rename_i kk e
      obtain ⟨v, e2, r⟩ := rel.slot i _ e
      cases r with
      | ref hk => exact ⟨_, e2, h F R H Le.refl rel _ hk⟩
    · rename_i ds e
      obtain ⟨a, e2, _⟩ := rel.slot i _ e
      exact ⟨_, e2, h F R H Le.refl rel a e2⟩
    · rename_i ds e
      obtain ⟨a, e2, _⟩ := rel.slot i _ e
      exact ⟨_, e2, h F R H Le.refl rel a e2⟩
    · exact h.elim⟩
theorem dp_val (he : DE G k N sc e m) : DP G k N sc e (mPe m) :=
  ⟨fun X W c tk => pe_imp (he.run X W c tk) fun σ H Q h => by
    obtain ⟨En, F, R, E, S, rel, h⟩ := h
    refine ⟨En, F, R, E, S, rel, (post_bnd h).imp fun F1 R1 H1 x S1 le rel1 q v hv => ?_⟩
    cases x with
    | val d => cases d with
      | ref kk =>
        cases hv with
        | ref hk => exact q F1 R1 H1 Le.refl rel1 _ hk
      | _ => exact q.elim
    | _ => exact q.elim⟩
end
section
variable {K : PySem.W.Frag} {En : Ent} {F : Hp} {R : List Addr} {E : Ev} {S : Store} {σ : L2.St} {H : Hp} {W : WX} {D : Ends}
theorem withP_then {m : M Plc} {f : Plc → MS} {k : V → Hp → Prop} (rel : Rel K En F R E S σ H) (h : PostS K En F R D W (withE m f E S))
    (hk : ∀ F1 R1 H1 p a S1, Le F R F1 R1 → Rel K En F1 R1 E S1 σ H1 → AtP R1 σ a p → PostS K En F1 R1 D W (f p E S1) → k (.ref a) H1) : tP K m W σ H k :=
  ⟨En, F, R, E, S, rel, (post_with rel h).imp fun F1 R1 H1 p S1 le rel1 q a ha => hk F1 R1 H1 p a S1 le rel1 ha q⟩
/-- arguments in a statement -/
theorem withA_then {m : M (List Hm.D)} {f : List Hm.D → MS} {k : List V → Hp → Prop} (rel : Rel K En F R E S σ H) (h : PostS K En F R D W (withE m f E S))
    (hk : ∀ F1 R1 H1 ds vs S1, Le F R F1 R1 → Rel K En F1 R1 E S1 σ H1 → Reps K F1 R1 ds vs → PostS K En F1 R1 D W (f ds E S1) → k vs H1) : tA K m W σ H k :=
  ⟨En, F, R, E, S, rel, (post_with rel h).imp fun F1 R1 H1 ds S1 le rel1 q vs rs => hk F1 R1 H1 ds vs S1 le rel1 rs q⟩
end

/-! ### x.append(e), x.extend(e), x[i] = e -/
def putD (kvs : List (Key × D)) (k : Key) (d : D) : List (Key × D) :=
  if (kvs.any fun kv => decide (kv.1 = k)) = true then kvs.map (fun kv => if kv.1 = k then (kv.1, d) else kv) else kvs ++ [(k, d)]
def appS (mp : M Plc) (ms : M (List D)) : MS := withE mp fun p E S => match plcL E S p with
  | none => .bad
  | some _ => withE ms (fun ds E S => match ds, plcL E S p with
    | [d], some xs => if xs.length < sizeLine then .nx (putE E (.ol (xs ++ [d])) p) (putS S (.lst (xs ++ [d])) p) else .bad
    | _, _ => .bad) E S
def extS (mp : M Plc) (ms : M (List D)) : MS := withE mp fun p E S => match plcL E S p with
  | none => .bad
  | some _ => withE ms (fun ds E S => match ds, plcL E S p with
    | [.lst ys], some xs => if xs.length + ys.length ≤ sizeLine then .nx (putE E (.ol (xs ++ ys)) p) (putS S (.lst (xs ++ ys)) p) else .bad
    | _, _ => .bad) E S
def ixPut (E : Ev) (S : Store) (p : Plc) (di dx : D) : Option (DV × Cell) := match plcL E S p with
  | some xs => (match di with
    | .int k => (ixN xs.length k).map fun j => (.ol (xs.set j dx), .lst (xs.set j dx))
    | _ => none)
  | none => (match plcK E S p with
    | some kvs => (match keyOf di with
      | some key => if kvs.length < sizeLine then some (.od (putD kvs key dx), .dct (putD kvs key dx)) else none
      | none => none)
    | none => none)
def setIxS (me : M DV) (mp : M Plc) (mi : M DV) : MS := withE me fun x => withE mp fun p => withE mi fun i E S => match ixPut E S p i.frz x.frz with
  | some r => .nx (putE E r.1 p) (putS S r.2 p)
  | none => .bad
theorem repK_any {K : PySem.W.Frag} {F : Hp} {R : List Addr} {k : Key} : ∀ {kvs : List (Key × D)} {ks : List (Key × V)}, RepK K F R kvs ks → (kvs.any fun kv => decide (kv.1 = k)) = ks.any fun kv => decide (kv.1 = k)
  | _, _, .nil => rfl
  | _, _, .cons r t => by rw [List.any_cons, List.any_cons, repK_any t]
theorem repK_map {K : PySem.W.Frag} {F : Hp} {R : List Addr} {k : Key} {d : D} {v : V} (r : Rep K F R d v) : ∀ {kvs : List (Key × D)} {ks : List (Key × V)}, RepK K F R kvs ks → RepK K F R (kvs.map fun kv => if kv.1 = k then (kv.1, d) else kv) (ks.map fun kv => if kv.1 = k then (kv.1, v) else kv)
  | _, _, .nil => .nil
  | _, _, .cons (k := k1) r1 t => by
    rw [List.map_cons, List.map_cons]
    by_cases e : k1 = k
    · rw [if_pos e, if_pos e]; exact .cons r (repK_map r t)
    · rw [if_neg e, if_neg e]; exact .cons r1 (repK_map r t)
theorem repK_app {K : PySem.W.Frag} {F : Hp} {R : List Addr} : ∀ {kvs ls : List (Key × D)} {ks ms : List (Key × V)}, RepK K F R kvs ks → RepK K F R ls ms → RepK K F R (kvs ++ ls) (ks ++ ms)
  | _, _, _, _, .nil, h => h
  | _, _, _, _, .cons r t, h => .cons r (repK_app t h)
theorem repK_put {K : PySem.W.Frag} {F : Hp} {R : List Addr} {k : Key} {d : D} {v : V} (r : Rep K F R d v) {kvs : List (Key × D)} {ks : List (Key × V)} (h : RepK K F R kvs ks) : RepK K F R (putD kvs k d) (putK ks k v) := by
  unfold putD putK
  rw [repK_any h]
  split
  · exact repK_map r h
  · exact repK_app h (.cons r .nil)
section
variable {G : Gs} {k : Nat} {N : List Str} {sc : Scope} {o e i : Expr} {es : List Expr} {mp : M Plc} {me mi : M DV} {ms : M (List D)} {apos cpos pos : Pos}
theorem ds_append (ho : DP G k N sc o mp) (ha : DA G k N sc [e] ms) (hs : ∀ env, swapsWith (.Call (.Attribute o "append" apos) [e] [] cpos) none pos.line env = pure false := by intro _; rfl)
    (hbase : ∀ env, attributeBase o "append" env (eval o env) = eval o env := by intro _; rfl) (hfew : ∀ env, ((backTo cpos (starEach [e] env)).all (fun x => !x.1) && (backToKw cpos (keywordEach [] env)).all (fun x => x.1.isSome)
      && decide ([e].length + ([] : List Keyword).length + (if ([] : List Keyword).isEmpty then 0 else 1) < 30)) = true := by intro _; rfl) (hline : (apos.endLine == cpos.line) = true := by rfl)
    (hst : ∀ env, starEach [e] env = (false, eval e env) :: starEach [] env := by intro _; rfl) (hpl : ∀ env, (backTo cpos (starEach [] env)).any (·.1) = false := by intro _; rfl) :
    DS G k N sc (.Expr (.Call (.Attribute o "append" apos) [e] [] cpos) pos) (appS mp ms) :=
  ⟨fun X W c tk => ps_imp (ps_expr (pe_bm F.plainAttrs_list F.slot_list_append F.type_list_append mt_append (ho.run X W c.e tk) (ha.run X W c.e tk) (hbase _) (hfew _) hline (hst _) (hpl _)) (hs _)) fun D σ H h => by
    obtain ⟨En, F, R, E, S, rel, h⟩ := h
    unfold tDrop tBM
    refine withP_then rel h fun F1 R1 H1 p a S1 le rel1 hp q => ?_
    split at q
    · exact q.elim
    · rename_i xs0 hx0
      obtain ⟨vs0, h0, _⟩ := rel1.plcL hp hx0
      refine ⟨.inl ⟨rfl, vs0, .of h0⟩, ?_⟩
      refine withA_then rel1 q fun F2 R2 H2 ds vs S2 le2 rel2 rs q2 => ?_
      split at q2
      · rename_i d xs hx
        split at q2
        · rename_i hz
          obtain ⟨v, rfl, rd⟩ := reps1 rs
          obtain ⟨ws, hw, rw', put⟩ := rel2.plcL (hp.mono le2) hx
          exact ⟨a, ws, v, rfl, rfl, hw, by rw [← rw'.length]; exact hz, q2 F2 R2 σ _ Le.refl (put _ _ (rw'.append (.cons rd .nil)))⟩
        · exact q2.elim
      · exact q2.elim⟩
theorem ds_extend (ho : DP G k N sc o mp) (ha : DA G k N sc [e] ms) (hs : ∀ env, swapsWith (.Call (.Attribute o "extend" apos) [e] [] cpos) none pos.line env = pure false := by intro _; rfl)
    (hbase : ∀ env, attributeBase o "extend" env (eval o env) = eval o env := by intro _; rfl) (hfew : ∀ env, ((backTo cpos (starEach [e] env)).all (fun x => !x.1) && (backToKw cpos (keywordEach [] env)).all (fun x => x.1.isSome)
      && decide ([e].length + ([] : List Keyword).length + (if ([] : List Keyword).isEmpty then 0 else 1) < 30)) = true := by intro _; rfl) (hline : (apos.endLine == cpos.line) = true := by rfl)
    (hst : ∀ env, starEach [e] env = (false, eval e env) :: starEach [] env := by intro _; rfl) (hpl : ∀ env, (backTo cpos (starEach [] env)).any (·.1) = false := by intro _; rfl) :
    DS G k N sc (.Expr (.Call (.Attribute o "extend" apos) [e] [] cpos) pos) (extS mp ms) :=
  ⟨fun X W c tk => ps_imp (ps_expr (pe_bm F.plainAttrs_list F.slot_list_extend F.type_list_extend mt_extend (ho.run X W c.e tk) (ha.run X W c.e tk) (hbase _) (hfew _) hline (hst _) (hpl _)) (hs _)) fun D σ H h => by
    obtain ⟨En, F, R, E, S, rel, h⟩ := h
    unfold tDrop tBM
    refine withP_then rel h fun F1 R1 H1 p a S1 le rel1 hp q => ?_
    split at q
    · exact q.elim
    · rename_i xs0 hx0
      obtain ⟨vs0, h0, _⟩ := rel1.plcL hp hx0
      refine ⟨.inl ⟨rfl, vs0, .of h0⟩, ?_⟩
      refine withA_then rel1 q fun F2 R2 H2 ds vs S2 le2 rel2 rs q2 => ?_
      split at q2
      · rename_i ys xs hx
        split at q2
        · rename_i hz
          obtain ⟨v, rfl, rd⟩ := reps1 rs
          cases rd with
          | lst hb rb =>
            obtain ⟨ws, hw, rw', put⟩ := rel2.plcL (hp.mono le2) hx
            exact ⟨a, _, ws, _, rfl, rfl, hw, rel2.frz _ _ hb, by rw [← rw'.length, ← rb.length]; exact hz, q2 F2 R2 σ _ Le.refl (put _ _ (rw'.append rb))⟩
        · exact q2.elim
      · exact q2.elim⟩
/-- o[i] = e -/
theorem ds_setIx {tpos : Pos} (he : DE G k N sc e me) (ho : DP G k N sc o mp) (hi : DE G k N sc i mi) (hs : ∀ env, swapsWithSole [.Subscript o i tpos] e pos.line env = pure false := by intro _; rfl) (hw : ∀ env, swappedStores [.Subscript o i tpos] e env = pure none := by intro _; rfl)
    (h1 : ∀ env, (assignEach [.Subscript o i tpos] env).map (·.2) = [assign (.Subscript o i tpos) env] := by intro _; rfl)
    (ha : ∀ env v, assign (.Subscript o i tpos) env v = (do
      let ov ← holding [v] (eval o env)
      let iv ← holding [v, ov] (eval i env)
      standAt tpos
      holding [v, ov, iv] (setItem ov iv v)
      release [v, ov, iv] []) := by intro _ _; rfl) : DS G k N sc (.Assign [.Subscript o i tpos] e pos) (setIxS me mp mi) :=
  ⟨fun X W c tk => ⟨fun pins s σ H D I h => by
    have pe := he.run X W c.e tk
    have po := ho.run X W c.e tk
    have pi := hi.run X W c.e tk
    refine (ps_asg (g := fun v σ H Q => tP G.K mp W σ H fun ov H1 => tD G.K mi W σ H1 fun iv H2 => (rSetL ov iv v H2 fun H3 => Q σ H3) ∨ (rSetD ov iv v H2 fun H3 => Q σ H3)) pe ?_ (hs _) (hw _) (h1 _)).run pins s σ H D I ?_
    · exact pg_imp (pg_sub (t := fun o i v H Q => rSetL o i v H Q ∨ rSetD o i v H Q) po pi (fun pins s σ H o i v ov iv u Q I ro ri rv h => h.elim (set_list pins s σ H o i v ov iv u Q I ro ri rv) (set_dict (hu_of c.e.croom) pins s σ H o i v ov iv u Q I ro ri rv)) (ha _)) fun v σ H Q h => h
    · obtain ⟨En, F, R, E, S, rel, h⟩ := h
      refine withE_thenF rel h fun F1 R1 H1 dx x S1 le rel1 rx q => ?_
      refine withP_then rel1 q fun F2 R2 H2 p a S2 le2 rel2 hp q2 => ?_
      refine withE_thenF rel2 q2 fun F3 R3 H3 di iv S3 le3 rel3 ri q3 => ?_
      have rx3 := rx.mono (le2.trans le3) _ _
      cases er : ixPut E S3 p di.frz dx.frz with
      | none => rw [er] at q3; exact q3.elim
      | some r =>
        rw [er] at q3
        unfold ixPut at er
        cases hx : plcL E S3 p with
        | some xs =>
          rw [hx] at er
          dsimp only at er
          split at er
          · rename_i kk ei
            obtain ⟨j, hj, rfl⟩ := Option.map_eq_some_iff.mp er
            rw [ei] at ri
            cases ri
            obtain ⟨ws, hw, rw', put⟩ := rel3.plcL (hp.mono le3) hx
            exact .inl ⟨a, ws, kk, j, rfl, rfl, hw, by rw [← rw'.length]; exact hj, q3 F3 R3 σ _ Le.refl (put _ _ (rw'.set j rx3))⟩
          · cases er
        | none =>
          rw [hx] at er
          dsimp only at er
          cases hk : plcK E S3 p with
          | none => rw [hk] at er; cases er
          | some kvs =>
            rw [hk] at er
            dsimp only at er
            cases hkey : keyOf di.frz with
            | none => rw [hkey] at er; cases er
            | some key =>
              rw [hkey] at er
              dsimp only at er
              split at er
              · rename_i hz
                cases er
                obtain rfl := keyOf_ok ri hkey
                obtain ⟨ws, hw, rw', put⟩ := rel3.plcK (hp.mono le3) hk
                exact .inr ⟨a, _, rfl, .k hw (by rw [← rw'.length]; exact hz), q3 F3 R3 σ _ Le.refl (put _ _ (repK_put rx3 rw'))⟩
              · cases er⟩⟩
end

/-! ### an own slot becomes a cell -/
def celS (i : Nat) (m : MS) : MS := fun E S => match E[i]? with
  | some (some (.ol ds)) => m (E.set i (some (.val (.ref S.length)))) (S ++ [.lst ds])
  | some (some (.od ds)) => m (E.set i (some (.val (.ref S.length)))) (S ++ [.dct ds])
  | _ => m E S
section
variable {K : PySem.W.Frag} {En : Ent} {F F' : Hp} {R R' : List Addr} {E E' : Ev} {S S' : Store} {σ σ' : L2.St} {H H' : Hp} {W : WX}
theorem Rel.celSlot (r : Rel K En F R E S σ H) {i : Nat} {dv : DV} {c : Cell} (e : E[i]? = some (some dv)) (ow : dv.isOwn = true) (hc : ∀ a, OwnAt K F R H a dv → CellAt K F R H a c) : ∃ R', Le F R F R' ∧ Rel K En F R' (E.set i (some (.val (.ref S.length)))) (S ++ [c]) σ H := by
  have hil : i < E.length := (List.getElem?_eq_some_iff.mp e).1
  have q : ∃ a, σ[i]? = some (some (.ref a)) ∧ OwnAt K F R H a dv ∧ F a = none ∧ a ∉ R ∧ En.H a = none := by
    have z := r.slot i dv e
    cases dv with
    | val d => cases ow
    | ol ds => exact z
    | od ds => exact z
  obtain ⟨a, ea, oa, f1, f2, f3⟩ := q
  have le : Le F R F (R ++ [a]) := ⟨fun _ _ h => .inl h, fun j b h => by rw [List.getElem?_append_left ((List.getElem?_eq_some_iff.mp h).1)]; exact h⟩
  have hi : ∀ {j : Nat} {y : DV}, (E.set i (some (.val (.ref S.length))))[j]? = some (some y) → (j = i ∧ y = .val (.ref S.length)) ∨ (j ≠ i ∧ E[j]? = some (some y)) := fun {j y} e2 => by
    by_cases hj : j = i
    · subst hj
      rw [List.getElem?_set_self hil] at e2
      cases e2
      exact .inl ⟨rfl, rfl⟩
    · rw [List.getElem?_set_ne (Ne.symm hj)] at e2
      exact .inr ⟨hj, e2⟩
  refine ⟨R ++ [a], le, by rw [List.length_append, List.length_append, r.len]; rfl, r.frz, ?_, fun j cc b e1 e2 => ?_, fun j y ej => ?_, fun j1 j2 y1 y2 b e1 e2 o1 o2 s1 s2 => ?_, fun b u eb n f => ?_, r.nf, fun b u eb m => ?_, by rw [List.length_set]; exact r.elen⟩
  · rw [List.nodup_append]
    refine ⟨r.nodup, by simp, fun x hx y hy => ?_⟩
    rw [List.mem_singleton.mp hy]
    exact fun z => f2 (by rw [← z]; exact hx)
  · by_cases hj : j < S.length
    · rw [List.getElem?_append_left hj] at e1
      rw [List.getElem?_append_left (by rw [r.len]; exact hj)] at e2
      obtain ⟨q, f⟩ := r.cell j cc b e1 e2
      exact ⟨q.mono le rfl, f⟩
    · rw [List.getElem?_append_right (by omega)] at e1
      rw [List.getElem?_append_right (by rw [r.len]; omega), r.len] at e2
      have hz : j - S.length = 0 := by
        have h1 := (List.getElem?_eq_some_iff.mp e1).1
        rw [List.length_singleton] at h1
        omega
      rw [hz] at e1 e2
      cases e1
      cases e2
      exact ⟨(hc a oa).mono le rfl, f1⟩
  · rcases hi ej with ⟨rfl, rfl⟩ | ⟨hj, e2⟩
    · exact ⟨.ref a, ea, .ref (by rw [List.getElem?_append_right (by rw [r.len]; exact Nat.le_refl _), r.len, Nat.sub_self]; rfl)⟩
    · refine (r.slot j y e2).mono le fun b eb ow2 g1 g2 g3 => ⟨rfl, g1, fun m => ?_⟩
      rcases List.mem_append.mp m with m | m
      · exact g2 m
      · rw [List.mem_singleton.mp m] at eb
        exact hj (r.apart j i y dv a e2 e ow2 ow eb ea)
  · rcases hi e1 with ⟨h1, h2⟩ | ⟨h1, h2⟩
    · subst h2; cases o1
    · rcases hi e2 with ⟨g1, g2⟩ | ⟨g1, g2⟩
      · subst g2; cases o2
      · exact r.apart j1 j2 y1 y2 b h2 g2 o1 o2 s1 s2
  · exact r.keep b u eb (fun m => n (List.mem_append_left _ m)) f
  · rcases List.mem_append.mp m with m | m
    · exact r.nr b u eb m
    · rw [List.mem_singleton.mp m, f3] at eb; cases eb
end
section
variable {G : Gs} {k : Nat} {N : List Str} {sc : Scope} {st : Stmt} {a : MS}
theorem ds_cel (i : Nat) (h : DS G k N sc st a) : DS G k N sc st (celS i a) :=
  ⟨fun X W c tk => ps_imp (h.run X W c tk) fun D σ H q => by
    obtain ⟨En, F, R, E, S, rel, q⟩ := q
    unfold celS at q
    split at q
    · rename_i ds e
      obtain ⟨R', le, r⟩ := rel.celSlot e rfl (c := .lst ds) fun a h => h
      exact ⟨En, F, R', _, _, r, q.mono le⟩
    · rename_i ds e
      obtain ⟨R', le, r⟩ := rel.celSlot e rfl (c := .dct ds) fun a h => h
      exact ⟨En, F, R', _, _, r, q.mono le⟩
    · exact ⟨En, F, R, E, S, rel, q⟩⟩

/-! ### a, b = x, y -/
def parS (i j : Nat) (ms : M (List D)) : MS := withE ms fun ds E S => match ds with
  | [d, e] => .nx ((E.set i (some (.val d))).set j (some (.val e))) S
  | _ => .bad
theorem ds_par {x y : Str} {a b : Expr} {ms : M (List D)} {px py pt pos : Pos} {kt k2 : Nat} {pt2 : Pos} (i j : Nat) (ha : DA G k N sc [a, b] ms) (hN : N[i]? = some x := by rfl) (hN2 : N[j]? = some y := by rfl) (hij : i ≠ j := by decide)
    (hx : sc.names.lookup x = some .local := by rfl) (hy : sc.names.lookup y = some .local := by rfl) (hw : ∀ env, env.scope = sc → swappedStores [.Tuple [.Name x px, .Name y py] kt pt] (.Tuple [a, b] k2 pt2) env = pure (some [x, y]))
    (hs : ∀ env, swapsWithSole [.Tuple [.Name x px, .Name y py] kt pt] (.Tuple [a, b] k2 pt2) pos.line env = pure false := by intro _; rfl) : DS G k N sc (.Assign [.Tuple [.Name x px, .Name y py] kt pt] (.Tuple [a, b] k2 pt2) pos) (parS i j ms) :=
  ⟨fun X W c tk => ps_imp (ps_par (i := i) (j := j) c.e.ccalm (by rw [c.e.cN]; exact c.e.cnd) (by rw [c.e.cN]; exact hN) (by rw [c.e.cN]; exact hN2) hij (by rw [c.e.csc]; exact hx) (by rw [c.e.csc]; exact hy) (ha.run X W c.e tk) (hw _ c.e.csc) (hs _)) fun D σ H h => by
    obtain ⟨En, F, R, E, S, rel, h⟩ := h
    refine withA_then rel h fun F1 R1 H1 ds vs S1 le rel1 rs q => ?_
    split at q
    · rename_i d e
      obtain ⟨v, w, rfl, r1, r2⟩ := reps2 rs
      exact ⟨v, w, rfl, q F1 R1 _ H1 Le.refl (((rel1.store (dv := .val d) r1 i)).store (dv := .val e) r2 j)⟩
    · exact q.elim⟩
end
end Hm
set_option Elab.async false
set_option linter.all false
set_option maxRecDepth 100000
set_option maxHeartbeats 2000000
namespace Hm
open PySem PySem.Spec L2

/-! ### written dicts of the module (text keys) -/
structure TabD (G : Gs) (x : Str) (kvs : List (Str × D)) : Prop where
  ex : ∃ a es n, G.mg x = some (.ref a) ∧ KDict G.K G.w a es n ∧ (∀ z d, kvs.lookup z = some d → ∃ u v, PySem.W.nsIn G.K a z = some (some u) ∧ RelV v u ∧ ∀ F R, Rep G.K F R d v) ∧ ∀ z, kvs.lookup z = none → PySem.W.nsIn G.K a z = some none
/-- the value of plain data -/
def vD (K : PySem.W.Frag) : D → Option V
  | .non => some .non
  | .bl b => some (.bl b)
  | .int i => some (.int i)
  | .str s => some (.str s)
  | .ty n => some (.ty n)
  | .obj x => some (.ref (He.ga K x))
  | _ => none
theorem vD_rep {K : PySem.W.Frag} {F : Hp} {R : List Addr} {d : D} {v : V} (h : vD K d = some v) : Rep K F R d v := by
  cases d <;> first | (cases h; constructor) | cases h
/-- what the written dict at a holds (a Bool over the fragment) -/
def tabB (K : PySem.W.Frag) (a : Addr) (kvs : List (Str × D)) : Bool := (match K.lookup a with
  | some ⟨_, _, .dict es _, _⟩ => es.toList.all fun e => match e.key with
    | .str s _ => (kvs.lookup s).isSome
    | _ => false
  | _ => false) && kvs.all fun kv => match PySem.W.nsIn K a kv.1, vD K kv.2 with
    | some (some u), some v => He.relB v u
    | _, _ => false
theorem tab_of {G : Gs} {x : Str} {kvs : List (Str × D)} {a : Addr} (hm : G.mg x = some (.ref a)) (hk : ∃ es n, KDict G.K G.w a es n) (h : tabB G.K a kvs = true) : TabD G x kvs := by
  obtain ⟨es, n, kd⟩ := hk
  unfold tabB at h
  rw [Bool.and_eq_true, kd.at_] at h
  obtain ⟨h1, h2⟩ := h
  refine ⟨a, es, n, hm, kd, fun z d e => ?_, fun z e => ?_⟩
  · have mem : ∃ k, (k, d) ∈ kvs ∧ k = z := by
      clear h1 h2
      induction kvs with
      | nil => cases e
      | cons kv r ih =>
        obtain ⟨k0, d0⟩ := kv
        rw [List.lookup_cons] at e
        cases hz : z == k0 with
        | true => rw [hz] at e; cases e; exact ⟨k0, List.mem_cons_self, (beq_iff_eq.mp hz).symm⟩
        | false =>
          rw [hz] at e
          obtain ⟨k, hm, hk⟩ := ih e
          exact ⟨k, List.mem_cons_of_mem _ hm, hk⟩
    obtain ⟨k, hm, rfl⟩ := mem
    have q := List.all_eq_true.mp h2 _ hm
    dsimp only at q
    split at q
    · rename_i u v e1 e2
      exact ⟨u, v, e1, He.relB_ok q, fun F R => vD_rep e2⟩
    · cases q
  · have nf : es.toList.find? (fun d => d.key.isStr z) = none := by
      rw [List.find?_eq_none]
      intro en hen hs
      have q := List.all_eq_true.mp h1 en hen
      split at q
      · rename_i s t ek
        rw [ek] at hs
        have hz : s = z := by
          have hs' : (s == z) = true := hs
          exact beq_iff_eq.mp hs'
        rw [hz, e] at q
        cases q
      · cases q
    unfold PySem.W.nsIn
    rw [kd.at_]
    dsimp only
    rw [nf]
    dsimp only
    rw [if_neg]
    intro ha
    obtain ⟨en, hen, hr⟩ := List.any_eq_true.mp ha
    have q := List.all_eq_true.mp h1 en hen
    split at q
    · rename_i s t ek
      unfold DictEntry.refKey at hr
      rw [ek] at hr
      cases hr
    · cases q
def tabIx (kvs : List (Str × D)) : F1 := fun d S => match d with
  | .str z => (match kvs.lookup z with
    | some v => fine v S
    | none => .bad)
  | _ => .bad
def tabIn (kvs : List (Str × D)) (neg : Bool) : F1 := fun d S => match d with
  | .str z => fine (.bl (if neg then !(kvs.lookup z).isSome else (kvs.lookup z).isSome)) S
  | _ => .bad
def tabGet (kvs : List (Str × D)) : F1 := fun d S => match d with
  | .str z => fine ((kvs.lookup z).getD .non) S
  | _ => .bad
def tabGet2 (kvs : List (Str × D)) : F2 := fun d e S => match d with
  | .str z => fine ((kvs.lookup z).getD e) S
  | _ => .bad
section
variable {G : Gs} {k : Nat} {N : List Str} {sc : Scope} {x : Str} {kvs : List (Str × D)} {b e : Expr} {mb me : M DV} {pos p apos cpos : Pos}
theorem de_tIx (T : TabD G x kvs) (hb : DE G k N sc b mb) (hg : sc.names.lookup x = some .globalImplicit := by rfl) (hs : PlainIx b := by intro _ _; rfl) (hd : (x == ("__debug__" : Str)) = false := by decide) : DE G k N sc (.Subscript (.Name x p) b pos) (mUn (tabIx kvs) mb) := by
  obtain ⟨a, es, n, hm, kd, h1, h2⟩ := T.ex
  refine ⟨fun X W c tk => pe_imp (pe_ix (r := fun x y H Q => x = .ref a ∧ rIxD X.K X.w x y H Q) (fun v sl pins s σ H x y v' u Q I rx ry h hs => ix_kdict v sl pins s σ H x y v' u Q I rx ry h.2 hs) (pe_glob (v := .ref a) (gl_of c hg) (by rw [c.cmg]; exact hm) rfl hd) (hb.run X W c tk) hs) fun σ H Q h => ?_⟩
  obtain ⟨En, F, R, E, S, rel, h⟩ := h
  refine tD_then rel h fun F1 R1 H1 dv v S1 le rel1 rp q => ?_
  cases ed : dv.frz with
  | str z =>
    rw [ed] at rp q
    cases rp
    change Post _ _ _ _ _ _ _ _ (match kvs.lookup z with | some v => fine v S1 | none => .bad) at q
    cases hl : kvs.lookup z with
    | none => rw [hl] at q; exact q.elim
    | some d =>
      rw [hl] at q
      obtain ⟨u, v, e1, rv, rd⟩ := h1 z d hl
      exact ⟨rfl, a, z, v, rfl, rfl, by rw [c.cK, c.cw]; exact ⟨es, n, u, kd.at_, kd.lit, e1, rv⟩, Post.got q rel1 (rd F1 R1)⟩
  | _ => rw [ed] at q; exact q.elim
theorem tIn_of {σ : L2.St} {H : Hp} {W : WX} {Q : VK} {neg : Bool} {a : Addr} (h1 : ∀ z d, kvs.lookup z = some d → ∃ u v, PySem.W.nsIn G.K a z = some (some u) ∧ RelV v u ∧ ∀ F R, Rep G.K F R d v) (h2 : ∀ z, kvs.lookup z = none → PySem.W.nsIn G.K a z = some none)
    (h : tD G.K (mUn (tabIn kvs neg) mb) W σ H Q) : tD G.K mb W σ H fun y H1 => ∃ (z : Str) (r : Option Value), y = .str z ∧ PySem.W.nsIn G.K a z = some r ∧ Q (.bl (if neg then !r.isSome else r.isSome)) H1 := by
  obtain ⟨En, F, R, E, S, rel, h⟩ := h
  refine tD_then rel h fun F1 R1 H1 dv v S1 le rel1 rp q => ?_
  cases ed : dv.frz with
  | str z =>
    rw [ed] at rp q
    cases rp
    have q := Post.got q rel1 (.bl _)
    cases hl : kvs.lookup z with
    | none => rw [hl] at q; exact ⟨z, none, rfl, h2 z hl, q⟩
    | some d =>
      rw [hl] at q
      obtain ⟨u, _, e1, _⟩ := h1 z d hl
      exact ⟨z, some u, rfl, e1, q⟩
  | _ => rw [ed] at q; exact q.elim
theorem de_tIn (T : TabD G x kvs) (hb : DE G k N sc b mb) (hg : sc.names.lookup x = some .globalImplicit := by rfl) (hd : (x == ("__debug__" : Str)) = false := by decide) (hm' : behindInMarks .In (.Name x p) = false := by rfl) : DE G k N sc (.Compare b [.In] [.Name x p] pos) (mUn (tabIn kvs false) mb) := by
  obtain ⟨a, es, n, hm, kd, h1, h2⟩ := T.ex
  refine ⟨fun X W c tk => pe_imp (pe_cmpR (op_in_kd (by rw [c.cK, c.cw]; exact kd)) (hb.run X W c tk) (pe_glob (v := .ref a) (gl_of c hg) (by rw [c.cmg]; exact hm) rfl hd) hm') fun σ H Q h => ?_⟩
  obtain ⟨En, F, R, E, S, rel, q⟩ := tIn_of h1 h2 h
  refine ⟨En, F, R, E, S, rel, q.imp fun F1 R1 H1 dv S1 le rel1 q v hv => ?_⟩
  obtain ⟨z, r, e1, e2, q⟩ := q v hv
  exact ⟨z, r, e1, rfl, by rw [c.cK]; exact e2, q⟩
theorem de_tNin (T : TabD G x kvs) (hb : DE G k N sc b mb) (hg : sc.names.lookup x = some .globalImplicit := by rfl) (hd : (x == ("__debug__" : Str)) = false := by decide) (hm' : behindInMarks .NotIn (.Name x p) = false := by rfl) : DE G k N sc (.Compare b [.NotIn] [.Name x p] pos) (mUn (tabIn kvs true) mb) := by
  obtain ⟨a, es, n, hm, kd, h1, h2⟩ := T.ex
  refine ⟨fun X W c tk => pe_imp (pe_cmpR (op_notIn_kd (by rw [c.cK, c.cw]; exact kd)) (hb.run X W c tk) (pe_glob (v := .ref a) (gl_of c hg) (by rw [c.cmg]; exact hm) rfl hd) hm') fun σ H Q h => ?_⟩
  obtain ⟨En, F, R, E, S, rel, q⟩ := tIn_of h1 h2 h
  refine ⟨En, F, R, E, S, rel, q.imp fun F1 R1 H1 dv S1 le rel1 q v hv => ?_⟩
  obtain ⟨z, r, e1, e2, q⟩ := q v hv
  exact ⟨z, r, e1, rfl, by rw [c.cK]; exact e2, q⟩
theorem dt_tIn (T : TabD G x kvs) (hb : DE G k N sc b mb) (hg : sc.names.lookup x = some .globalImplicit := by rfl) (hd : (x == ("__debug__" : Str)) = false := by decide) (hm' : behindInMarks .In (.Name x p) = false := by rfl) : DT G k N sc (.Compare b [.In] [.Name x p] pos) (mTst (mUn (tabIn kvs false) mb)) := by
  obtain ⟨a, es, n, hm, kd, h1, h2⟩ := T.ex
  refine ⟨fun X W c tk => pt_imp (pt_cmpR (op_in_kd (by rw [c.cK, c.cw]; exact kd)) (hb.run X W c tk) (pe_glob (v := .ref a) (gl_of c hg) (by rw [c.cmg]; exact hm) rfl hd) hm') fun σ H Q h => ?_⟩
  obtain ⟨En, F, R, E, S, rel, q⟩ := tIn_of h1 h2 (tst_of h)
  refine ⟨En, F, R, E, S, rel, q.imp fun F1 R1 H1 dv S1 le rel1 q v hv => ?_⟩
  obtain ⟨z, r, e1, e2, q⟩ := q v hv
  exact ⟨z, r, e1, rfl, by rw [c.cK]; exact e2, q⟩
theorem dt_tNin (T : TabD G x kvs) (hb : DE G k N sc b mb) (hg : sc.names.lookup x = some .globalImplicit := by rfl) (hd : (x == ("__debug__" : Str)) = false := by decide) (hm' : behindInMarks .NotIn (.Name x p) = false := by rfl) : DT G k N sc (.Compare b [.NotIn] [.Name x p] pos) (mTst (mUn (tabIn kvs true) mb)) := by
  obtain ⟨a, es, n, hm, kd, h1, h2⟩ := T.ex
  refine ⟨fun X W c tk => pt_imp (pt_cmpR (op_notIn_kd (by rw [c.cK, c.cw]; exact kd)) (hb.run X W c tk) (pe_glob (v := .ref a) (gl_of c hg) (by rw [c.cmg]; exact hm) rfl hd) hm') fun σ H Q h => ?_⟩
  obtain ⟨En, F, R, E, S, rel, q⟩ := tIn_of h1 h2 (tst_of h)
  refine ⟨En, F, R, E, S, rel, q.imp fun F1 R1 H1 dv S1 le rel1 q v hv => ?_⟩
  obtain ⟨z, r, e1, e2, q⟩ := q v hv
  exact ⟨z, r, e1, rfl, by rw [c.cK]; exact e2, q⟩
/-- o.get(e), o a written dict -/
theorem de_tGet (T : TabD G x kvs) (he : DE G k N sc e me) (hM : ∀ X : Cx, M1 X (.Name x p) "get" apos e cpos := by intro X; exact ⟨rfl, rfl, rfl, rfl⟩) (hg : sc.names.lookup x = some .globalImplicit := by rfl) (hd : (x == ("__debug__" : Str)) = false := by decide) :
    DE G k N sc (.Call (.Attribute (.Name x p) "get" apos) [e] [] cpos) (mUn (tabGet kvs) me) := by
  obtain ⟨a, es, n, hm, kd, h1, h2⟩ := T.ex
  refine ⟨fun X W c tk => ⟨fun pins s σ H Q I h => ?_⟩⟩
  have m := hM X
  have kd' : KDict X.K X.w a es n := by rw [c.cK, c.cw]; exact kd
  have pg : PE X (.Name x p) (tC (.ref a)) := pe_glob (v := .ref a) (gl_of c hg) (by rw [c.cmg]; exact hm) rfl hd
  refine wpAny_Call_method m.base m.few m.line PySem.F.plainAttrs_dict PySem.F.slot_dict_get PySem.F.type_dict_get (thn (pg.run pins s σ H (fun v H1 => v = .ref a ∧ H1 = H) I ⟨rfl, rfl⟩) fun u s1 ⟨v0, H1, I1, rx, ev, eH⟩ => ?_)
  subst ev
  rw [eH] at I1
  obtain rfl : u = Value.ref a := rx
  have mp := PySem.W.mapOf_K (prog := X.prog) (w := X.w) I1.kIn kd'.at_ kd'.lit
  refine ⟨mp.typeIs, mp.noDict, ?_⟩
  rw [m.trees]
  obtain ⟨En, F, R, E, S, rel, h⟩ := h
  have w : tD G.K me W σ H fun y H1 => ∃ (z : Str) (r : Option Value) (v : V), y = .str z ∧ PySem.W.nsIn G.K a z = some r ∧ RelV v (r.getD .none) ∧ Q v H1 := by
    refine tD_then rel h fun F1 R1 H1 dv v S1 le rel1 rp q => ?_
    cases ed : dv.frz with
    | str z =>
      rw [ed] at rp q
      cases rp
      change Post _ _ _ _ _ _ _ _ (fine ((kvs.lookup z).getD .non) S1) at q
      cases hl : kvs.lookup z with
      | none => rw [hl] at q; exact ⟨z, none, .non, rfl, h2 z hl, rfl, Post.got q rel1 .non⟩
      | some d =>
        rw [hl] at q
        obtain ⟨u, v, e1, rv, rd⟩ := h1 z d hl
        exact ⟨z, some u, v, rfl, e1, rv, Post.got q rel1 (rd F1 R1)⟩
    | _ => rw [ed] at q; exact q.elim
  refine Calls.callWith_builtin rfl (Calls.evalArgs_plain (Calls.spliced_cons (thn ((he.run X W c tk).run pins s1 σ H _ I1 w) fun iv s2 ⟨y, H2, I2, ry, z, r, v, ey, e1, rv, q2⟩ => Calls.spliced_nil ?_)))
  subst ey
  obtain ⟨t, rfl⟩ := ry
  have mp2 := PySem.W.mapOf_K (prog := X.prog) (w := X.w) I2.kIn kd'.at_ kd'.lit
  refine call_meetsIn PySem.F.slot_dict_get mp2.typeIs PySem.F.entry_dict_get (PySem.F.args_dict_get_2 _ _) (meets_dict_get (strKind X.prog X.w) a (strKind_is X.prog X.w z t) kd'.low) ⟨_, mp2, ?_⟩
  rw [PySem.W.find_K kd'.at_ (by rw [c.cK]; exact e1)]
  exact ⟨v, H2, I2.tok _, rv, q2⟩
end

/-! ### f(e, ..), f a local name that holds a def -/
def mCallV (i : Nat) (tbl : Str → Option FD) (n : Nat) (ms : M (List D)) : M DV := fun E S => match E[i]? with
  | some (some (.val (.obj x))) => (match tbl x with
    | some F => mCall F n ms E S
    | none => .bad)
  | _ => .bad
section
variable {G : Gs} {k : Nat} {N : List Str} {sc : Scope} {pos p : Pos} {ms : M (List D)}
theorem de_callV {e : Expr} {es : List Expr} {x : Str} {n j : Nat} {tbl : Str → Option FD} (i : Nat) (hF : ∀ y F, tbl y = some F → ∃ ps, ps.length = n ∧ FOk G j (He.ga G.K y) ps F) (ha : DA G k N sc (e :: es) ms) (hj : j ≤ k := by decide)
    (hN : N[i]? = some x := by rfl) (hv : Vis sc x := by first | exact Or.inl rfl | exact Or.inr (Or.inl rfl) | exact Or.inr (Or.inr rfl)) (hd : (x == ("__debug__" : Str)) = false := by decide) (hcd : (x == ("__classdict__" : Str)) = false := by decide)
    (he : ∀ env, starEach (e :: es) env = (false, eval e env) :: starEach es env := by intro _; rfl) (hpl : ∀ env, (backTo pos (starEach es env)).any (·.1) = false := by intro _; rfl) :
    DE G k N sc (.Call (.Name x p) (e :: es) [] pos) (mCallV i tbl n ms) :=
  ⟨fun X W c tk => ⟨fun pins s σ H Q I h => by
    obtain ⟨En, F0, R, E, S, rel, h⟩ := h
    unfold mCallV at h
    split at h
    · rename_i y ee
      split at h
      · rename_i F hF0
        obtain ⟨ps, hn, ⟨⟨fd, f1, f2⟩, f3⟩⟩ := hF y F hF0
        obtain ⟨v, ev, rv⟩ := rel.slot i _ ee
        cases rv
        refine wpAny_Call_Name_kw (thn ((pe_var (pos := p) (i := i) (by rw [c.cN]; exact hN) (by rw [c.csc]; exact hv) hd hcd).run pins s σ H (fun v H1 => v = .ref (He.ga G.K y) ∧ H1 = H) I ⟨.ref (He.ga G.K y), ev, rfl, rfl⟩) fun u s1 ⟨v, H1, I1, r1, ev, eH⟩ => ?_)
        subst ev
        rw [eH] at I1
        cases r1
        have w : tA G.K ms W σ H fun vs H1 => spD G.K n F vs H1 Q (WE W σ) := by
          refine tA_then rel h fun F1 R1 H1 ds vs S1 le rel1 rs q => ?_
          split at q
          · rename_i hl
            exact sp_call (by rw [← rs.length]; exact hl) rel1 rs q
          · exact q.elim
        refine PySem.W.callWith_K (h₀ := X.base) I.ok.mod.kin (by rw [c.cK]; exact f3) (thn ((ha.run X W c tk).run pos pins s1 σ H _ I1 w) fun us s2 ⟨vs, H2, I2, r, q⟩ => ⟨I2.kIn, ?_⟩) (he _) (hpl _)
        subst hn
        exact run_fnS (ctx_fn c f1) (c.croom.mono hj) (by rw [c.cK]; exact f2) (passAt tk σ) I2 r q
      · exact h.elim
    · exact h.elim⟩⟩
end
end Hm
set_option Elab.async false
set_option linter.all false
set_option maxRecDepth 100000
set_option maxHeartbeats 2000000
namespace Hm
open PySem PySem.Spec L2

/-! ### f(k = e, ..): keywords alone -/
structure DK (G : Gs) (k : Nat) (N : List Str) (sc : Scope) (kws : List Keyword) (m : M (List D)) : Prop where
  run : ∀ (X : Cx) (W : WX), CtxE G k N sc X → Takes X W → PK X kws (tA G.K m W)
theorem pk_imp {X : Cx} {e : List Keyword} {t t' : TA} (h : PK X e t) (k : ∀ σ H Q, t' σ H Q → t σ H Q) : PK X e t' :=
  ⟨fun pos pins s σ H Q I q => h.run pos pins s σ H Q I (k σ H Q q)⟩
structure FOkW (G : Gs) (k : Nat) (f : Addr) (ps : List Str) (F : FD) : Prop where
  ex : ∃ fd, FnOk G.P G.w G.K G.mg G.base (L2.CX G.P G.w) k f fd ps (spD G.K ps.length F) ∧ ∀ (s : Shared) (ws : List Value), G.K.In s.heap → ws.length = ps.length → BindsTo s fd ⟨[], ps.zip ws⟩ (ps.zip ws)
  kp : PySem.W.keepIn G.K (.ref f) = true
section
variable {G : Gs} {k : Nat} {N : List Str} {sc : Scope} {e : Expr} {m : M DV} {ms : M (List D)} {kws : List Keyword} {nm : Option Str} {kpos p pos : Pos} {a : MS}
theorem dk_nil : DK G k N sc [] mNil := ⟨fun X W c tk => pk_imp pk_nil fun σ H Q h => by
  obtain ⟨En, F, R, E, S, rel, h⟩ := h
  exact h F R H Le.refl rel [] .nil⟩
theorem dk_cons (he : DE G k N sc e m) (hr : DK G k N sc kws ms) : DK G k N sc (⟨nm, e, kpos⟩ :: kws) (mCons m ms) :=
  ⟨fun X W c tk => pk_imp (pk_cons (he.run X W c tk) (hr.run X W c tk)) fun σ H Q h => by
    obtain ⟨En, F, R, E, S, rel, h⟩ := h
    refine tD_then rel h fun F1 R1 H1 dv v S1 le rel1 rp h1 => ?_
    refine ⟨En, F1, R1, E, S1, rel1, (post_bnd h1).imp fun F2 R2 H2 ds S2 le2 rel2 q vs rs => ?_⟩
    exact q F2 R2 H2 Le.refl rel2 (v :: vs) (.cons (rp.mono le2 _ _) rs)⟩
theorem fokW {x qual : Str} {params : Arguments} {body : List Stmt} {f : Addr} {fd : FuncData} {ps : List Str} (Fn : FunD G.K x qual params body sc [] [] f fd) (Sc : FnScope N ps sc)
    (hb : ∀ (kV doc pm : Value) (an : Option Addr) (cdv ct : Value) (ws : List Value), ws.length = ps.length → bindArgs (PySem.W.fnOf x qual params body sc .none kV doc pm an cdv ct) ⟨[], ps.zip ws⟩ = pure (ps.zip ws))
    (hbody : DSs G k N sc body a) : FOkW G (k + 1) f ps (runB N.length a) := by
  refine ⟨⟨fd, ?_, fun s ws _ hl => ?_⟩, Fn.kp⟩
  · refine Fn.ok Sc (fun vs H Q E h => h.1) fun cdv A outer s H vs Q E hr h => ?_
    obtain ⟨hn, F, R, S, ds, rel, rs, p⟩ := h
    refine ⟨_, hbody.run _ (fun c d _ H' => E c d H') ⟨⟨rfl, rfl, rfl, rfl, rfl, rfl, rfl, Sc.nd, rfl, hr⟩, rfl, rfl, rfl, fun _ => rfl, passes_of rfl⟩ (takes_of rfl rfl rfl rfl), ?_⟩
    refine ⟨_, F, R, _, S, rel_start rel rs, ?_⟩
    unfold runB at p
    cases q : a (slots0 N.length ds) S with
    | nx E1 S1 => rw [q] at p; exact fun F1 R1 σ1 H1 le r1 => p F1 R1 H1 le r1.drop .non .non
    | rt dv S1 => rw [q] at p; exact fun F1 R1 H1 v le r1 hv => p F1 R1 H1 le r1 v hv
    | bk E1 S1 => rw [q] at p; exact p.elim
    | ct E1 S1 => rw [q] at p; exact p.elim
    | ex c fs E1 S1 => rw [q] at p; exact fun F1 R1 σ1 H1 d vfs le r1 hd rf => p F1 R1 H1 d vfs le r1.drop hd rf
    | bad => rw [q] at p; exact p.elim
  · obtain ⟨oc, od, dV, kV, doc, pm, an, cdv, ct, osl, rfl, lk, hcd, hD, hK⟩ := Fn.ex
    rcases hD with ⟨_, rfl⟩ | ⟨z, _⟩
    · exact .of_eq (hb kV doc pm an cdv ct ws hl)
    · exact absurd rfl z
theorem de_callK {x : Str} {f : Addr} {ps : List Str} {F : FD} {j : Nat} (h : FOkW G j f ps F) (hm : G.mg x = some (.ref f)) (ha : DK G k N sc kws ms) (hj : j ≤ k := by decide) (hg : sc.names.lookup x = some .globalImplicit := by rfl)
    (hdb : (x == ("__debug__" : Str)) = false := by decide) (hall : ∀ env, (backToKw pos (keywordEach kws env)).all (·.1.isSome) = true := by intro _; rfl) (hks : ∀ env, (backToKw pos (keywordEach kws env)).filterMap (·.1) = ps := by intro _; rfl)
    (hpl : ∀ env, ((backTo pos (starEach [] env)).any (·.1) || (backToKw pos (keywordEach kws env)).any (·.1.isNone)) = false := by intro _; rfl) :
    DE G k N sc (.Call (.Name x p) [] kws pos) (mCall F ps.length ms) :=
  ⟨fun X W c tk => by
    obtain ⟨⟨fd, h1, h2⟩, h3⟩ := h
    refine ⟨fun pins s σ H Q I q => ?_⟩
    have w : tA G.K ms W σ H fun vs H1 => spD G.K ps.length F vs H1 Q (WE W σ) := by
      obtain ⟨En, F0, R, E, S, rel, q⟩ := q
      refine tA_then rel q fun F1 R1 H1 ds vs S1 le rel1 rs q => ?_
      split at q
      · rename_i hl
        exact sp_call (by rw [← rs.length]; exact hl) rel1 rs q
      · exact q.elim
    refine wpAny_Call_Name_kw (ld_glob I (gl_of c hg) (by rw [c.cmg]; exact hm) ?_ hdb)
    refine PySem.W.callWith_KW0 (h₀ := X.base) I.ok.mod.kin (by rw [c.cK]; exact h3) (hall _) (thn ((ha.run X W c tk).run pos pins s σ H _ I w) fun ws s2 ⟨zs, H2, I2, rz, q2⟩ => ⟨I2.kIn, ?_⟩) (hpl _)
    rw [hks]
    have hl : ws.length = ps.length := by rw [← rz.length]; exact q2.1
    have F' := ctx_fn c h1
    refine wpAny_call (codeAny_mono (F'.run X.A X.stack s2 H2 ⟨[], ps.zip ws⟩ ws zs Q (WE W σ) (c.croom.mono hj) I2.env0 (h2 s2 ws (by rw [← c.cK]; exact I2.kIn) hl) rz q2) fun r s' hq => ?_)
    cases r with
    | error e => exact (passAt tk σ) pins H2 s2 e s' I2 hq
    | ok fl => cases fl with
      | ret u => exact I2.after hq
      | next => exact False.elim hq
      | brk => exact False.elim hq
      | cont => exact False.elim hq⟩
end
end Hm
set_option Elab.async false
set_option linter.all false
set_option maxRecDepth 100000
set_option maxHeartbeats 4000000
namespace Hm
open PySem PySem.Spec L2

/-! ### zip(a, b, strict=True) -/
abbrev IsZipS (h : Heap) (z TI TO : Addr) (f0 : Value) : Prop :=
  h.get? z = some { cls := .type "zip", dict := none, data := .fields #[f0, .bool false, .bool true, .ref TI, .ref TO], slots := #[] }
section
variable {prog : Program} {w : World} {A : Around} {E : Value → Shared → Prop} {s : Shared} {z TI TO i1 i2 : Addr} {fp1 fp2 : List Addr} {n1 n2 i : Nat} {P1 P2 : Nat → Value → Prop} {St1 St2 : Nat → Heap → Prop} {a1 a2 : Value}
/-- one draw that is there -/
theorem drawS_item {it : Addr} {fp : List Addr} {n : Nat} {P : Nat → Value → Prop} {St : Nat → Heap → Prop} {Q : Option Value → Shared → Prop} (Dr : Draws prog w A it fp n P St) (hi : i < n) (st : St i s.heap)
    (hQ : ∀ x h' tk, P i x → St (i + 1) h' → Heap.SameBut it s.heap h' → Q (some x) { s with heap := h', toks := tk }) : wpAny (model prog w) A (Builtin.SmallTypes.nextOrEnd (.ref it)) Q E s := by
  unfold Builtin.SmallTypes.nextOrEnd
  exact wpAny_bind (wpAny_attempt (Dr.item i s _ _ hi st fun x h' tk p st' sb => wpAny_pure (hQ x h' tk p st' sb)))
/-- one that is not -/
theorem drawS_end {it : Addr} {fp : List Addr} {n : Nat} {P : Nat → Value → Prop} {St : Nat → Heap → Prop} {Q : Option Value → Shared → Prop} (Dr : Draws prog w A it fp n P St) (st : St n s.heap)
    (hQ : ∀ h', Heap.ExtBut it s.heap h' → Q none { s with heap := h' }) : wpAny (model prog w) A (Builtin.SmallTypes.nextOrEnd (.ref it)) Q E s := by
  unfold Builtin.SmallTypes.nextOrEnd
  refine wpAny_bind (wpAny_attempt (Dr.done s _ _ st fun h' e eb he => ?_))
  obtain ⟨o, ho, hc⟩ := he
  exact wpAny_bind (wpAny_isInstance (T := "StopIteration") (b := true) ⟨o, ho, hc⟩ isSubtype_stop (wpAny_pure (hQ h' eb)))
theorem zipS_item {Q : Value → Shared → Prop} (S : ZipSep2 z TI TO i1 i2 fp1 fp2) (D1 : Draws prog w A i1 fp1 n1 P1 St1) (D2 : Draws prog w A i2 fp2 n2 P2 St2)
    (hz : IsZipS s.heap z TI TO .none) (hTI : IsTupOf2 s.heap TI (.ref i1) (.ref i2)) (hTO : IsTupOf2 s.heap TO a1 a2) (st1 : St1 i s.heap) (st2 : St2 i s.heap) (l1 : i < n1) (l2 : i < n2)
    (hQ : ∀ x1 x2 h' tk, P1 i x1 → P2 i x2 → IsZipS h' z TI TO (rawInt s.heap.objs.size) → IsTupOf2 h' TO x1 x2 → St1 (i + 1) h' → St2 (i + 1) h' → IsTupOf2 h' s.heap.objs.size x1 x2 → h'.objs.size = s.heap.objs.size + 1 →
      (∀ c o, c ≠ z → c ≠ TO → c ≠ i1 → c ≠ i2 → s.heap.get? c = some o → h'.get? c = some o) → Q (.ref s.heap.objs.size) { s with heap := h', toks := tk }) :
    wpAny (model prog w) A (Builtin.«zip.__next__» ⟨[.ref z], []⟩) (fun fin s' => ∃ v, fin = .done (.ret v) ∧ Q v s') E s := by
  obtain ⟨hp, g, d, tk0, os⟩ := s
  show wpAny _ _ (field (.ref z) 2 >>= _) _ _ _
  refine wpAny_bind (wpAny_field hz rfl (x := .bool true) rfl ?_)
  show wpAny _ _ (field (.ref z) 3 >>= _) _ _ _
  refine wpAny_bind (wpAny_field hz rfl (x := .ref TI) rfl (wpAny_bind (wpAny_seqItems hTI rfl ?_)))
  show wpAny _ _ (Builtin.SmallTypes.ownedTupleIsFree (.ref z) >>= _) _ _ _
  unfold Builtin.SmallTypes.ownedTupleIsFree
  refine wpAny_bind (wpAny_bind (wpAny_field hz rfl (x := .none) rfl (wpAny_pure ?_)))
  simp only [if_true]
  refine wpAny_bind (wpAny_rule (wpAny_bind (wpAny_field hz rfl (x := .ref TO) rfl (wpAny_bind (wpAny_setField_rec hz (by simp) fun g0 z0 s0 => ?_)))))
  replace z0 : IsZipS g0 z TI TO .ellipsis := z0
  replace s0 : Heap.SameBut z hp g0 := s0
  simp only [List.zipIdx_cons, List.zipIdx_nil, List.forIn_cons, List.forIn_nil]
  refine wpAny_bind (wpAny_bind (wpAny_bind (wpAny_onRaise ?_)))
  show wpAny _ _ (Builtin.SmallTypes.nextOrEnd (.ref i1)) _ _ ⟨g0, g, d, tk0, os⟩
  refine drawS_item D1 l1 (D1.over st1 s0 S.zf1) fun x1 p1 tk1 hx1 sn1 b1 => ?_
  replace b1 : Heap.SameBut i1 g0 p1 := b1
  have u1 : IsTupOf2 p1 TO a1 a2 := b1.extBut _ _ S.Ti1 (s0.extBut _ _ S.TOz hTO)
  refine wpAny_bind (wpAny_seqItems (s := ⟨p1, g, d, tk1, os⟩) u1 rfl ?_)
  refine wpAny_bind (updateSeq_IsTupOf2 (s := ⟨p1, g, d, tk1, os⟩) u1 fun g1 t1 c1 => ?_)
  replace t1 : IsTupOf2 g1 TO x1 a2 := t1
  replace c1 : Heap.SameBut TO p1 g1 := c1
  refine wpAny_bind (wpAny_letGo (wpAny_pure ?_))
  refine wpAny_bind (wpAny_bind (wpAny_onRaise ?_))
  show wpAny _ _ (Builtin.SmallTypes.nextOrEnd (.ref i2)) _ _ ⟨g1, g, d, tk1, os⟩
  refine drawS_item D2 l2 (D2.over (D2.over (D2.over st2 s0 S.zf2) b1 S.sep1_2) c1 S.Tf2) fun x2 p2 tk2 hx2 sn2 b2 => ?_
  replace b2 : Heap.SameBut i2 g1 p2 := b2
  have u2 : IsTupOf2 p2 TO x1 a2 := b2.extBut _ _ S.Ti2 t1
  refine wpAny_bind (wpAny_seqItems (s := ⟨p2, g, d, tk2, os⟩) u2 rfl ?_)
  refine wpAny_bind (updateSeq_IsTupOf2 (s := ⟨p2, g, d, tk2, os⟩) u2 fun g2 t2 c2 => ?_)
  replace t2 : IsTupOf2 g2 TO x1 x2 := t2
  replace c2 : Heap.SameBut TO p2 g2 := c2
  refine wpAny_bind (wpAny_letGo (wpAny_pure (wpAny_pure ?_)))
  refine wpAny_bind (wpAny_seqItems (s := ⟨g2, g, d, tk2, os⟩) t2 rfl ?_)
  refine wpAny_bind (wpAny_newTuple ?_)
  have sz : g2.objs.size = hp.objs.size := by rw [c2.1, b2.1, c1.1, b1.1, s0.1]
  have zz : IsZipS g2 z TI TO .ellipsis := c2.extBut _ _ S.TOz.symm (b2.extBut _ _ S.zi2 (c1.extBut _ _ S.TOz.symm (b1.extBut _ _ S.zi1 z0)))
  have kk : ∀ c o, c ≠ z → c ≠ TO → c ≠ i1 → c ≠ i2 → hp.get? c = some o → g2.get? c = some o := fun c o cz cT q1 q2 e =>
    c2.extBut _ _ cT (b2.extBut _ _ q2 (c1.extBut _ _ cT (b1.extBut _ _ q1 (s0.extBut _ _ cz e))))
  have j1 : St1 (i + 1) g2 := D1.over (D1.over (D1.over sn1 c1 S.Tf1) b2 S.sep2_1) c2 S.Tf1
  have j2 : St2 (i + 1) g2 := D2.over sn2 c2 S.Tf2
  have zl : z < g2.objs.size := Heap.lt_size zz
  show wpAny _ _ (Builtin.SmallTypes.ownedTupleHandOut (.ref z) (.ref g2.objs.size) >>= _) _ _ ⟨g2.push { cls := .type "tuple", data := .seq #[x1, x2] }, g, d, tk2, os⟩
  unfold Builtin.SmallTypes.ownedTupleHandOut
  have z6 : IsZipS (g2.push { cls := .type "tuple", data := .seq #[x1, x2] }) z TI TO .ellipsis := Heap.get?_push_of_some _ zz
  refine wpAny_bind (wpAny_bind (wpAny_setField_rec z6 (by simp) fun h7 z7 s7 => ?_))
  replace z7 : IsZipS h7 z TI TO (rawInt g2.objs.size) := z7
  refine wpAny_setField_rec z7 (by simp) fun h8 z8 s8 => ?_
  replace z8 : IsZipS h8 z TI TO (rawInt g2.objs.size) := z8
  replace s7 : Heap.SameBut z (g2.push { cls := .type "tuple", data := .seq #[x1, x2] }) h7 := s7
  replace s8 : Heap.SameBut z h7 h8 := s8
  have up : ∀ c o, c ≠ z → g2.get? c = some o → h8.get? c = some o := fun c o cz e => s8.extBut _ _ cz (s7.extBut _ _ cz (Heap.get?_push_of_some _ e))
  have t8 : IsTupOf2 h8 g2.objs.size x1 x2 := s8.extBut _ _ (Nat.ne_of_gt zl) (s7.extBut _ _ (Nat.ne_of_gt zl) (Heap.get?_push_size _ rfl))
  have y8 : h8.objs.size = g2.objs.size + 1 := by rw [s8.1, s7.1, Heap.size_push]
  rw [sz] at z8 t8 y8
  refine wpAny_pure ⟨_, rfl, ?_⟩
  show Q (.ref g2.objs.size) ⟨h8, g, d, tk2, os⟩
  rw [sz]
  exact hQ x1 x2 h8 tk2 hx1 hx2 z8 (up _ _ S.TOz t2) (D1.frame _ _ _ j1 fun b hb o e => up b o (fun q => S.zf1 (q ▸ hb)) e) (D2.frame _ _ _ j2 fun b hb o e => up b o (fun q => S.zf2 (q ▸ hb)) e) t8 y8 fun c o cz cT q1 q2 e => up c o cz (kk c o cz cT q1 q2 e)
theorem stopS {Q : Fin → Shared → Prop} (hh : A.handled = none) (hE : ∀ h' e, (∀ c o, s.heap.get? c = some o → h'.get? c = some o) → (∃ o, h'.get? e = some o ∧ o.cls = .type "StopIteration") → E (.ref e) { s with heap := h' }) :
    wpAny (model prog w) A Builtin.SmallTypes.stopIteration Q E s := by
  unfold Builtin.SmallTypes.stopIteration
  refine wpAny_bind ?_
  simp only [newExc, newTuple]
  refine wpAny_bind (wpAny_newObj_type ?_ (by size_fits))
  refine wpAny_bind (m := firstArgMember _ _) (wpAny_of_eq (a := Value.none) (by first | rfl | (simp only [firstArgMember]; rfl)) ?_)
  refine wpAny_newObj_type ?_ (by size_fits)
  simp only [raiseNew]
  refine wpAny_bind (wpAny_handled ?_)
  rw [hh]
  refine wpAny_bind (wpAny_pure (wpAny_throw ?_))
  exact hE _ _ (fun c o e => Heap.get?_push_of_some _ (Heap.get?_push_of_some _ e)) ⟨_, Heap.get?_push_size _ rfl, rfl⟩
theorem zipS_end {Q : Fin → Shared → Prop} (hh : A.handled = none) (S : ZipSep2 z TI TO i1 i2 fp1 fp2) (D1 : Draws prog w A i1 fp1 n1 P1 St1) (D2 : Draws prog w A i2 fp2 n1 P2 St2)
    (hz : IsZipS s.heap z TI TO .none) (hTI : IsTupOf2 s.heap TI (.ref i1) (.ref i2)) (hTO : IsTupOf2 s.heap TO a1 a2) (st1 : St1 n1 s.heap) (st2 : St2 n1 s.heap)
    (hE : ∀ h' tk e, (∀ c o, c ≠ z → c ≠ TO → c ≠ i1 → c ≠ i2 → s.heap.get? c = some o → h'.get? c = some o) → (∃ o, h'.get? e = some o ∧ o.cls = .type "StopIteration") → E (.ref e) { s with heap := h', toks := tk }) :
    wpAny (model prog w) A (Builtin.«zip.__next__» ⟨[.ref z], []⟩) Q E s := by
  obtain ⟨hp, g, d, tk0, os⟩ := s
  show wpAny _ _ (field (.ref z) 2 >>= _) _ _ _
  refine wpAny_bind (wpAny_field hz rfl (x := .bool true) rfl ?_)
  show wpAny _ _ (field (.ref z) 3 >>= _) _ _ _
  refine wpAny_bind (wpAny_field hz rfl (x := .ref TI) rfl (wpAny_bind (wpAny_seqItems hTI rfl ?_)))
  show wpAny _ _ (Builtin.SmallTypes.ownedTupleIsFree (.ref z) >>= _) _ _ _
  unfold Builtin.SmallTypes.ownedTupleIsFree
  refine wpAny_bind (wpAny_bind (wpAny_field hz rfl (x := .none) rfl (wpAny_pure ?_)))
  simp only [if_true]
  refine wpAny_bind (wpAny_rule (wpAny_bind (wpAny_field hz rfl (x := .ref TO) rfl (wpAny_bind (wpAny_setField_rec hz (by simp) fun g0 z0 s0 => ?_)))))
  replace z0 : IsZipS g0 z TI TO .ellipsis := z0
  replace s0 : Heap.SameBut z hp g0 := s0
  simp only [List.zipIdx_cons, List.zipIdx_nil, List.forIn_cons, List.forIn_nil]
  refine wpAny_bind (wpAny_bind (wpAny_bind (wpAny_onRaise ?_)))
  show wpAny _ _ (Builtin.SmallTypes.nextOrEnd (.ref i1)) _ _ ⟨g0, g, d, tk0, os⟩
  refine drawS_end D1 (D1.over st1 s0 S.zf1) fun p1 b1 => ?_
  replace b1 : Heap.ExtBut i1 g0 p1 := b1
  have z1 : IsZipS p1 z TI TO .ellipsis := b1 _ _ S.zi1 z0
  refine wpAny_bind (wpAny_setField_rec (s := ⟨p1, g, d, tk0, os⟩) z1 (by simp) fun g1 z2 s1 => ?_)
  replace s1 : Heap.SameBut z p1 g1 := s1
  have st2' : St2 n1 g1 := D2.frame _ _ _ st2 fun b hb o e => s1.extBut _ _ (fun q => S.zf2 (q ▸ hb)) (b1 _ _ (fun q => S.sep1_2 (q ▸ hb)) (s0.extBut _ _ (fun q => S.zf2 (q ▸ hb)) e))
  refine wpAny_bind (wpAny_bind ?_)
  wp_delta
  simp only [List.drop_succ_cons, List.drop_zero, List.zipIdx_cons, List.zipIdx_nil, List.forIn'_cons, List.forIn'_nil]
  refine wpAny_bind (wpAny_bind (drawS_end (s := ⟨g1, g, d, tk0, os⟩) D2 st2' fun q1 c1 => ?_))
  replace c1 : Heap.ExtBut i2 g1 q1 := c1
  dsimp only [Option.isSome]
  rw [if_neg Bool.false_ne_true]
  refine wpAny_pure (wpAny_pure (wpAny_bind (wpAny_rule ?_)))
  refine stopS hh fun h' e kk he => ?_
  exact hE h' _ e (fun c o cz cT c1' c2' x => kk _ _ (c1 _ _ c2' (s1.extBut _ _ cz (b1 _ _ c1' (s0.extBut _ _ cz x))))) he
theorem pyNext_zipS_item {Q : Option Value → Shared → Prop} (S : ZipSep2 z TI TO i1 i2 fp1 fp2) (D1 : Draws prog w A.in1 i1 fp1 n1 P1 St1) (D2 : Draws prog w A.in1 i2 fp2 n2 P2 St2)
    (hz : IsZipS s.heap z TI TO .none) (hTI : IsTupOf2 s.heap TI (.ref i1) (.ref i2)) (hTO : IsTupOf2 s.heap TO a1 a2) (st1 : St1 i s.heap) (st2 : St2 i s.heap) (l1 : i < n1) (l2 : i < n2)
    (hQ : ∀ x1 x2 h' tk, P1 i x1 → P2 i x2 → IsZipS h' z TI TO (rawInt s.heap.objs.size) → IsTupOf2 h' TO x1 x2 → St1 (i + 1) h' → St2 (i + 1) h' → IsTupOf2 h' s.heap.objs.size x1 x2 → h'.objs.size = s.heap.objs.size + 1 →
      (∀ c o, c ≠ z → c ≠ TO → c ≠ i1 → c ≠ i2 → s.heap.get? c = some o → h'.get? c = some o) → Q (some (.ref s.heap.objs.size)) { s with heap := h', toks := tk }) :
    wpAny (model prog w) A (pyNext (.ref z)) Q E s := by
  have ty : s.TypeIs (.ref z) "zip" := ⟨_, hz, rfl⟩
  unfold pyNext
  refine wpAny_bind (wpAny_attempt (wpAny_callSpecial?_slot (name := Str.ofString "__next__") ty F.slot_zip_next (wpAny_call_entry F.slot_zip_next ty F.entry_zip_next ?_ (F.args_zip_next_1 _))))
  exact zipS_item S D1 D2 hz hTI hTO st1 st2 l1 l2 fun x1 x2 h' tk p1 p2 b1 b2 b3 b4 b5 b6 b7 => wpAny_pure (hQ x1 x2 h' tk p1 p2 b1 b2 b3 b4 b5 b6 b7)
theorem pyNext_zipS_end {Q : Option Value → Shared → Prop} (hh : A.handled = none) (S : ZipSep2 z TI TO i1 i2 fp1 fp2) (D1 : Draws prog w A.in1 i1 fp1 n1 P1 St1) (D2 : Draws prog w A.in1 i2 fp2 n1 P2 St2)
    (hz : IsZipS s.heap z TI TO .none) (hTI : IsTupOf2 s.heap TI (.ref i1) (.ref i2)) (hTO : IsTupOf2 s.heap TO a1 a2) (st1 : St1 n1 s.heap) (st2 : St2 n1 s.heap)
    (hQ : ∀ h' tk, (∀ c o, c ≠ z → c ≠ TO → c ≠ i1 → c ≠ i2 → s.heap.get? c = some o → h'.get? c = some o) → Q none { s with heap := h', toks := tk }) : wpAny (model prog w) A (pyNext (.ref z)) Q E s := by
  have ty : s.TypeIs (.ref z) "zip" := ⟨_, hz, rfl⟩
  unfold pyNext
  refine wpAny_bind (wpAny_attempt (wpAny_callSpecial?_slot (name := Str.ofString "__next__") ty F.slot_zip_next (wpAny_call_entry F.slot_zip_next ty F.entry_zip_next ?_ (F.args_zip_next_1 _))))
  refine zipS_end (A := A.in1) hh S D1 D2 hz hTI hTO st1 st2 fun h' tk e hk he => ?_
  obtain ⟨o, ho, hc⟩ := he
  exact wpAny_bind (wpAny_isInstance (T := "StopIteration") (b := true) ⟨o, ho, hc⟩ isSubtype_stop (wpAny_pure (hQ h' tk hk)))
theorem letGo_zipS {elts : List Expr} {k : Nat} {pos : Pos} {T : Addr} {Q : Unit → Shared → Prop} (hz : IsZipS s.heap z TI TO (rawInt T)) (hQ : ∀ h', IsZipS h' z TI TO .none → Heap.SameBut z s.heap h' → Q () { s with heap := h' }) :
    wpAny (model prog w) A (letOwnedTupleGo (.Tuple elts k pos) (.ref z) (.ref T)) Q E s := by
  unfold letOwnedTupleGo
  refine wpAny_bind (wpAny_load hz ?_)
  dsimp only
  rw [if_pos (by simp)]
  refine wpAny_bind (wpAny_rule ?_)
  exact wpAny_setField_rec hz (by simp) fun h' z' s' => hQ h' z' s'
theorem pyIter_zipS {f0 : Value} {Q : Value → Shared → Prop} (hz : IsZipS s.heap z TI TO f0) (h : Q (.ref z) s) : wpAny (model prog w) A (pyIter (.ref z)) Q E s := by
  have ty : s.TypeIs (.ref z) "zip" := ⟨_, hz, rfl⟩
  refine wpAny_pyIter_slot ty F.slot_zip_iter (wpAny_call_entry F.slot_zip_iter ty F.entry_zip_iter ?_ (F.args_zip_iter_1 _))
  show wpAny _ _ (ret (.ref z)) _ _ s
  exact wpAny_pure ⟨_, rfl, "zip", _, ty, F.slot_zip_next.lookup, h⟩
end
abbrev zsZ (h : Heap) (o1 o2 : Obj) : Heap := (gzO2 h o1 o2).push { cls := .type "zip", data := .fields #[.none, .bool false, .bool true, .ref ((h.push o1).push o2).objs.size, .ref (gzT2 h o1 o2).objs.size] }
theorem typeCall_zipS (a b : Value) : checkTypeCall "zip" ⟨[a, b], [(Str.ofString "strict", .bool true)]⟩ = pure () := by kernel_rfl
theorem newCall_zipS (a b : Value) : checkBuiltinCall "zip.__new__" ⟨[.type "zip", a, b], [(Str.ofString "strict", .bool true)]⟩ = pure () := by kernel_rfl
theorem args_init_zipS (obj a b : Value) : argsOk "object.__init__" ⟨[obj, a, b], [(Str.ofString "strict", .bool true)]⟩ := by unfold argsOk; kernel_rfl
theorem meets_zipS {v1 v2 : Value} {o1 o2 : Obj} {H1 H2 : Heap → Prop} (B1 : Begins v1 o1 H1) (B2 : Begins v2 o2 H2) :
    Meets (Builtin.«zip.__new__» ⟨[.type "zip", v1, v2], [(Str.ofString "strict", .bool true)]⟩) (fun _ R s => (H1 s.heap ∧ H2 s.heap) ∧
      R (.ok (.ret (.ref (gzO2 s.heap o1 o2).objs.size))) { s with heap := zsZ s.heap o1 o2 }) :=
  .of_wp fun prog w A R s h => by
    obtain ⟨hp, g, d, tk, os⟩ := s
    obtain ⟨⟨h1, h2⟩, h⟩ := h
    have hsub := sub_zip
    have e1 : (Str.ofString "strict" == ("strict" : Str)) = true := by decide +kernel
    have e2 : (Str.ofString "strict" != ("strict" : Str)) = false := by decide +kernel
    have q1 : ∀ {A' : Around} {E : Value → Shared → Prop} {Q : Value → Shared → Prop}, Q (.ref hp.objs.size) ⟨hp.push o1, g, d, tk, os⟩ → wpAny (model prog w) A' (pyIter v1) Q E ⟨hp, g, d, tk, os⟩ :=
      fun q => B1.iter prog w _ _ ⟨hp, g, d, tk, os⟩ _ h1 q
    have q2 : ∀ {A' : Around} {E : Value → Shared → Prop} {Q : Value → Shared → Prop}, Q (.ref (hp.push o1).objs.size) ⟨(hp.push o1).push o2, g, d, tk, os⟩ → wpAny (model prog w) A' (pyIter v2) Q E ⟨hp.push o1, g, d, tk, os⟩ :=
      fun q => B2.iter prog w _ _ ⟨hp.push o1, g, d, tk, os⟩ _ (B2.keeps _ _ h2 fun b o' e => Heap.get?_push_of_some _ e) q
    wp_walk using q1, q2
    exact ⟨_, rfl, h⟩
section
variable {prog : Program} {w : World} {A : Around} {E : Value → Shared → Prop} {s : Shared}
/-- its five new things -/
theorem zipS_begins {v1 v2 : Value} {o1 o2 : Obj} {H1 H2 : Heap → Prop} {Q : Value → Shared → Prop} (B1 : Begins v1 o1 H1) (B2 : Begins v2 o2 H2) (h1 : H1 s.heap) (h2 : H2 s.heap)
    (h : ∀ h', IsZipS h' (s.heap.objs.size + 4) (s.heap.objs.size + 2) (s.heap.objs.size + 3) .none → IsTupOf2 h' (s.heap.objs.size + 2) (.ref s.heap.objs.size) (.ref (s.heap.objs.size + 1)) →
      IsTupOf2 h' (s.heap.objs.size + 3) .none .none → h'.get? s.heap.objs.size = some o1 → h'.get? (s.heap.objs.size + 1) = some o2 → h'.objs.size = s.heap.objs.size + 5 →
      (∀ c o, s.heap.get? c = some o → h'.get? c = some o) → Q (.ref (s.heap.objs.size + 4)) { s with heap := h' }) :
    wpAny (model prog w) A (call (.type "zip") [v1, v2] [(Str.ofString "strict", .bool true)]) Q E s := by
  refine callType_newKw F.called_zip (by decide) (typeCall_zipS _ _) (newCall_zipS _ _) (fun obj => args_init_zipS obj _ _) F.entry_zip_new (meets_zipS B1 B2) ⟨⟨h1, h2⟩, ?_⟩
  have m1 : (s.heap.push o1).objs.size = s.heap.objs.size + 1 := Heap.size_push ..
  have m2 : ((s.heap.push o1).push o2).objs.size = s.heap.objs.size + 2 := by rw [Heap.size_push, m1]
  have m3 : (gzT2 s.heap o1 o2).objs.size = s.heap.objs.size + 3 := by rw [Heap.size_push, m2]
  have m4 : (gzO2 s.heap o1 o2).objs.size = s.heap.objs.size + 4 := by rw [Heap.size_push, m3]
  have m5 : (zsZ s.heap o1 o2).objs.size = s.heap.objs.size + 5 := by rw [Heap.size_push, m4]
  have y5 : (zsZ s.heap o1 o2).get? (gzO2 s.heap o1 o2).objs.size = some _ := Heap.get?_push_size _ rfl
  have y4 : (zsZ s.heap o1 o2).get? (gzT2 s.heap o1 o2).objs.size = some _ := Heap.get?_push_of_some _ (Heap.get?_push_size _ rfl)
  have y3 : (zsZ s.heap o1 o2).get? ((s.heap.push o1).push o2).objs.size = some _ := Heap.get?_push_of_some _ (Heap.get?_push_of_some _ (Heap.get?_push_size _ rfl))
  have y2 : (zsZ s.heap o1 o2).get? (s.heap.push o1).objs.size = some o2 := Heap.get?_push_of_some _ (Heap.get?_push_of_some _ (Heap.get?_push_of_some _ (Heap.get?_push_size _ B2.free)))
  have y1 : (zsZ s.heap o1 o2).get? s.heap.objs.size = some o1 := Heap.get?_push_of_some _ (Heap.get?_push_of_some _ (Heap.get?_push_of_some _ (Heap.get?_push_of_some _ (Heap.get?_push_size _ B1.free))))
  rw [m4, m3, m2] at y5
  rw [m3] at y4
  rw [m2, m1] at y3
  rw [m1] at y2
  show _ ∧ _
  rw [m4]
  exact ⟨⟨_, y5, rfl⟩, h _ y5 y3 y4 y1 y2 m5 fun c o e => Heap.get?_push_of_some _ (Heap.get?_push_of_some _ (Heap.get?_push_of_some _ (Heap.get?_push_of_some _ (Heap.get?_push_of_some _ e))))⟩
end

/-! ### what a strict zip goes through -/
/-- a source: its iterator at it, what it holds told by gd, its footprint fp -/
structure Src (prog : Program) (w : World) (K : PySem.W.Frag) (it : Addr) (fp : List Addr) (gd : Hp → List V → Prop) (tn : Nat → Heap → Prop) : Prop where
  mem : it ∈ fp
  there : ∀ i h, tn i h → ∃ o, h.get? it = some o ∧ ∀ v, o.data ≠ .cell v
  keep : ∀ i h h', tn i h → (∀ o, h.get? it = some o → h'.get? it = some o) → tn i h'
  inj : ∀ (X : Cx) (pins : List (Addr × Obj)) (s : Shared) (σ : L2.St) (H : Hp) (xs ys : List V), X.K = K → Inv X pins σ H s → gd H xs → gd H ys → xs = ys
  draws : ∀ (X : Cx) (pins : List (Addr × Obj)) (s : Shared) (σ : L2.St) (H : Hp) (xs : List V), X.prog = prog → X.w = w → X.K = K → X.A.handled = none → Inv X pins σ H s → gd H xs →
    ∃ (P : Nat → Value → Prop) (St : Nat → Heap → Prop), Draws prog w X.A.in1 it fp xs.length P St ∧ (∀ i v, P i v → ∃ x, xs[i]? = some x ∧ RelV x v) ∧ (∀ i, tn i s.heap → St i s.heap) ∧ ∀ i h, St i h → tn i h
def ItS (g1 g2 : Hp → List V → Prop) : It :=
  ⟨fun i H => ∃ xs ys, g1 H xs ∧ g2 H ys ∧ i < xs.length ∧ i < ys.length, fun i H v H' => ∃ T x y, v = .ref T ∧ H T = none ∧ H' = upd H T (.tup [x, y]) ∧ (∀ xs, g1 H xs → xs[i]? = some x) ∧ ∀ ys, g2 H ys → ys[i]? = some y,
    fun i H => ∃ xs ys, g1 H xs ∧ g2 H ys ∧ i = xs.length ∧ i = ys.length⟩
theorem src_text {prog : Program} {w : World} {K : PySem.W.Frag} {it : Addr} {x : Str} {t : Tok} : Src prog w K it [it] (fun _ xs => xs = x.cps.toList.map fun c => .str ⟨#[c]⟩) (fun i h => h.IsStrIter it (strIterType x) x t i) where
  mem := List.mem_singleton.mpr rfl
  there := fun i h st => by
    obtain ⟨o, e, c, d⟩ := st
    exact ⟨o, e, fun v z => by rw [d] at z; cases z⟩
  keep := fun i h h' st k => by
    obtain ⟨o, e, c, d⟩ := st
    exact ⟨o, k o e, c, d⟩
  inj := fun X pins s σ H xs ys _ _ h1 h2 => by rw [h1, h2]
  draws := fun X pins s σ H xs _ _ _ hh I hx => by
    subst hx
    have hl : (x.cps.toList.map fun c => V.str ⟨#[c]⟩).length = x.cps.size := by rw [List.length_map]; simp
    rw [hl]
    refine ⟨_, _, Draws.text (A := X.A.in1) hh it x t, fun i v hp => ?_, fun i st => st, fun i h st => st⟩
    obtain ⟨c, tk, e, rfl⟩ := hp
    exact ⟨.str ⟨#[c]⟩, by rw [List.getElem?_map, Array.getElem?_toList, e]; rfl, ⟨tk, rfl⟩⟩
theorem src_list {prog : Program} {w : World} {K : PySem.W.Frag} {it a : Addr} (ne : a ≠ it) : Src prog w K it [it, a] (fun H xs => SqL K H a xs) (fun i h => h.IsListIter it a i) where
  mem := List.mem_cons_self
  there := fun i h st => by
    obtain ⟨o, e, c, d⟩ := st
    exact ⟨o, e, fun v z => by rw [d] at z; cases z⟩
  keep := fun i h h' st k => st.at fun o e => k o e
  inj := fun X pins s σ H xs ys hK I h1 h2 => by subst hK; exact I.list_inj h1 h2
  draws := fun X pins s σ H xs _ _ hK hh I hx => by
    subst hK
    obtain ⟨its, rv, p, hz⟩ := I.list hx
    have hl : xs.length = its.toArray.size := by rw [List.size_toArray]; exact rv.length
    rw [hl]
    refine ⟨_, _, Draws.list (A := X.A.in1) hh it a ne its.toArray, fun i v hp => ?_, fun i st => ⟨st, p.isList⟩, fun i h st => st.1⟩
    have hp' : its[i]? = some v := by simpa using hp
    have hi : i < xs.length := by rw [rv.length]; exact (List.getElem?_eq_some_iff.mp hp').1
    obtain ⟨u, hu, ru⟩ := rv.get (List.getElem?_eq_getElem hi)
    rw [hp'] at hu
    cases hu
    exact ⟨xs[i], List.getElem?_eq_getElem hi, ru⟩
theorem src_tup {prog : Program} {w : World} {K : PySem.W.Frag} {it a : Addr} (ne : a ≠ it) : Src prog w K it [it, a] (fun H xs => SqT K H a xs) (fun i h => h.IsTupleIter it a i) where
  mem := List.mem_cons_self
  there := fun i h st => by
    obtain ⟨o, e, c, d⟩ := st
    exact ⟨o, e, fun v z => by rw [d] at z; cases z⟩
  keep := fun i h h' st k => st.at fun o e => k o e
  inj := fun X pins s σ H xs ys hK I h1 h2 => by subst hK; exact I.tuple_inj h1 h2
  draws := fun X pins s σ H xs _ _ hK hh I hx => by
    subst hK
    obtain ⟨its, rv, p, hz⟩ := I.tuple hx
    have hl : xs.length = its.toArray.size := by rw [List.size_toArray]; exact rv.length
    rw [hl]
    refine ⟨_, _, Draws.tuple (A := X.A.in1) hh it a ne its.toArray, fun i v hp => ?_, fun i st => ⟨st, (show s.heap.IsTuple a its.toArray from p)⟩, fun i h st => st.1⟩
    have hp' : its[i]? = some v := by simpa using hp
    have hi : i < xs.length := by rw [rv.length]; exact (List.getElem?_eq_some_iff.mp hp').1
    obtain ⟨u, hu, ru⟩ := rv.get (List.getElem?_eq_getElem hi)
    rw [hp'] at hu
    cases hu
    exact ⟨xs[i], List.getElem?_eq_getElem hi, ru⟩
end Hm
set_option Elab.async false
set_option linter.all false
set_option maxRecDepth 100000
set_option maxHeartbeats 2000000
namespace Hm
open PySem PySem.Spec L2

theorem turn_zipS {P : Program} {w : World} {K : PySem.W.Frag} {elts : List Expr} {kk : Nat} {tpos : Pos} {z TI TO i1 i2 : Addr} {fp1 fp2 : List Addr} {g1 g2 : Hp → List V → Prop} {tn1 tn2 : Nat → Heap → Prop}
    (S : ZipSep2 z TI TO i1 i2 fp1 fp2) (A1 : Src P w K i1 fp1 g1 tn1) (A2 : Src P w K i2 fp2 g2 tn2) :
    Turn P w K (.Tuple elts kk tpos) (ItS g1 g2) [z, TI, TO, i1, i2] z (fun i h => IsZipS h z TI TO .none ∧ IsTupOf2 h TI (.ref i1) (.ref i2) ∧ (∃ a b, IsTupOf2 h TO a b) ∧ tn1 i h ∧ tn2 i h) where
  mem := List.mem_cons_self
  obj := fun i h st b hb => by
    obtain ⟨hz, hTI, ⟨a, c, hTO⟩, s1, s2⟩ := st
    have e : b = z ∨ b = TI ∨ b = TO ∨ b = i1 ∨ b = i2 := by simpa using hb
    rcases e with rfl | rfl | rfl | rfl | rfl
    · exact ⟨_, hz, fun v q => nomatch q⟩
    · exact ⟨_, hTI, fun v q => nomatch q⟩
    · exact ⟨_, hTO, fun v q => nomatch q⟩
    · exact A1.there i h s1
    · exact A2.there i h s2
  keep := fun i h h' st k => by
    obtain ⟨hz, hTI, ⟨a, c, hTO⟩, s1, s2⟩ := st
    exact ⟨k z (by simp) _ hz, k TI (by simp) _ hTI, ⟨a, c, k TO (by simp) _ hTO⟩, A1.keep i h h' s1 fun o e => k i1 (by simp) o e, A2.keep i h h' s2 fun o e => k i2 (by simp) o e⟩
  item := by
    intro X hP hw hK hc i pins s σ H E I hf st hg
    subst hP hw hK
    obtain ⟨hz, hTI, ⟨a, c, hTO⟩, s1, s2⟩ := st
    obtain ⟨xs, ys, q1, q2, l1, l2⟩ := hg
    obtain ⟨P1, St1, D1, v1, u1, d1⟩ := A1.draws X pins s σ H xs rfl rfl rfl (I.ok.hd hc) I q1
    obtain ⟨P2, St2, D2, v2, u2, d2⟩ := A2.draws X pins s σ H ys rfl rfl rfl (I.ok.hd hc) I q2
    refine pyNext_zipS_item S D1 D2 hz hTI hTO (u1 i s1) (u2 i s2) l1 l2 fun x1 x2 h' tk p1 p2 z' t' n1 n2 new sz kp => ?_
    refine ⟨_, rfl, letGo_zipS (s := { s with heap := h', toks := tk }) z' fun h2 z2 sb => ?_⟩
    obtain ⟨x, ex, rx⟩ := v1 i x1 p1
    obtain ⟨y, ey, ry⟩ := v2 i x2 p2
    have zl : z < s.heap.objs.size := Heap.lt_size hz
    have T2 : h2.get? s.heap.objs.size = some { cls := .type "tuple", data := .seq #[x1, x2] } := (sb.2 _ (Nat.ne_of_gt zl)).trans new
    have ob : ObjOk X.prog X.w (upd H s.heap.objs.size (.tup [x, y])) h2 s.heap.objs.size (.tup [x, y]) :=
      ⟨by show 2 ≤ sizeLine; decide, [x1, x2], .cons rx (.cons ry .nil), ⟨_, T2, rfl, _, rfl⟩⟩
    have lt : ∀ b ∈ [z, TI, TO, i1, i2], b < s.heap.objs.size := fun b hb => by
      have e : b = z ∨ b = TI ∨ b = TO ∨ b = i1 ∨ b = i2 := by simpa using hb
      rcases e with rfl | rfl | rfl | rfl | rfl
      · exact zl
      · exact Heap.lt_size hTI
      · exact Heap.lt_size hTO
      · obtain ⟨_, e, _⟩ := A1.there i _ s1; exact Heap.lt_size e
      · obtain ⟨_, e, _⟩ := A2.there i _ s2; exact Heap.lt_size e
    have I1 : Inv X pins σ (upd H s.heap.objs.size (.tup [x, y])) { s with heap := h2, toks := tk } :=
      I.turnedNew (ch := [z, TI, TO, i1, i2]) (fun b o hb e => (sb.2 b (fun q => hb (by simp [q]))).trans (kp b o (fun q => hb (by simp [q])) (fun q => hb (by simp [q])) (fun q => hb (by simp [q])) (fun q => hb (by simp [q])) e)) hf (Nat.le_refl _) ob
    refine ⟨.ref s.heap.objs.size, _, I1, rfl, ⟨_, x, y, rfl, I.hok.fresh (Nat.le_refl _), rfl, fun zs hz' => ?_, fun zs hz' => ?_⟩, ⟨z2, ?_, ⟨x1, x2, ?_⟩, ?_, ?_⟩, fun b hb => ?_⟩
    · rw [A1.inj X pins s σ H zs xs rfl I hz' q1]; exact ex
    · rw [A2.inj X pins s σ H zs ys rfl I hz' q2]; exact ey
    · exact (sb.2 _ S.TIz).trans (kp _ _ S.TIz S.TITO S.TIi1 S.TIi2 hTI)
    · exact (sb.2 _ S.TOz).trans t'
    · exact A1.keep _ _ _ (d1 _ _ n1) fun o e => (sb.2 _ S.zi1.symm).trans e
    · exact A2.keep _ _ _ (d2 _ _ n2) fun o e => (sb.2 _ S.zi2.symm).trans e
    · rw [upd_ne (Nat.ne_of_lt (lt b hb))]
      exact (hf b hb).1
  done := by
    intro X hP hw hK hc i pins s σ H E I hf st hg
    subst hP hw hK
    obtain ⟨hz, hTI, ⟨a, c, hTO⟩, s1, s2⟩ := st
    obtain ⟨xs, ys, q1, q2, rfl, l2⟩ := hg
    obtain ⟨P1, St1, D1, v1, u1, d1⟩ := A1.draws X pins s σ H xs rfl rfl rfl (I.ok.hd hc) I q1
    obtain ⟨P2, St2, D2, v2, u2, d2⟩ := A2.draws X pins s σ H ys rfl rfl rfl (I.ok.hd hc) I q2
    rw [← l2] at D2
    exact pyNext_zipS_end (I.ok.hd hc) S D1 D2 hz hTI hTO (u1 _ s1) (u2 _ s2) fun h' tk hk => ⟨rfl, I.turnedL (t' := tk) (ch := [z, TI, TO, i1, i2]) (fun b o hb q =>
      hk b o (fun q' => hb (by simp [q'])) (fun q' => hb (by simp [q'])) (fun q' => hb (by simp [q'])) (fun q' => hb (by simp [q'])) q) hf⟩
  self := fun A i s Q E st h => pyIter_zipS st.1 h

/-! ### .. in a walk -/
/-- a source's data -/
def srcD (S : Store) (d : D) : Option (List D) := match d with
  | .lst ds => some ds
  | .scr ds => some ds
  | .tup ds => some ds
  | .str z => some (signs z)
  | _ => none
theorem zsep {n : Nat} {fp1 fp2 : List Nat} (f1 : ∀ b ∈ fp1, b = n ∨ b < n) (m1 : n ∈ fp1) (f2 : ∀ b ∈ fp2, b = n + 1 ∨ b < n) (m2 : n + 1 ∈ fp2) : ZipSep2 (n + 4) (n + 2) (n + 3) n (n + 1) fp1 fp2 := by
  have a1 : ∀ k, n < k → k ∉ fp1 := fun k hk h => by rcases f1 _ h with e | e <;> omega
  have a2 : ∀ k, n + 1 < k → k ∉ fp2 := fun k hk h => by rcases f2 _ h with e | e <;> omega
  have a3 : n ∉ fp2 := fun h => by rcases f2 _ h with e | e <;> omega
  have ne : ∀ {a b : Nat}, a < b → a ≠ b := fun h => Nat.ne_of_lt h
  exact ⟨ne (by omega), ne (by omega), ne (by omega), (ne (by omega)).symm, m1, a1 _ (by omega), a1 _ (by omega), (ne (by omega)).symm, m2, a2 _ (by omega), a2 _ (by omega), a3, a1 _ (by omega)⟩
theorem callWith_tyKw {M : Model} {A : Around} {E : Value → Shared → Prop} {s : Shared} {env : Env} {pos : Pos} {T : String} {e : Expr} {rest : List Expr} {kws : List Keyword} {Q : Value → Shared → Prop}
    (h : wpAny M A (spliced (backTo pos (starEach (e :: rest) env))) (fun vs s1 => wpAny M A (evalAll ((backToKw pos (keywordEach kws env)).map (·.2)))
      (fun ks s2 => wpAny M A (call (.type T) vs (((backToKw pos (keywordEach kws env)).filterMap (·.1)).zip ks)) Q E s2) E s1) E s)
    (he : starEach (e :: rest) env = (false, eval e env) :: starEach rest env) (hp : (backTo pos (starEach (e :: rest) env)).any (·.1) = false) (hall : (backToKw pos (keywordEach kws env)).all (·.1.isSome) = true) (hkw : (backToKw pos (keywordEach kws env)).any (·.1.isNone) = false) :
    wpAny M A (callWith pos (.type T) [] (backTo pos (starEach (e :: rest) env)) (backToKw pos (keywordEach kws env))) Q E s := by
  unfold callWith
  refine wpAny_bind (wpAny_holding (PyProof.Rows.evalArgs_kw2 hall (thn h fun vs s1 h1 => thn h1 fun ks s2 h2 => ?_) he))
  refine wpAny_bind (wpAny_standAt ?_)
  simp only [hp, hkw, Bool.or_false]
  exact wpAny_bind (wpAny_pure (wpAny_bind (thn h2 fun r s3 hr => wpAny_bind (wpAny_holding (wpAny_point (wpAny_pure hr))))))
section
variable {K : PySem.W.Frag} {En : Ent} {F : Hp} {R : List Addr} {E : Ev} {S : Store} {σ : L2.St} {H : Hp} {ds es : List D} {vs us : List V}
theorem signs_reps : ∀ (l : List Nat), Reps K F R (l.map fun c => D.str ⟨#[c]⟩) (l.map fun c => V.str ⟨#[c]⟩)
  | [] => .nil
  | c :: l => .cons (.str _) (signs_reps l)
theorem src_at {X : Cx} {pins : List (Addr × Obj)} {s : Shared} (rel : Rel K En F R E S σ H) (I : Inv X pins σ H s) (hK : X.K = K) {d : D} {v : V} {u : Value} (rp : Rep K F R d v) (ru : RelV v u) (e : srcD S d = some ds) :
    ∃ (gd : Hp → List V → Prop) (vs : List V), Reps K F R ds vs ∧ (∀ (En : Ent) (F2 : Hp) (R2 : List Addr) (E : Ev) (S : Store) (σ : L2.St) (H : Hp), Le F R F2 R2 → Rel K En F2 R2 E S σ H → gd H vs) ∧
      ∀ it, s.heap.objs.size ≤ it → ∃ (o : Obj) (Hh : Heap → Prop) (fp : List Addr) (tn : Nat → Heap → Prop), Begins u o Hh ∧ Hh s.heap ∧ Src X.prog X.w K it fp gd tn ∧ (∀ b ∈ fp, b = it ∨ b < s.heap.objs.size) ∧ ∀ h : Heap, h.get? it = some o → tn 0 h := by
  subst hK
  cases d with
  | lst xs =>
    cases e
    cases rp with
    | lst h1 h2 =>
      rename_i a vs
      cases ru
      have sq : SqL X.K H a vs := .of (rel.frz _ _ h1)
      obtain ⟨its, rv, p, hz⟩ := I.list sq
      refine ⟨fun H xs => SqL X.K H a xs, vs, h2, fun En F2 R2 E S σ H le r => sq_of (.of h1) le r, fun it hi => ?_⟩
      have lt : a < s.heap.objs.size := p.lt
      exact ⟨_, _, _, _, begins_list a its.toArray, p.isList, src_list (Nat.ne_of_lt (Nat.lt_of_lt_of_le lt hi)), fun b hb => by
        rcases List.mem_cons.mp hb with q | q
        · exact .inl q
        · exact .inr (by rw [List.mem_singleton.mp q]; exact lt), fun h hh => ⟨_, hh, rfl, rfl⟩⟩
  | scr xs =>
    cases e
    cases rp with
    | scr h1 h2 =>
      rename_i a vs
      cases ru
      have sq : SqL X.K H a vs := sqL_same rel.frz h1
      obtain ⟨its, rv, p, hz⟩ := I.list sq
      refine ⟨fun H xs => SqL X.K H a xs, vs, h2, fun En F2 R2 E S σ H le r => sq_of h1 le r, fun it hi => ?_⟩
      have lt : a < s.heap.objs.size := p.lt
      exact ⟨_, _, _, _, begins_list a its.toArray, p.isList, src_list (Nat.ne_of_lt (Nat.lt_of_lt_of_le lt hi)), fun b hb => by
        rcases List.mem_cons.mp hb with q | q
        · exact .inl q
        · exact .inr (by rw [List.mem_singleton.mp q]; exact lt), fun h hh => ⟨_, hh, rfl, rfl⟩⟩
  | tup xs =>
    cases e
    cases rp with
    | tup h1 h2 =>
      rename_i a vs
      cases ru
      have sq : SqT X.K H a vs := sqT_same rel.frz h1
      obtain ⟨its, rv, p, hz⟩ := I.tuple sq
      obtain ⟨o0, ho0, _⟩ := id p
      refine ⟨fun H xs => SqT X.K H a xs, vs, h2, fun En F2 R2 E S σ H le r => sqt_of h1 le r, fun it hi => ?_⟩
      have lt : a < s.heap.objs.size := Heap.lt_size ho0
      exact ⟨_, _, _, _, begins_tuple a its.toArray, (show s.heap.IsTuple a its.toArray from p), src_tup (Nat.ne_of_lt (Nat.lt_of_lt_of_le lt hi)), fun b hb => by
        rcases List.mem_cons.mp hb with q | q
        · exact .inl q
        · exact .inr (by rw [List.mem_singleton.mp q]; exact lt), fun h hh => ⟨_, hh, rfl, rfl⟩⟩
  | str z =>
    cases e
    cases rp
    obtain ⟨t, rfl⟩ := ru
    refine ⟨fun _ xs => xs = z.cps.toList.map fun c => .str ⟨#[c]⟩, _, signs_reps z.cps.toList, fun _ _ _ _ _ _ _ _ _ => rfl, fun it hi => ?_⟩
    exact ⟨_, _, _, _, begins_text z t, trivial, src_text, fun b hb => .inl (List.mem_singleton.mp hb), fun h hh => ⟨_, hh, rfl, rfl⟩⟩
  | _ => cases e
theorem wd_zipS {g1 g2 : Hp → List V → Prop} (h1 : ∀ (En : Ent) (F2 : Hp) (R2 : List Addr) (E : Ev) (S : Store) (σ : L2.St) (H : Hp), Le F R F2 R2 → Rel K En F2 R2 E S σ H → g1 H vs) (h2 : ∀ (En : Ent) (F2 : Hp) (R2 : List Addr) (E : Ev) (S : Store) (σ : L2.St) (H : Hp), Le F R F2 R2 → Rel K En F2 R2 E S σ H → g2 H us)
    (rs : Reps K F R ds vs) (qs : Reps K F R es us) (hl : ds.length = es.length) : WalkD K F R (ItS g1 g2) ⟨zipL ds es, none⟩ := by
  have hn : (zipL ds es).length = ds.length := by rw [zipL_length, ← hl, Nat.min_self]
  have l1 := rs.length
  have l2 := qs.length
  refine wd_pair (n := ds.length) (xs := fun i => vs[i]?) (ys := fun i => us[i]?) (G := fun H => g1 H vs ∧ g2 H us) ⟨fun i H hi q => ⟨vs, us, q.1, q.2, by omega, by omega⟩, fun H q => ⟨vs, us, q.1, q.2, l1, by omega⟩, fun i H x H' hi q y => ?_⟩ hn.symm (fun En F2 R2 E S σ H le r => ⟨h1 En F2 R2 E S σ H le r, h2 En F2 R2 E S σ H le r⟩) fun i x y e1 e2 => ?_
  · obtain ⟨T, x1, y1, rfl, hT, rfl, e1, e2⟩ := y
    exact ⟨T, x1, y1, rfl, hT, rfl, e1 vs q.1, e2 us q.2⟩
  · obtain ⟨d, e3, r1⟩ := rs.get e1
    obtain ⟨e, e4, r2⟩ := qs.get e2
    exact ⟨d, e, zipL_get ds es i d e e3 e4, r1, r2⟩
end
def mZs (ms : M (List D)) : M Wk := bnd ms fun ds _ S => match ds with
  | [a, b] => (match srcD S a, srcD S b with
    | some xs, some ys => if xs.length = ys.length then .ok ⟨zipL xs ys, none⟩ S else .bad
    | _, _ => .bad)
  | _ => .bad
section
variable {G : Gs} {k : Nat} {N : List Str} {sc : Scope} {a b : Expr} {ms : M (List D)} {p pos tpos kp cp : Pos} {elts : List Expr} {kk j : Nat}
theorem di_zipS (hm : G.mg "zip" = none) (ha : DA G k N sc [a, b] ms) (hg : sc.names.lookup ("zip" : Str) = some .globalImplicit := by rfl)
    (hs : ∀ env, starEach [a, b] env = (false, eval a env) :: starEach [b] env := by intro _; rfl) (hp : ∀ env, (backTo pos (starEach [a, b] env)).any (·.1) = false := by intro _; rfl)
    (hall : ∀ env, (backToKw pos (keywordEach [⟨some "strict", .Constant (.bool true) j cp, kp⟩] env)).all (·.1.isSome) = true := by intro _; rfl) (hkw : ∀ env, (backToKw pos (keywordEach [⟨some "strict", .Constant (.bool true) j cp, kp⟩] env)).any (·.1.isNone) = false := by intro _; rfl)
    (hks : ∀ env, (backToKw pos (keywordEach [⟨some "strict", .Constant (.bool true) j cp, kp⟩] env)).filterMap (·.1) = [Str.ofString "strict"] := by intro _; rfl)
    (hev : ∀ env, eval (.Call (.Name "zip" p) [a, b] [⟨some "strict", .Constant (.bool true) j cp, kp⟩] pos) env = (do callWith pos (← eval (.Name "zip" p) env) [] (backTo pos (starEach [a, b] env)) (backToKw pos (keywordEach [⟨some "strict", .Constant (.bool true) j cp, kp⟩] env))) := by intro _; rfl) :
    DI G k N sc (.Tuple elts kk tpos) (.Call (.Name "zip" p) [a, b] [⟨some "strict", .Constant (.bool true) j cp, kp⟩] pos) (mZs ms) :=
  ⟨fun X W c tk => ⟨fun pins s σ H Q I h => by
    obtain ⟨En, F, R, E, S, rel, h⟩ := h
    rw [hev]
    refine wpAny_bind (ld_blt I (gl_of c hg) (by rw [c.cmg]; exact hm) PyProof.Rows.boot_zip ?_)
    have kw : PK X [⟨some "strict", .Constant (.bool true) j cp, kp⟩] (tCons (tC (.bl true)) tNil) := pk_cons pe_bl pk_nil
    let Wi : List V → Hp → Prop := fun vs H1 => ∃ F1 R1 S1 d e xs ys v w, vs = [v, w] ∧ Rel G.K En F1 R1 E S1 σ H1 ∧ Rep G.K F1 R1 d v ∧ Rep G.K F1 R1 e w ∧ srcD S1 d = some xs ∧ srcD S1 e = some ys ∧ xs.length = ys.length ∧ Wis G.K En E σ Q F1 R1 ⟨zipL xs ys, none⟩ S1
    have w : tA G.K ms W σ H Wi := by
      refine tA_then rel h fun F1 R1 H1 ds vs S1 le rel1 rs q => ?_
      split at q
      · rename_i d e
        obtain ⟨v, w, rfl, r1, r2⟩ := reps2 rs
        split at q
        · rename_i xs ys e1 e2
          split at q
          · rename_i hl
            exact ⟨F1, R1, S1, d, e, xs, ys, v, w, rfl, rel1, r1, r2, e1, e2, hl, q F1 R1 H1 Le.refl rel1⟩
          · exact q.elim
        · exact q.elim
      · exact q.elim
    refine callWith_tyKw (thn ((ha.run X W c tk).run pos pins s σ H _ I w) fun us s1 ⟨vs, H1, I1, rvs, q1⟩ => thn (kw.run pos pins s1 σ H1 (fun zs H2 => zs = [.bl true] ∧ Wi vs H2) I1 ⟨rfl, q1⟩) fun ws s2 ⟨zs, H2, I2, rz, ez, q2⟩ => ?_) (hs _) (hp _) (hall _) (hkw _)
    subst ez
    rw [hks]
    obtain ⟨F1, R1, S1, d, e, xs, ys, v, w', rfl, rel1, r1, r2, e1, e2, hl, wi⟩ := q2
    cases rz with
    | cons rb rz =>
      cases rz
      cases rb
      cases rvs with
      | cons ra rvs => cases rvs with
        | cons rb rvs =>
          cases rvs
          obtain ⟨g1, vs1, q1, h1, b1⟩ := src_at rel1 I2 c.cK r1 ra e1
          obtain ⟨g2, vs2, q2, h2, b2⟩ := src_at rel1 I2 c.cK r2 rb e2
          obtain ⟨o1, Hh1, fp1, tn1, B1, y1, A1, f1, z1⟩ := b1 s2.heap.objs.size (Nat.le_refl _)
          obtain ⟨o2, Hh2, fp2, tn2, B2, y2, A2, f2, z2⟩ := b2 (s2.heap.objs.size + 1) (Nat.le_succ _)
          refine zipS_begins B1 B2 y1 y2 fun h' hz hTI hTO g1' g2' sz kp => pyIter_zipS hz ?_
          have I3 : Inv X pins σ H2 { s2 with heap := h' } := I2.kept (t' := s2.toks) kp
          refine ⟨s2.heap.objs.size + 4, [s2.heap.objs.size + 4, s2.heap.objs.size + 2, s2.heap.objs.size + 3, s2.heap.objs.size, s2.heap.objs.size + 1], _, ItS g1 g2, H2, rfl, I3, turn_zipS (zsep f1 A1.mem f2 A2.mem) (by rw [c.cK]; exact A1) (by rw [c.cK]; exact A2), ⟨hz, hTI, ⟨_, _, hTO⟩, z1 _ g1', z2 _ g2'⟩, fun b hb => ?_, wi.2 F1 H2 _ Le.refl rel1 (wd_zipS h1 h2 q1 q2 hl)⟩
          have hle : s2.heap.objs.size ≤ b := by
            have e' : b = s2.heap.objs.size + 4 ∨ b = s2.heap.objs.size + 2 ∨ b = s2.heap.objs.size + 3 ∨ b = s2.heap.objs.size ∨ b = s2.heap.objs.size + 1 := by simpa using hb
            rcases e' with z | z | z | z | z <;> rw [z] <;> first | exact Nat.le_refl _ | exact Nat.le_add_right _ _
          exact I2.fpOk hle (I2.hok.fresh hle)⟩⟩
end
end Hm
set_option Elab.async false
set_option linter.all false
set_option maxRecDepth 100000
set_option maxHeartbeats 2000000
namespace Hm
open PySem PySem.Spec L2

section
variable {G : Gs} {k : Nat} {N : List Str} {sc : Scope} {pos p : Pos} {e : Expr} {es : List Expr} {m : M DV} {ms : M (List D)}
theorem de_globE {x : Str} {d : D} {v : V} (h : ∃ u, G.mg x = some u ∧ RelV v u) (hr : ∀ F R, Rep G.K F R d v := by intro _ _; constructor) (hg : sc.names.lookup x = some .globalImplicit := by rfl) (hd : (x == ("__debug__" : Str)) = false := by decide) : DE G k N sc (.Name x pos) (mK d) := by
  obtain ⟨u, h1, h2⟩ := h
  exact de_glob h1 hr h2 hg hd
theorem de_bty {x : Str} {T : String} (h : G.mg x = none) (hv : bootBuiltins x = some (.type T) := by rfl) (hg : sc.names.lookup x = some .globalImplicit := by rfl) (hn : x ≠ "__name__" := by decide) (hd : (x == ("__debug__" : Str)) = false := by decide) : DE G k N sc (.Name x pos) (mK (.ty T)) :=
  ⟨fun X W c tk => pe_imp (pe_bltn (v := .ty T) (gl_of c hg) (by rw [c.cmg]; exact h) hv rfl hn hd) fun _ _ _ h => tC_of (fun _ _ => .ty T) h⟩

/-! isinstance of plain kinds -/
def isiTab (T n : String) : Option Bool :=
  if T ∈ ["NoneType", "bool", "int", "str", "tuple", "list", "dict"] ∧ n ∈ ["bool", "int", "str", "tuple", "list", "dict"] then some (T == n || (T == "bool" && n == "int")) else none
theorem isi_ok (K : PySem.W.Frag) {T n : String} {b : Bool} (h : isiTab T n = some b) : tyIs K T n = some b := by
  unfold isiTab at h
  split at h
  · rename_i hc
    cases h
    obtain ⟨h1, h2⟩ := hc
    simp only [List.mem_cons, List.not_mem_nil, or_false] at h1 h2
    rcases h1 with rfl | rfl | rfl | rfl | rfl | rfl | rfl <;> rcases h2 with rfl | rfl | rfl | rfl | rfl | rfl <;> kernel_rfl
  · cases h
def isiT : FD := fun ds S => match ds with
  | [d, .ty n] => (match (kindS S d).bind fun T => isiTab T n with
    | some b => fine (.bl b) S
    | none => .bad)
  | _ => .bad
theorem snd_isiT {K : PySem.W.Frag} : SndL K isiT (rIsi K) := fun En F R E S σ H W Q ds vs rel rs p => by
  refine snd_isi En F R E S σ H W Q ds vs rel rs ?_
  unfold isiT at p
  unfold isiD
  split at p
  · rename_i d n
    try dsimp only
    split at p
    · rename_i b hb
      obtain ⟨T, e1, e2⟩ := Option.bind_eq_some_iff.mp hb
      have e3 : ((kindS S d).bind fun T => tyIs K T n) = some b := Option.bind_eq_some_iff.mpr ⟨T, e1, isi_ok K e2⟩
      rw [e3]
      exact p
    · exact p.elim
  · exact p.elim
theorem de_isi {x : Str} (hm : G.mg x = none) (ha : DA G k N sc (e :: es) ms) (hv : bootBuiltins x = some (.builtin "isinstance") := by rfl) (hg : sc.names.lookup x = some .globalImplicit := by rfl) (hn : x ≠ "__name__" := by decide) (hdb : (x == ("__debug__" : Str)) = false := by decide)
    (he : ∀ env, starEach (e :: es) env = (false, eval e env) :: starEach es env := by intro _; rfl) (hpl : ∀ env, (backTo pos (starEach es env)).any (·.1) = false := by intro _; rfl) : DE G k N sc (.Call (.Name x p) (e :: es) [] pos) (mF isiT ms) :=
  de_cB (fun X c => c.cK ▸ call_isi) snd_isiT hm ha hv hg hn hdb he hpl

/-! a starred target -/
theorem pgs_consS {X : Cx} {tgt : Expr} {e : Expr} {es : List Expr} {t : TG} {u : TGs} (h1 : PG X e t) (h2 : PGs X es u) (hs : (assignEach (tgt :: es) X.env).map (·.2) = assign e X.env :: (assignEach es X.env).map (·.2)) : PGs X (tgt :: es) (gCons t u) :=
  ⟨fun pins s σ H vs us Q I r h => by
    obtain ⟨v, vr, ev, h⟩ := h
    subst ev
    rw [hs]
    cases r with
    | cons r rr => exact PyProof.Rows.assignInOrder_cons (thn (h1.run pins s σ H _ _ _ I r h) fun _ s1 ⟨σ1, H1, I1, q1⟩ => h2.run pins s1 σ1 H1 _ _ Q I1 rr q1)⟩
theorem tgs_of {G : Gs} {own ys : List (Str × Nat)} {g : MG} {gs : MGs} {vs : List V} {σ : L2.St} {H : Hp} {Q : L2.St → Hp → Prop} (h : tGs G.K (own ++ ys) (gConsM g gs) vs σ H Q) : gCons (tG G.K own g) (tGs G.K ys gs) vs σ H Q := by
  obtain ⟨En, F, R, E, S, ds, rel, rs, h⟩ := h
  cases rs with
  | nil => exact h.elim
  | cons r rs =>
    rename_i d v ds vs
    refine ⟨_, _, rfl, En, F, R, E, S, d, rel, r, ?_⟩
    change GoG _ _ _ _ _ _ _ _ (match g d E S with | some E1 => gs ds E1 S | none => none) at h
    cases e1 : g d E S with
    | none => rw [e1] at h; exact h.elim
    | some E1 =>
      rw [e1] at h
      dsimp only at h
      refine fun F1 R1 σ1 H1 le r1 sm => ⟨En, F1, R1, E1, S, ds, r1, rs.mono le _ _, ?_⟩
      cases e2 : gs ds E1 S with
      | none => rw [e2] at h; exact h.elim
      | some E2 =>
        rw [e2] at h
        exact fun F2 R2 σ2 H2 l r s => h F2 R2 σ2 H2 (le.trans l) r (sm.app s)
theorem dgs_star {own ys : List (Str × Nat)} {g : MG} {gs : MGs} {p2 : Pos} (h1 : DG G k N sc e own g) (h2 : DGs G k N sc es ys gs) (hs : ∀ env, (assignEach (.Starred e p2 :: es) env).map (·.2) = assign e env :: (assignEach es env).map (·.2) := by intro _; rfl) : DGs G k N sc (.Starred e p2 :: es) (own ++ ys) (gConsM g gs) :=
  ⟨fun X c st => pgs_imp (pgs_consS (h1.run X c st.left) (h2.run X c st.right) (hs _)) fun v σ H Q h => tgs_of h⟩
/-- a comprehension into a name that a block captures -/
theorem ds_setC {x : Str} {spos px : Pos} {elt : Expr} {gs : List Comprehension} {scope : Scope} (i : Nat) (he : DE G k N sc (.ListComp elt gs scope pos) m) (hN : N[i]? = some x := by rfl) (hx : sc.names.lookup x = some .cell := by rfl) : DS G k N sc (.Assign [.Name x px] (.ListComp elt gs scope pos) spos) (setS i m) :=
  ⟨fun X W c tk => ps_imp (ps_set (i := i) (by rw [c.e.cN]; exact c.e.cnd) (by rw [c.e.cN]; exact hN) (by rw [c.e.csc]; exact .inr hx) (he.run X W c.e tk) (by
      have e := c.e.csc
      have kx : X.env.kindOf x = some .cell := by subst e; exact hx
      unfold swapsWith
      simp only [kx]
      have z : ((some NameKind.cell : Option NameKind) == some NameKind.local) = false := by decide
      rw [z, Bool.and_false, Bool.false_and, Bool.false_and]) (.inl (c.cfn x))) fun D σ H h => by
    obtain ⟨En, F, R, E, S, rel, h⟩ := h
    exact withE_then rel h fun F1 R1 H1 dv v S1 le rel1 hv q => q F1 R1 _ H1 Le.refl (rel1.store hv i)⟩
end

/-! a, b = x, y -/
theorem swap2 {sc : Scope} {x y : Str} {px py pt pt2 : Pos} {kt k2 : Nat} {a b : Expr} (hk : sc.kind = .function) (hx : sc.names.lookup x = some .local) (hy : sc.names.lookup y = some .local) (hl : (px.line == px.line) = true := by decide) (hl2 : (py.line == px.line) = true := by decide) (hne : (x == y) = false := by decide)
    (hs : ([a, b].any fun | .Starred .. => true | _ => false) = false := by rfl) (hf : [a, b].all (foldedForSure 8) = false := by rfl) (hc : [a, b].all (constantsAlone 8) = false := by rfl) :
    ∀ env : Env, env.scope = sc → swappedStores [.Tuple [.Name x px, .Name y py] kt pt] (.Tuple [a, b] k2 pt2) env = pure (some [x, y]) := fun env he => by
  subst he
  have hb : env.blockKind = .function := by unfold Env.blockKind; rw [hk]; rfl
  have kx : env.kindOf x = some .local := hx
  have ky : env.kindOf y = some .local := hy
  unfold swappedStores
  simp only [hb, hs, hf, hc]
  have e0 : (Option.map (fun e : Expr => e.pos.line) [Expr.Name x px, Expr.Name y py].head?).getD 0 = px.line := rfl
  have e1 : ((env.kindOf x == some NameKind.local) && (px.line == px.line)) = true := by rw [kx, hl]; rfl
  have e2 : ((env.kindOf y == some NameKind.local) && (py.line == px.line)) = true := by rw [ky, hl2]; rfl
  have e3 : ([x, y] : List Str).eraseDups = [x, y] := by
    have h : (y == x) = false := by
      cases q : y == x with
      | false => rfl
      | true =>
        have z := beq_iff_eq.mp q
        rw [z, beq_self_eq_true] at hne
        cases hne
    simp [List.eraseDups_cons, h]
  simp only [e0, List.filterMap_cons, List.filterMap_nil, e1, e2, if_true, e3]
  refine (if_neg (by simp)).trans ((if_neg (ne_true_of_eq_false hs)).trans ?_)
  rfl
end Hm
set_option Elab.async false
set_option linter.all false
set_option maxRecDepth 100000
set_option maxHeartbeats 2000000
namespace Hm
open PySem PySem.Spec L2

/-! ### the head's hook: the layer's facts and tables' contents -/
abbrev AlX : Type := He.AlT × List Bool
def obsX (fa : List He.Fa) (fn : List He.DefD) (ts : List He.Tab) (bs : List (PySem.W.Frag → Bool)) (K : PySem.W.Frag) : AlX := (He.obsT fa fn ts K, bs.map fun b => b K)
def valX (fn : List He.DefD) (ts : List He.Tab) (bs : List (PySem.W.Frag → Bool)) (w : World) : AlX := (He.valT fn ts w, bs.map fun _ => true)
def obsXG (n : Nat) (fa : List He.Fa) (fn : List He.DefD) (ts : List He.Tab) (bs : List (PySem.W.Frag → Bool)) (g : Addr → Option Obj) : AlX := obsX fa fn ts bs (He.frG g (He.asD g n))
structure SaysX (fa : List He.Fa) (fn : List He.DefD) (ts : List He.Tab) (bs : List (PySem.W.Frag → Bool)) (w : World) (K : PySem.W.Frag) : Prop where
  mk ::
  eq : obsX fa fn ts bs K = valX fn ts bs w
def hookX (n : Nat) (fa : List He.Fa) (fn : List He.DefD) (ts : List He.Tab) (bs : List (PySem.W.Frag → Bool)) : PySem.W.Hook where
  α := AlX
  obs := fun s => obsXG n fa fn ts bs s.heap.get?
  val := fun w => valX fn ts bs w
  says := fun w h => ∃ K : PySem.W.Frag, K.In h ∧ SaysX fa fn ts bs w K
  of := fun _ _ e => ⟨_, He.frG_in, ⟨e⟩⟩
  keeps := fun _ _ _ ⟨K, hK, c⟩ k => ⟨K, PySem.W.Frag.In.keeps hK k, c⟩
theorem obsXG_eq {n : Nat} {fa : List He.Fa} {fn : List He.DefD} {ts : List He.Tab} {bs : List (PySem.W.Frag → Bool)} {g : Addr → Option Obj} {s : Shared} (h : ∀ a, g a = s.heap.get? a) : obsXG n fa fn ts bs g = (hookX n fa fn ts bs).obs s := by
  have e : g = s.heap.get? := funext h
  rw [e] <;> rfl
section
variable {fa : List He.Fa} {fn : List He.DefD} {ts : List He.Tab} {bs : List (PySem.W.Frag → Bool)} {w : World} {K : PySem.W.Frag}
theorem SaysX.one (c : SaysX fa fn ts bs w K) : He.SaysT fa fn ts w K := congrArg (fun z : AlX => z.1) c.eq
theorem SaysX.bool (c : SaysX fa fn ts bs w K) (i : Nat) {b : PySem.W.Frag → Bool} (h : bs[i]? = some b) : b K = true := by
  have e : bs.map (fun b => b K) = bs.map fun _ => true := congrArg (fun z : AlX => z.2) c.eq
  have e2 : (bs.map fun b => b K)[i]? = (bs.map fun _ => true)[i]? := by rw [e]
  rw [List.getElem?_map, List.getElem?_map, h] at e2
  exact Option.some.inj e2
end

/-! ### the end: the law's promise -/
theorem fokFn {G : Gs} {k : Nat} {N : List Str} {sc : Scope} {a : MS} {x qual : Str} {params : Arguments} {body : List Stmt} {f : Addr} {fd : FuncData} {ps : List Str} (Fn : FunD G.K x qual params body sc [] [] f fd) (Sc : FnScope N ps sc) (hbody : DSs G k N sc body a) :
    FnOk G.P G.w G.K G.mg G.base (L2.CX G.P G.w) (k + 1) f fd ps (spD G.K ps.length (runB N.length a)) := by
  refine Fn.ok Sc (fun vs H Q E h => h.1) fun cdv A outer s H vs Q E hr h => ?_
  obtain ⟨hn, F, R, S, ds, rel, rs, p⟩ := h
  refine ⟨_, hbody.run _ (fun c d _ H' => E c d H') ⟨⟨rfl, rfl, rfl, rfl, rfl, rfl, rfl, Sc.nd, rfl, hr⟩, rfl, rfl, rfl, fun _ => rfl, passes_of rfl⟩ (takes_of rfl rfl rfl rfl), ?_⟩
  refine ⟨_, F, R, _, S, rel_start rel rs, ?_⟩
  unfold runB at p
  cases q : a (slots0 N.length ds) S with
  | nx E1 S1 => rw [q] at p; exact fun F1 R1 σ1 H1 le r1 => p F1 R1 H1 le r1.drop .non .non
  | rt dv S1 => rw [q] at p; exact fun F1 R1 H1 v le r1 hv => p F1 R1 H1 le r1 v hv
  | bk E1 S1 => rw [q] at p; exact p.elim
  | ct E1 S1 => rw [q] at p; exact p.elim
  | ex c fs E1 S1 => rw [q] at p; exact fun F1 R1 σ1 H1 d vfs le r1 hd rf => p F1 R1 H1 d vfs le r1.drop hd rf
  | bad => rw [q] at p; exact p.elim
theorem sp_law {K : PySem.W.Frag} {f : FD} {ns : List Int} {H : Hp} {a : Addr} (hS : SqL K H a (ns.map V.int)) (h : ∃ S, f [.scr (ns.map .int)] [] = .ok (.val (.bl true)) S) : spD K 1 f [.ref a] H (fun v _ => v = .bl true) fun _ _ _ => False := by
  obtain ⟨S, h⟩ := h
  refine ⟨rfl, H, [], [], [.scr (ns.map .int)], ⟨rfl, fun _ _ h => h, List.nodup_nil, fun k c a e => by simp at e, fun i dv e => by simp at e, fun i j x y a e => by simp at e, fun _ _ h _ _ => h, fun _ _ _ h => h, fun _ _ _ h => h, rfl⟩, .cons (.scr hS ints_reps) .nil, ?_⟩
  rw [h]
  intro F' R' H' le rel v hv
  cases hv
  rfl
theorem walkX {l : PySem.W.OpenLaw} {n k : Nat} {q : Program} {loose : List Str} {XP : (Str → Option Value) → Heap → Prop} {YP : World → Heap → Prop} {d : DefRec} {x : Str}
    (hn : l.most = some n) (hn2 : n ≤ sizeLine) (hdf : d.params.defaults = []) (hr : Room k callerA)
    (F : ∀ (w : World) (mg : Str → Option Value) (fa : Addr) (h : Heap), YP w h → h.Ns mainGlobals mg → mg d.name = some (.ref fa) →
      ∃ (K : PySem.W.Frag) (fd : FuncData), K.In h ∧ (∀ (s : Shared) (u : Value), BindsTo s fd ⟨[u], []⟩ [(x, u)]) ∧ ∃ f : FD, (∀ ns : List Int, ns.length ≤ n → ∃ S, f [.scr (ns.map .int)] [] = .ok (.val (.bl true)) S) ∧
        ∀ base : Heap, K.In base → base.Ns mainGlobals mg → FnOk l.prog w K mg base (L2.CX l.prog w) k fa fd [x] (spD K 1 f)) :
    PySem.W.WalkO q loose XP YP l.row.toRowW d [] (fun f vs => PySem.call f vs) := by
  refine Att.attach_call hn hdf fun w s₀ s₁ mg mb fa o pm cd doc a vs ns G Y ho hd hcd hmg hobj hints hlen hg => ?_
  obtain ⟨K, fd, KX, hb, f, hf, hF⟩ := F w mg fa _ Y G.T.g hmg
  exact law_call KX G.T.g G.T.b G.T.builtins G.T.nolimit hg hobj hints (Nat.le_trans hlen hn2) hr hF hb (fun H hO hS => sp_law hS (hf ns hlen)) fun H e s' z => by
    obtain ⟨_, _, _, _, _, _, _, _, _, _, _, _, z⟩ := z
    exact z
end Hm
set_option Elab.async false
set_option linter.all false
set_option maxRecDepth 100000
set_option maxHeartbeats 2000000
namespace Hm
open PySem PySem.Spec L2

/-! ### loops and comprehensions, plainly -/
theorem chk_none {α : Type} {ds : List D} {S : Store} {z r : α} : chk ⟨ds, none⟩ S z r = r := rfl
theorem compL_fun {g : MG} {t : M Bool} {e : M DV} {w E0} {S : Store} (f : D → D) : ∀ {ds acc : List D}, (∀ d ∈ ds, ∃ E1 x, g d E0 S = some E1 ∧ t E1 S = .ok true S ∧ e E1 S = .ok x S ∧ x.frz = f d) → acc.length + ds.length ≤ sizeLine → compL g t e ⟨w, none⟩ E0 ds acc S = .ok (acc ++ ds.map f) S
  | [], acc, _, _ => by unfold compL; rw [chk_none, List.map_nil, List.append_nil]
  | d :: ds, acc, h, hz => by
    obtain ⟨E1, x, h1, h2, h3, h4⟩ := h d List.mem_cons_self
    rw [List.length_cons] at hz
    unfold compL
    rw [chk_none, h1]
    dsimp only
    rw [h2]
    dsimp only
    rw [h3]
    dsimp only
    rw [if_pos (by omega), compL_fun f (fun d hd => h d (List.mem_cons_of_mem _ hd)) (by rw [List.length_append, List.length_singleton]; omega), h4, List.map_cons, List.append_assoc]
    rfl
/-- with a test -/
theorem compL_filter {g : MG} {t : M Bool} {e : M DV} {w E0} {S : Store} (p : D → Bool) (f : D → D) : ∀ {ds acc : List D}, (∀ d ∈ ds, ∃ E1 x, g d E0 S = some E1 ∧ t E1 S = .ok (p d) S ∧ (p d = true → e E1 S = .ok x S ∧ x.frz = f d)) → acc.length + ds.length ≤ sizeLine → compL g t e ⟨w, none⟩ E0 ds acc S = .ok (acc ++ (ds.filter p).map f) S
  | [], acc, _, _ => by unfold compL; rw [chk_none]; simp
  | d :: ds, acc, h, hz => by
    obtain ⟨E1, x, h1, h2, h3⟩ := h d List.mem_cons_self
    rw [List.length_cons] at hz
    unfold compL
    rw [chk_none, h1]
    dsimp only
    rw [h2]
    cases hp : p d with
    | false =>
      dsimp only
      rw [compL_filter p f (fun d hd => h d (List.mem_cons_of_mem _ hd)) (by omega), List.filter_cons_of_neg (by rw [hp]; decide)]
    | true =>
      dsimp only
      obtain ⟨h4, h5⟩ := h3 hp
      rw [h4]
      dsimp only
      rw [if_pos (by omega), compL_filter p f (fun d hd => h d (List.mem_cons_of_mem _ hd)) (by rw [List.length_append, List.length_singleton]; omega), h5, List.filter_cons_of_pos hp, List.map_cons, List.append_assoc]
      rfl
theorem compL_inv {g : MG} {t : M Bool} {e : M DV} {w E0} (P : Store → Prop) (Q : D → Prop) : ∀ {ds acc : List D} {S : Store}, (∀ d ∈ ds, ∀ S, P S → ∃ E1 x S2, g d E0 S = some E1 ∧ t E1 S = .ok true S ∧ e E1 S = .ok x S2 ∧ P S2 ∧ Q x.frz) → acc.length + ds.length ≤ sizeLine → P S →
    ∃ rs S2, compL g t e ⟨w, none⟩ E0 ds acc S = .ok (acc ++ rs) S2 ∧ P S2 ∧ rs.length = ds.length ∧ ∀ r ∈ rs, Q r
  | [], acc, S, _, _, hP => ⟨[], S, by unfold compL; rw [chk_none, List.append_nil], hP, rfl, fun r hr => by cases hr⟩
  | d :: ds, acc, S, h, hz, hP => by
    obtain ⟨E1, x, S1, h1, h2, h3, h4, h5⟩ := h d List.mem_cons_self S hP
    rw [List.length_cons] at hz
    obtain ⟨rs, S2, r1, r2, r3, r4⟩ := compL_inv P Q (g := g) (t := t) (e := e) (w := w) (E0 := E0) (ds := ds) (acc := acc ++ [x.frz]) (S := S1) (fun d hd => h d (List.mem_cons_of_mem _ hd)) (by rw [List.length_append, List.length_singleton]; omega) h4
    refine ⟨x.frz :: rs, S2, ?_, r2, by rw [List.length_cons, r3, List.length_cons], fun r hr => ?_⟩
    · unfold compL
      rw [chk_none, h1]
      dsimp only
      rw [h2]
      dsimp only
      rw [h3]
      dsimp only
      rw [if_pos (by omega), r1, List.append_assoc]
      rfl
    · rcases List.mem_cons.mp hr with q | q
      · rw [q]; exact h5
      · exact r4 r q
theorem mLc_of {mi : M Wk} {g : MG} {t : M Bool} {e : M DV} {own : List (Str × Nat)} {E : Ev} {S S1 S2 : Store} {w : Wk} {ds : List D} (h1 : mi E S = .ok w S1) (h2 : compL g t e w (innerE own E) w.ds [] S1 = .ok ds S2) : mLc mi g t e own E S = .ok (.ol ds) S2 := by
  unfold mLc bnd
  rw [h1]
  dsimp only
  rw [h2]
/-- a loop that goes through: I by the turn -/
theorem loopS_inv {g : MG} {b : MS} {w} (I : Nat → Ev → Store → Prop) : ∀ {ds : List D} {i : Nat} {E : Ev} {S : Store}, (∀ j d, ds[j]? = some d → ∀ E S, I (i + j) E S → ∃ E1 E2 S2, g d E S = some E1 ∧ (b E1 S = .nx E2 S2 ∨ b E1 S = .ct E2 S2) ∧ I (i + j + 1) E2 S2) → I i E S →
    ∃ E2 S2, loopS g b ⟨w, none⟩ ds E S = .nx E2 S2 ∧ I (i + ds.length) E2 S2
  | [], i, E, S, _, h => ⟨E, S, by unfold loopS; rw [chk_none], h⟩
  | d :: ds, i, E, S, hs, h => by
    obtain ⟨E1, E2, S2, h1, h2, h3⟩ := hs 0 d rfl E S h
    obtain ⟨E3, S3, h4, h5⟩ := loopS_inv I (g := g) (b := b) (w := w) (ds := ds) (i := i + 1) (E := E2) (S := S2) (fun j d' hj E S q => by
      have z := hs (j + 1) d' hj E S (by rw [show i + (j + 1) = i + 1 + j by omega]; exact q)
      rw [show i + (j + 1) + 1 = i + 1 + j + 1 by omega] at z
      exact z) h3
    refine ⟨E3, S3, ?_, by rw [List.length_cons, show i + (ds.length + 1) = i + 1 + ds.length by omega]; exact h5⟩
    unfold loopS
    rw [chk_none, h1]
    dsimp only
    rcases h2 with h2 | h2
    · rw [h2]; exact h4
    · rw [h2]; exact h4
theorem forS_of {mi : M Wk} {g : MG} {b : MS} {E : Ev} {S S1 : Store} {w : Wk} {r : RS} (h1 : mi E S = .ok w S1) (h2 : loopS g b w w.ds E S1 = r) : forS mi g b E S = r := by
  unfold forS withE
  rw [h1]
  exact h2
theorem seqS_nx {a b : MS} {E E1 : Ev} {S S1 : Store} (h : a E S = .nx E1 S1) : seqS a b E S = b E1 S1 := by
  unfold seqS
  rw [h]
theorem seqS_rt {a b : MS} {E : Ev} {S S1 : Store} {dv : DV} (h : a E S = .rt dv S1) : seqS a b E S = .rt dv S1 := by
  unfold seqS
  rw [h]
theorem bnd_ok {α β : Type} {m : M α} {f : α → M β} {E : Ev} {S S1 : Store} {a : α} (h : m E S = .ok a S1) : bnd m f E S = f a E S1 := by
  unfold bnd
  rw [h]
theorem ifS_t {t : M Bool} {a b : MS} {E : Ev} {S S1 : Store} (h : t E S = .ok true S1) : ifS t a b E S = a E S1 := by
  unfold ifS withE
  rw [h]
  rfl
theorem ifS_f {t : M Bool} {a b : MS} {E : Ev} {S S1 : Store} (h : t E S = .ok false S1) : ifS t a b E S = b E S1 := by
  unfold ifS withE
  rw [h]
  rfl
theorem eqD_int {i j : Int} {S : Store} : eqD (.int i) (.int j) S = fine (.bl (decide (i = j))) S := by
  show fine (.bl (PyData.eqv (.int i) (.int j))) S = _
  have e : PyData.eqv (.int i) (.int j) = decide (i = j) := by
    simp only [PyData.eqv]
    rfl
  rw [e]
section
variable {E : Ev} {S S1 S2 : Store} {n i j : Int} {m a b : M DV}
theorem var_ok {k : Nat} {d : D} (h : E[k]? = some (some (.val d))) : mVar k E S = .ok (.val d) S := by
  unfold mVar
  rw [h]
theorem bin_ok {f : F2} {x y : DV} {r : Res DV} (h1 : a E S = .ok x S1) (h2 : b E S1 = .ok y S2) (h3 : f x.frz y.frz S2 = r) : mBin f a b E S = r := by
  unfold mBin
  rw [bnd_ok h1, bnd_ok h2]
  exact h3
theorem tst_ok {k : Bool} (h : m E S = .ok (.val (.bl k)) S1) : mTst m E S = .ok k S1 := by
  unfold mTst
  rw [bnd_ok h]
theorem k_ok {d : D} : mK d E S = .ok (.val d) S := rfl
theorem and_t {x y : M Bool} (h : x E S = .ok true S1) : mAnd x y E S = y E S1 := by
  unfold mAnd
  rw [bnd_ok h]
  rfl
theorem and_f {x y : M Bool} (h : x E S = .ok false S1) : mAnd x y E S = .ok false S1 := by
  unfold mAnd
  rw [bnd_ok h]
  rfl
theorem set_ok {k : Nat} {x : DV} (h : m E S = .ok x S1) : setS k m E S = .nx (E.set k (some x)) S1 := by
  unfold setS withE
  rw [h]
theorem mod_ok (h : 0 < j) : modD (.int i) (.int j) S = .ok (.val (.int (i % j))) S := by
  show (match (if 0 < j then some (D.int (i % j)) else none) with | some z => fine z S | none => .bad) = _
  rw [if_pos h]
  rfl
theorem fdiv_ok (h : 0 < j) (h2 : j < 1073741824) : fdivD (.int i) (.int j) S = .ok (.val (.int (i / j))) S := by
  show (match (if 0 < j ∧ j < 1073741824 then some (D.int (i / j)) else none) with | some z => fine z S | none => .bad) = _
  rw [if_pos ⟨h, h2⟩]
  rfl
theorem add_ok : addD (.int i) (.int j) S = .ok (.val (.int (i + j))) S := rfl
theorem mul_ok (h : mulOk i j = true) : mulD (.int i) (.int j) S = .ok (.val (.int (i * j))) S := by
  show (if mulOk i j then fine (.int (i * j)) S else .bad) = _
  rw [if_pos h]
  rfl
theorem mulR (h0 : 0 ≤ j) (h : j < 18446744073709551616) : mulOk i j = true := by
  unfold mulOk
  have h1 : decide (-(2 ^ 64) < j) = true := decide_eq_true (by omega)
  have h2 : decide (j < 2 ^ 64) = true := decide_eq_true (by omega)
  rw [h1, h2]
  simp
theorem lt_ok : ltD (.int i) (.int j) S = .ok (.val (.bl (decide (i < j)))) S := rfl
theorem ge_t (h : j ≤ i) : geD (.int i) (.int j) S = .ok (.val (.bl true)) S := by
  show fine (.bl (decide (j ≤ i))) S = _
  rw [decide_eq_true h]
  rfl
theorem ge_f (h : ¬ j ≤ i) : geD (.int i) (.int j) S = .ok (.val (.bl false)) S := by
  show fine (.bl (decide (j ≤ i))) S = _
  rw [decide_eq_false h]
  rfl
theorem ge_ok : geD (.int i) (.int j) S = .ok (.val (.bl (decide (j ≤ i)))) S := rfl
end
end Hm
set_option Elab.async false
set_option linter.all false
set_option maxRecDepth 100000
set_option maxHeartbeats 2000000
namespace Hm
open PySem PySem.Spec L2 PyProof.Rows

/-! ### own exception classes over ValueError, LookupError, IndexError -/
/-- which built-in class stands below -/
inductive XB where
  | ve | le | ie
def XB.nm : XB → String
  | .ve => "ValueError"
  | .le => "LookupError"
  | .ie => "IndexError"
def XB.newId : XB → String
  | .ve => "ValueError.__new__"
  | .le => "LookupError.__new__"
  | .ie => "IndexError.__new__"
def XB.iniId : XB → String
  | .ve => "ValueError.__init__"
  | .le => "LookupError.__init__"
  | .ie => "IndexError.__init__"
def XB.mro : XB → List Value
  | .ve => [.type "ValueError", .type "Exception", .type "BaseException", .type "object"]
  | .le => [.type "LookupError", .type "Exception", .type "BaseException", .type "object"]
  | .ie => [.type "IndexError", .type "LookupError", .type "Exception", .type "BaseException", .type "object"]
theorem XB.base : ∀ b : XB, ExcBaseFacts b.nm b.newId b.iniId b.mro
  | .ve => F.excBase_ValueError
  | .le => F.excBase_LookupError
  | .ie => F.excBase_IndexError
theorem XB.store : ∀ b : XB, StoreFacts b.nm b.mro "object.__setattr__" "object"
  | .ve => F.store_ValueError
  | .le => F.store_LookupError
  | .ie => F.store_IndexError
/-- what the written part says of such a class -/
structure OxC (K : PySem.W.Frag) (b : XB) (C : Addr) : Prop where
  ini : PySem.W.excInitIn K C b.mro b.newId = true
  ovr : PySem.W.excOver K C b.mro = true
  sa : PySem.W.findIn K (.ref C) "__setattr__" = some (some (.builtin "object.__setattr__"))
  kC : PySem.W.keepIn K (.ref C) = true
  tyC : PySem.W.typeIn K (.ref C) = some (.type "type")
  xf : XfC K C
def oxB (K : PySem.W.Frag) (b : XB) (C : Addr) : Bool := PySem.W.excInitIn K C b.mro b.newId && (PySem.W.excOver K C b.mro && (decide (PySem.W.findIn K (.ref C) "__setattr__" = some (some (.builtin "object.__setattr__"))) &&
  (PySem.W.keepIn K (.ref C) && (decide (PySem.W.typeIn K (.ref C) = some (.type "type")) && xfB K C))))
theorem oxB_ok {K : PySem.W.Frag} {b : XB} {C : Addr} (h : oxB K b C = true) : OxC K b C := by
  obtain ⟨h1, h⟩ := Bool.and_eq_true_iff.mp h
  obtain ⟨h2, h⟩ := Bool.and_eq_true_iff.mp h
  obtain ⟨h3, h⟩ := Bool.and_eq_true_iff.mp h
  obtain ⟨h4, h⟩ := Bool.and_eq_true_iff.mp h
  obtain ⟨h5, h6⟩ := Bool.and_eq_true_iff.mp h
  exact ⟨h1, h2, of_decide_eq_true h3, h4, of_decide_eq_true h5, xfB_ok h6⟩

section
variable {X : Cx} {pins : List (Addr × Obj)} {σ : L2.St} {H : Hp} {s : Shared} {a C dx : Addr} {f : Str} {y : V} {u : Value} {fs : List (Str × V)} {Q : Unit → Shared → Prop} {E : Value → Shared → Prop} {A : Around} {b : XB}
/-- self.f = y on a new exception: its dict is made -/
theorem ox_new (T : OxC X.K b C) (I : Inv X pins σ H s) (e : H a = some (exo a C none)) (hno : PySem.W.takerIn X.K C f = some none) (ry : RelV y u)
    (h : ∀ dx s', H dx = none → dx ≠ a → Inv X pins σ (upd (upd H dx (exd dx [(f, y)])) a (exo a C (some dx))) s' → Q () s') : wpAny (model X.prog X.w) A (setAttr (.ref a) f u) Q E s := by
  obtain ⟨t1, ho⟩ := exo_at I.hok e
  obtain ⟨hp, g, d, t, os⟩ := s
  obtain ⟨cd, hc, hd'⟩ := PySem.W.any_some T.xf.hdC
  have I0 := I.tok (t + 1)
  refine PySem.W.set_plain I.kIn (ox := { cls := .ref C, dict := none, data := .fields #[.ref t1, .none, .none, .none, .bool false, .none] }) (od := none) ⟨ho, rfl, rfl, trivial⟩ T.sa ?_
  refine PySem.W.osa_openX (od := none) b.store I.kIn ⟨ho, rfl, rfl, trivial⟩ T.ovr hno fun bb => ?_
  dsimp only
  refine wpAny_bind (wpAny_pure (wpAny_bind (PySem.W.instanceDict_exc ho (PySem.W.looks_clsIn I.kIn hc) hd' ?_)))
  show wpAny _ _ (Builtin.ObjectAttr.storeInDict hp.objs.size (.str f _) f u) _ _ _
  have lt := Heap.lt_size ho
  have hnd : H hp.objs.size = none := I.hok.fresh (Nat.le_refl _)
  have nda : hp.objs.size ≠ a := (Nat.ne_of_lt lt).symm
  have g1 : ∀ c o, hp.get? c = some o → (hp.push (PySem.W.dictOf [] 0)).get? c = some o := fun c o q => Heap.get?_push_of_some _ q
  have emp : (hp.push (PySem.W.dictOf [] 0)).Ns hp.objs.size (fun _ => none) := ⟨_, #[], _, Heap.get?_push_at rfl rfl, rfl, fun e he => absurd he (by simp), fun _ => rfl⟩
  have J1 : Inv X pins σ (upd H hp.objs.size (exd hp.objs.size [])) ⟨hp.push (PySem.W.dictOf [] 0), g, d, t, os⟩ :=
    I.laid (t' := t) (o := exd hp.objs.size []) g1 (Nat.le_refl _) (exd_ok (Heap.Ns1.of_empty emp) fun _ => trivial)
  have hup : ((hp.push (PySem.W.dictOf [] 0)).update a fun o => { o with dict := some hp.objs.size }).get? a = some ({ cls := .ref C, dict := some hp.objs.size, data := .fields #[.ref t1, .none, .none, .none, .bool false, .none] } : Obj) := Heap.get?_update_self _ (g1 _ _ ho) rfl
  have kup : ∀ c o, c ≠ a → (hp.push (PySem.W.dictOf [] 0)).get? c = some o → ((hp.push (PySem.W.dictOf [] 0)).update a fun o => { o with dict := some hp.objs.size }).get? c = some o := fun c o hn q => (Heap.get?_update_ne _ _ _ _ hn).trans q
  have J2 := J1.write (t' := t) (x := a) (e := a) (o := exo a C (some hp.objs.size)) (by rw [upd_ne nda.symm, e]; exact True.intro) (.inl rfl) kup ⟨_, hup⟩ (exo_ok hup)
  have emp2 : ((hp.push (PySem.W.dictOf [] 0)).update a fun o => { o with dict := some hp.objs.size }).Ns hp.objs.size (fun _ => none) := ⟨_, #[], _, kup _ _ nda (Heap.get?_push_at rfl rfl), rfl, fun e he => absurd he (by simp), fun _ => rfl⟩
  refine PySem.HandSPX.store_in_new emp2 fun h' tk' hn hs => ?_
  refine h hp.objs.size _ hnd nda ?_
  have hd : ∃ o, h'.get? hp.objs.size = some o := by
    obtain ⟨o, _, _, q, _⟩ := hn
    exact ⟨o, q⟩
  have J3 := J2.write (t' := tk') (x := hp.objs.size) (e := hp.objs.size) (o := exd hp.objs.size [(f, y)]) (by rw [upd_ne nda, upd_same]; exact True.intro) (.inl rfl) (fun c o hc q => (hs.2 c hc).trans q) hd (exd_ok hn (relO_put (fs := []) ry fun _ => trivial))
  have eh : upd (upd (upd H hp.objs.size (exd hp.objs.size [])) a (exo a C (some hp.objs.size))) hp.objs.size (exd hp.objs.size [(f, y)]) = upd (upd H hp.objs.size (exd hp.objs.size [(f, y)])) a (exo a C (some hp.objs.size)) := by
    funext c
    by_cases h1 : c = hp.objs.size
    · rw [h1, upd_same, upd_ne nda, upd_same]
    · rw [upd_ne h1]
      by_cases h2 : c = a
      · rw [h2, upd_same, upd_same]
      · rw [upd_ne h2, upd_ne h2, upd_ne h1, upd_ne h1]
  rw [eh] at J3
  exact J3
/-- .. on one that has its dict -/
theorem ox_old (T : OxC X.K b C) (I : Inv X pins σ H s) (e : H a = some (exo a C (some dx))) (ed : H dx = some (exd dx fs)) (hl : fs.length ≤ 900) (hno : PySem.W.takerIn X.K C f = some none) (ry : RelV y u)
    (h : ∀ s', Inv X pins σ (upd H dx (exd dx ((f, y) :: fs))) s' → Q () s') : wpAny (model X.prog X.w) A (setAttr (.ref a) f u) Q E s := by
  obtain ⟨t1, ho⟩ := exo_at I.hok e
  obtain ⟨mA, hns, rel⟩ := exd_at I.hok ed
  have hw := within_of rel
  obtain ⟨hp, g, d, t, os⟩ := s
  obtain ⟨cd, hc, hd'⟩ := PySem.W.any_some T.xf.hdC
  obtain ⟨oD, _, _, hoD, _, _⟩ := hns.count hw
  refine PySem.W.set_plain I.kIn (ox := { cls := .ref C, dict := some dx, data := .fields #[.ref t1, .none, .none, .none, .bool false, .none] }) (od := some oD) ⟨ho, rfl, rfl, hoD⟩ T.sa ?_
  refine PySem.W.osa_openX (od := some oD) b.store I.kIn ⟨ho, rfl, rfl, hoD⟩ T.ovr hno fun bb => ?_
  dsimp only
  refine wpAny_bind (wpAny_pure (wpAny_bind (wpAny_bind (wpAny_loadPart ho (wpAny_bind ((PySem.W.looks_clsIn I.kIn hc).at ?_))))))
  rw [hd']
  refine wpAny_pure (a := some dx) ?_
  refine PySem.OEX.store_in_old hns hw (by rw [List.length_map]; omega) fun h' tk' hn hs => ?_
  have hd : ∃ o, h'.get? dx = some o := by
    obtain ⟨o, _, _, q, _⟩ := hn
    exact ⟨o, q⟩
  exact h _ (I.write (t' := tk') (x := dx) (e := dx) (o := exd dx ((f, y) :: fs)) (by rw [ed]; exact True.intro) (.inl rfl) (fun c o hc q => (hs.2 c hc).trans q) hd (exd_ok hn (relO_put ry rel)))
end
/-- self.f = e -/
def tOx (K : PySem.W.Frag) (f : Str) (to te : TE) : TS := fun D σ H => te σ H fun y H1 => to σ H1 fun x H2 => ∃ (b : XB) (a C : Addr), x = .ref a ∧ OxC K b C ∧ PySem.W.takerIn K C f = some none ∧
  ((H2 a = some (exo a C none) ∧ ∀ dx, H2 dx = none → dx ≠ a → D.nx σ (upd (upd H2 dx (exd dx [(f, y)])) a (exo a C (some dx)))) ∨
    ∃ (dx : Addr) (fs : List (Str × V)), H2 a = some (exo a C (some dx)) ∧ H2 dx = some (exd dx fs) ∧ fs.length ≤ 900 ∧ D.nx σ (upd H2 dx (exd dx ((f, y) :: fs))))
theorem ps_ox {X : Cx} {o e : Expr} {to te : TE} {f : Str} {p' pos : Pos} (ho : PE X o to) (he : PE X e te) (hs : swapsWith e (some (.Attribute o f p')) pos.line X.env = pure false) : PS X (.Assign [.Attribute o f p'] e pos) (tOx X.K f to te) := by
  refine ⟨fun pins s σ H D I h => ?_⟩
  refine plainObj_wpAny_Assign_Attribute (thn (he.run pins s σ H _ I h) fun v s1 ⟨y, H1, I1, r1, q1⟩ => thn (ho.run pins s1 σ H1 _ I1 q1) fun u s2 ⟨x, H2, I2, r2, b, a, C, ex, T, hno, q⟩ => ?_) hs
  subst ex
  obtain rfl : u = Value.ref a := r2
  rcases q with ⟨ea, q⟩ | ⟨dx, fs, ea, ed, hl, q⟩
  · exact ox_new T I2 ea hno r1 fun dx s' n ne J => ⟨σ, _, J, q dx n ne⟩
  · exact ox_old T I2 ea ed hl hno r1 fun s' J => ⟨σ, _, J, q⟩

/-! ### __init__: self.f = a parameter, a text -/
inductive Sc1 where
  | arg (i : Nat) | txt (z : Str)
def Sc1.v (vs : List V) : Sc1 → V
  | .arg i => vs.getD i .non
  | .txt z => .str z
def Sc1.d (ds : List D) : Sc1 → D
  | .arg i => ds.getD i .non
  | .txt z => .str z
abbrev Fs := List (Str × Sc1)
/-- the fields, the last one first -/
def fsV (l : Fs) (vs : List V) (acc : List (Str × V)) : List (Str × V) := l.foldl (fun r p => (p.1, p.2.v vs) :: r) acc
def fsD (l : Fs) (ds : List D) (acc : List (Str × D)) : List (Str × D) := l.foldl (fun r p => (p.1, p.2.d ds) :: r) acc
theorem rep_getD {K : PySem.W.Frag} {F : Hp} {R : List Addr} {ds : List D} {vs : List V} (r : Reps K F R ds vs) (i : Nat) : Rep K F R (ds.getD i .non) (vs.getD i .non) := by
  rw [List.getD_eq_getElem?_getD, List.getD_eq_getElem?_getD]
  cases e : ds[i]? with
  | none =>
    have : vs[i]? = none := by
      rw [List.getElem?_eq_none_iff] at e ⊢
      rw [← r.length]; exact e
    rw [this]; exact .non
  | some d =>
    obtain ⟨v, hv, rv⟩ := r.getD e
    rw [hv]; exact rv
theorem fs_rep {K : PySem.W.Frag} {F : Hp} {R : List Addr} {ds : List D} {vs : List V} (r : Reps K F R ds vs) : ∀ (l : Fs) {ad : List (Str × D)} {av : List (Str × V)}, RepF K F R ad av → RepF K F R (fsD l ds ad) (fsV l vs av)
  | [], _, _, h => h
  | (f, .arg i) :: l, _, _, h => fs_rep r l (.cons (rep_getD r i) h)
  | (f, .txt z) :: l, _, _, h => fs_rep r l (.cons (.str z) h)
inductive IniB (N : List Str) (sc : Scope) : List Stmt → Fs → Prop
  | nil : IniB N sc [] []
  | arg {f x : Str} {i : Nat} {p1 p2 p3 pos : Pos} {rest : List Stmt} {l : Fs} (hN : N[i + 1]? = some x) (hv : Vis sc x) (hd : (x == ("__debug__" : Str)) = false) (hcd : (x == ("__classdict__" : Str)) = false)
      (hs : ∀ env, swapsWith (.Name x p3) (some (.Attribute (.Name "self" p1) f p2)) pos.line env = pure false) (t : IniB N sc rest l) :
      IniB N sc (.Assign [.Attribute (.Name "self" p1) f p2] (.Name x p3) pos :: rest) ((f, .arg i) :: l)
  | txt {f z : Str} {j : Nat} {p1 p2 p3 pos : Pos} {rest : List Stmt} {l : Fs} (hs : ∀ env, swapsWith (.Constant (.str z) j p3) (some (.Attribute (.Name "self" p1) f p2)) pos.line env = pure false) (t : IniB N sc rest l) :
      IniB N sc (.Assign [.Attribute (.Name "self" p1) f p2] (.Constant (.str z) j p3) pos :: rest) ((f, .txt z) :: l)
/-- the state of an exception that is being made: how far it is -/
def XSt (H0 H : Hp) (a C : Addr) : List (Str × V) → Prop
  | [] => H = upd H0 a (exo a C none)
  | fs => ∃ dx, H0 dx = none ∧ dx ≠ a ∧ H = upd (upd H0 dx (exd dx fs)) a (exo a C (some dx))
theorem ini_walk {X : Cx} {K : PySem.W.Frag} {b : XB} {C : Addr} {N : List Str} {sc : Scope} (hK : X.K = K) (hN : X.N = N) (hsc : X.env.scope = sc) (T : OxC K b C) (h0 : N[0]? = some ("self" : Str)) (hv0 : Vis sc "self") :
    ∀ {body : List Stmt} {l : Fs}, IniB N sc body l → (∀ p ∈ l, PySem.W.takerIn K C p.1 = some none) → ∃ t, PSs X body t ∧ ∀ (D : Ends) (σ : L2.St) (H0 H : Hp) (a : Addr) (vs : List V) (fs : List (Str × V)), H0 a = none → σ[0]? = some (some (.ref a)) →
      (∀ i v, vs[i]? = some v → σ[i + 1]? = some (some v)) → (∀ p ∈ l, ∀ i, p.2 = .arg i → i < vs.length) → fs.length + l.length ≤ 900 → XSt H0 H a C fs → (∀ H', XSt H0 H' a C (fsV l vs fs) → D.nx σ H') → t D σ H := by
  subst hK hN hsc
  have pself : ∀ p1, PE X (.Name "self" p1) (tVar 0) := fun p1 => pe_var (i := 0) h0 hv0 (by decide) (by decide)
  intro body l hb
  induction hb with
  | nil =>
    intro _
    refine ⟨_, pss_nil, fun D σ H0 H a vs fs _ _ _ _ _ hx hq => ?_⟩
    exact hq H hx
  | @arg f x i p1 p2 p3 pos rest l hN hv hd hcd hs t ih =>
    intro ht
    obtain ⟨t2, ps2, r2⟩ := ih fun p hp => ht p (List.mem_cons_of_mem _ hp)
    refine ⟨_, pss_cons (ps_ox (pself p1) (pe_var (i := i + 1) hN hv hd hcd) (hs _)) ps2, fun D σ H0 H a vs fs ha hself hvs hlt hlen hx hq => ?_⟩
    have hi : i < vs.length := hlt _ List.mem_cons_self i rfl
    have e1 : vs.getD i .non = vs[i] := by rw [List.getD_eq_getElem?_getD, List.getElem?_eq_getElem hi]; rfl
    refine ⟨vs[i], hvs i _ (List.getElem?_eq_getElem hi), .ref a, hself, b, a, C, rfl, T, ht _ List.mem_cons_self, ?_⟩
    rw [List.length_cons] at hlen
    have go : ∀ H', XSt H0 H' a C ((f, vs[i]) :: fs) → t2 D σ H' := fun H' hx' => r2 D σ H0 H' a vs _ ha hself hvs (fun p hp => hlt p (List.mem_cons_of_mem _ hp)) (by rw [List.length_cons]; omega) hx' fun H2 h2 => hq H2 (by unfold fsV at h2 ⊢; rw [List.foldl_cons]; dsimp only [Sc1.v]; rw [e1]; exact h2)
    cases fs with
    | nil =>
      subst hx
      exact .inl ⟨upd_same, fun dx n ne => go _ ⟨dx, by rw [upd_ne ne] at n; exact n, ne, by
        funext c
        by_cases h1 : c = a
        · rw [h1, upd_same, upd_same]
        · rw [upd_ne h1, upd_ne h1]
          by_cases h2 : c = dx
          · rw [h2, upd_same, upd_same]
          · rw [upd_ne h2, upd_ne h2, upd_ne h1]⟩⟩
    | cons p fs =>
      obtain ⟨dx, n, ne, rfl⟩ := hx
      refine .inr ⟨dx, _, upd_same, by rw [upd_ne ne, upd_same], by omega, go _ ⟨dx, n, ne, ?_⟩⟩
      funext c
      by_cases h1 : c = dx
      · rw [h1, upd_same, upd_ne ne, upd_same]
      · rw [upd_ne h1]
        by_cases h2 : c = a
        · rw [h2, upd_same, upd_same]
        · rw [upd_ne h2, upd_ne h2, upd_ne h1, upd_ne h1]
  | @txt f z j p1 p2 p3 pos rest l hs t ih =>
    intro ht
    obtain ⟨t2, ps2, r2⟩ := ih fun p hp => ht p (List.mem_cons_of_mem _ hp)
    refine ⟨_, pss_cons (ps_ox (pself p1) pe_str (hs _)) ps2, fun D σ H0 H a vs fs ha hself hvs hlt hlen hx hq => ?_⟩
    refine ⟨.ref a, hself, b, a, C, rfl, T, ht _ List.mem_cons_self, ?_⟩
    rw [List.length_cons] at hlen
    have go : ∀ H', XSt H0 H' a C ((f, .str z) :: fs) → t2 D σ H' := fun H' hx' => r2 D σ H0 H' a vs _ ha hself hvs (fun p hp => hlt p (List.mem_cons_of_mem _ hp)) (by rw [List.length_cons]; omega) hx' fun H2 h2 => hq H2 h2
    cases fs with
    | nil =>
      subst hx
      exact .inl ⟨upd_same, fun dx n ne => go _ ⟨dx, by rw [upd_ne ne] at n; exact n, ne, by
        funext c
        by_cases h1 : c = a
        · rw [h1, upd_same, upd_same]
        · rw [upd_ne h1, upd_ne h1]
          by_cases h2 : c = dx
          · rw [h2, upd_same, upd_same]
          · rw [upd_ne h2, upd_ne h2, upd_ne h1]⟩⟩
    | cons p fs =>
      obtain ⟨dx, n, ne, rfl⟩ := hx
      refine .inr ⟨dx, _, upd_same, by rw [upd_ne ne, upd_same], by omega, go _ ⟨dx, n, ne, ?_⟩⟩
      funext c
      by_cases h1 : c = dx
      · rw [h1, upd_same, upd_ne ne, upd_same]
      · rw [upd_ne h1]
        by_cases h2 : c = a
        · rw [h2, upd_same, upd_same]
        · rw [upd_ne h2, upd_ne h2, upd_ne h1, upd_ne h1]
/-- __init__'s promise -/
def spIni (C : Addr) (l : Fs) (n : Nat) : Sp := fun vs H Q _ => vs.length = n ∧ ∃ (H0 : Hp) (a : Addr) (ws : List V), vs = .ref a :: ws ∧ H0 a = none ∧ H = upd H0 a (exo a C none) ∧ ∀ (dx : Addr) , H0 dx = none → dx ≠ a → Q .non (upd (upd H0 dx (exd dx (fsV l ws []))) a (exo a C (some dx)))
theorem fn_ini {P : Program} {w : World} {K : PySem.W.Frag} {mg : Str → Option Value} {base : Heap} {b : XB} {C f : Addr} {x qual : Str} {params : Arguments} {body : List Stmt} {sc : Scope} {dvs : List V} {fd : FuncData} {N ps : List Str} {l : Fs}
    (Fn : FunD K x qual params body sc dvs [] f fd) (Sc : FnScope N ps sc) (T : OxC K b C) (hI : IniB N sc body l) (ht : ∀ p ∈ l, PySem.W.takerIn K C p.1 = some none) (hne : l ≠ []) (hlt : ∀ p ∈ l, ∀ i, p.2 = .arg i → i + 1 < ps.length) (hlen : l.length ≤ 900) (h0 : N[0]? = some ("self" : Str)) (hv0 : Vis sc "self") :
    FnOk P w K mg base (L2.CX P w) 1 f fd ps (spIni C l ps.length) := by
  refine Fn.ok Sc (fun vs H Q E h => h.1) fun cdv A outer s H vs Q E hr h => ?_
  obtain ⟨hn, H0, a, ws, rfl, ha, rfl, q⟩ := h
  obtain ⟨t, pst, r⟩ := ini_walk (X := cxOf (L2.CX P w) P w K mg base N qual sc f cdv A outer s (upd H0 a (exo a C none)) E) rfl rfl rfl T h0 hv0 hI ht
  have st : ∀ i v, (V.ref a :: ws)[i]? = some v → (start N (V.ref a :: ws))[i]? = some (some v) := fun i v hv => by
    unfold L2.start
    rw [List.getElem?_append_left (by rw [List.length_map]; exact (List.getElem?_eq_some_iff.mp hv).1), List.getElem?_map, hv]
    rfl
  refine ⟨t, pst, r _ _ H0 _ a ws [] ha (st 0 _ rfl) (fun i v hv => st (i + 1) v hv) (fun p hp i e => by have z := hlt p hp i e; rw [List.length_cons] at hn; omega) (by simpa using hlen) rfl fun H' hx => ?_⟩
  have ne : fsV l ws [] ≠ [] := by
    have key : ∀ (l : Fs) (acc : List (Str × V)), acc ≠ [] → fsV l ws acc ≠ [] := by
      intro l
      induction l with
      | nil => intro acc h; exact h
      | cons p l ih => intro acc h; exact ih _ (List.cons_ne_nil _ _)
    cases l with
    | nil => exact (hne rfl).elim
    | cons p l => exact key l _ (List.cons_ne_nil _ _)
  obtain ⟨p, r', e⟩ := List.exists_cons_of_ne_nil ne
  rw [e] at hx
  obtain ⟨dx, n, nx, rfl⟩ := hx
  rw [← e]
  exact q dx n nx

/-! ### C(e, ..) -/
/-- the class x may be called with n arguments: l what its fields become of (self, the arguments, the defaults) -/
structure XMk (G : Gs) (x : Str) (n : Nat) (dfl : List D) (l : Fs) : Prop where
  mg : G.mg x = some (.ref (He.ga G.K x))
  ex : ∃ (b : XB) (fI : Addr) (fd : FuncData) (ps : List Str) (ds : List Value) (dvs : List V), OxC G.K b (He.ga G.K x) ∧ PySem.W.findIn G.K (.ref (He.ga G.K x)) "__init__" = some (some (.ref fI)) ∧ PySem.W.typeIn G.K (.ref fI) = some (.type "function") ∧
    FnOk G.P G.w G.K G.mg G.base (L2.CX G.P G.w) 1 fI fd ps (spIni (He.ga G.K x) l ps.length) ∧ Binds G.K fd ps ds ∧ Vals dvs ds ∧ (∀ F R, Reps G.K F R dfl dvs) ∧ 1 + n + dvs.length = ps.length
/-- what is told of C(e, ..) -/
def tMkX (C : Addr) (l : Fs) (n : Nat) (dvs : List V) (vs : List V) (H : Hp) (Q : XK) : Prop := vs.length = n ∧ n ≤ 1000 ∧ ∀ a dx, H a = none → H dx = none → dx ≠ a → Q (.ref C) (some dx) (upd H dx (.xd (fsV l (vs ++ dvs) [])))
section
variable {X : Cx} {G : Gs} {k : Nat} {N : List Str} {sc : Scope} {pins : List (Addr × Obj)} {σ : L2.St} {H1 : Hp} {s1 : Shared} {x : Str} {n : Nat} {dfl : List D} {l : Fs}
theorem noPass {CX : CXT} (h : CX = L2.CX X.prog X.w) : Passes CX X (fun _ _ _ => False) := fun _ _ _ _ _ _ _ q => by
  subst h
  obtain ⟨_, _, _, _, _, _, _, _, _, _, _, _, z⟩ := q
  exact z.elim
theorem mk_call {C fI : Addr} {b : XB} {j : Nat} {fd : FuncData} {ps : List Str} {ds : List Value} {dvs vs : List V} {us : List Value} {Q : XK} (T : OxC X.K b C) (iC : PySem.W.findIn X.K (.ref C) "__init__" = some (some (.ref fI))) (tI : PySem.W.typeIn X.K (.ref fI) = some (.type "function"))
    (F1 : FnOk X.prog X.w X.K X.mg X.base (L2.CX X.prog X.w) j fI fd ps (spIni C l ps.length)) (hr : Room (j + 1) X.A) (hb : Binds X.K fd ps ds) (hd : Vals dvs ds) (hn : 1 + n + dvs.length = ps.length) (I1 : Inv X pins σ H1 s1) (r1 : Vals vs us) (q1 : tMkX C l n dvs vs H1 Q) :
    wpAny (model X.prog X.w) X.A (call (.ref C) us) (MkP X pins σ Q) X.xe s1 := by
  obtain ⟨hvn, hz, q1⟩ := q1
  obtain ⟨hp, g, dr, tk, os⟩ := s1
  have up1 : hp.objs.size ≤ hp.objs.size + 1 := Nat.le_succ _
  have hnew : H1 (hp.objs.size + 1) = none := I1.hok.fresh up1
  have grow : ∀ c o, hp.get? c = some o → ((hp.push (PySem.W.kdv_tup us)).push (PySem.HandSPX.excO C hp.objs.size)).get? c = some o := fun c o e => Heap.get?_push_of_some _ (Heap.get?_push_of_some _ e)
  have at1 : ((hp.push (PySem.W.kdv_tup us)).push (PySem.HandSPX.excO C hp.objs.size)).get? (hp.objs.size + 1) = some (PySem.HandSPX.excO C hp.objs.size) := by heap_get
  have J : Inv X pins σ (upd H1 (hp.objs.size + 1) (exo (hp.objs.size + 1) C none)) ⟨(hp.push (PySem.W.kdv_tup us)).push (PySem.HandSPX.excO C hp.objs.size), g, dr, tk, os⟩ := I1.laid (t' := tk) grow up1 (exo_ok at1)
  have rv : Vals (V.ref (hp.objs.size + 1) :: (vs ++ dvs)) (Value.ref (hp.objs.size + 1) :: (us ++ ds)) := .cons rfl (r1.append hd)
  have lv : (V.ref (hp.objs.size + 1) :: (vs ++ dvs)).length = ps.length := by rw [List.length_cons, List.length_append, hvn]; omega
  have lu : (Value.ref (hp.objs.size + 1) :: us ++ ds).length = ps.length := by rw [← lv]; exact rv.length.symm
  have small : us.length ≤ sizeLine := by
    rw [← Paired.length r1, sizeLine_eq]
    omega
  obtain ⟨nm, N', qn, bs, bm, hdct, sn, sub, ab, col, dd, k0, k1, k2, k3, k5, hC, hT⟩ := PySem.W.excInit_of I1.kIn T.ini
  refine wpAny_call (PySem.HandSPX.call_own b.base hT hC (PySem.W.looks_findIn I1.kIn iC) (fun self => PySem.W.bind_fn I1.kIn self tI) small ?_)
  refine codeAny_mono (F1.run _ X.stack _ _ ⟨Value.ref (hp.objs.size + 1) :: us, []⟩ (Value.ref (hp.objs.size + 1) :: (us ++ ds)) _
    (fun v H2 => v = .non ∧ ∃ (d : Addr) (fs : List (Str × V)), H2 (hp.objs.size + 1) = some (exo (hp.objs.size + 1) C (some d)) ∧ H2 d = some (exd d fs) ∧ H1 d = none ∧ Q (.ref C) (some d) (upd (del H2 (hp.objs.size + 1)) d (.xd fs))) (fun _ _ _ => False)
    (hr.make C us []) (J.env0.make C us []) (hb _ (Value.ref (hp.objs.size + 1) :: us) J.kIn lu) rv ?_) fun r s' hq => ?_
  · refine ⟨lv, H1, hp.objs.size + 1, vs ++ dvs, rfl, hnew, rfl, fun dx n1 n2 => ⟨rfl, dx, _, upd_same, by rw [upd_ne n2, upd_same], n1, ?_⟩⟩
    have eh : upd (del (upd (upd H1 dx (exd dx (fsV l (vs ++ dvs) []))) (hp.objs.size + 1) (exo (hp.objs.size + 1) C (some dx))) (hp.objs.size + 1)) dx (.xd (fsV l (vs ++ dvs) [])) = upd H1 dx (.xd (fsV l (vs ++ dvs) [])) := by
      funext c
      by_cases h1 : c = dx
      · rw [h1, upd_same, upd_same]
      · rw [upd_ne h1, upd_ne h1]
        by_cases h2 : c = hp.objs.size + 1
        · rw [h2, del_same, hnew]
        · rw [del_ne h2, upd_ne h2, upd_ne h1]
    rw [eh]
    exact q1 _ dx hnew n1 n2
  · cases r with
    | error er => exact noPass rfl pins σ _ _ er s' J hq
    | ok fl =>
      cases fl with
      | ret u =>
        obtain ⟨v, H2, os2, bare2, un2, hok2, rv2, ev, d, fs, ea, ed, hd1, q2⟩ := hq
        subst ev
        obtain ⟨h2, g2, d2, t2, os'⟩ := s'
        exact ⟨rv2, mk_end (raises_own T.xf.exC T.tyC) I1 up1 grow un2 hok2 os2 bare2 ea ed hd1 q2⟩
      | next => exact False.elim hq
      | brk => exact False.elim hq
      | cont => exact False.elim hq
end
end Hm
set_option Elab.async false
set_option linter.all false
set_option maxRecDepth 100000
set_option maxHeartbeats 2000000
namespace Hm
open PySem PySem.Spec L2 PyProof.Rows

section
variable {G : Gs} {k : Nat} {N : List Str} {sc : Scope} {x : Str} {n : Nat} {dfl : List D} {l : Fs} {e : Expr} {es : List Expr} {ms : M (List D)} {p pos pos2 : Pos}
theorem CtxE.xk {X : Cx} (c : CtxE G k N sc X) : X.K = G.K := c.cK
/-- C(e, ..) as what makes an exception -/
theorem pmk_x {X : Cx} {ta : TA} (c : CtxE G k N sc X) (mk : XMk G x n dfl l) (hj : 2 ≤ k) (ha : PA X (e :: es) ta) (hg : sc.names.lookup x = some .globalImplicit) (hdb : (x == ("__debug__" : Str)) = false)
    (he : ∀ env, starEach (e :: es) env = (false, eval e env) :: starEach es env) (hpl : ∀ env, (backTo pos (starEach es env)).any (·.1) = false) :
    ∃ dvs : List V, (∀ F R, Reps G.K F R dfl dvs) ∧ PMk X (.Call (.Name x p) (e :: es) [] pos) (fun σ H Q => ta σ H fun vs H1 => tMkX (He.ga G.K x) l n dvs vs H1 Q) := by
  obtain ⟨b, fI, fd, ps, ds, dvs, T, iC, tI, F1, hb, hd, hr, hn⟩ := mk.ex
  refine ⟨dvs, hr, fun pins s σ H Q I h => ?_⟩
  obtain ⟨q1, q2, q3, q4, q5⟩ := c
  have eK := q3
  refine wpAny_Call_Name_kw (ld_glob I (by rw [← ‹X.env.scope = sc›] at hg; exact hg) (by rw [q4]; exact mk.mg) ?_ hdb)
  refine PySem.W.callWith_K (h₀ := X.base) I.ok.mod.kin (by rw [eK]; exact T.kC) (thn (ha.run pos pins s σ H _ I h) fun us s1 ⟨vs, H1, I1, r1, q⟩ => ⟨I1.kIn, ?_⟩) (he _) (hpl _)
  exact mk_call (by rw [eK]; exact T) (by rw [eK]; exact iC) (by rw [eK]; exact tI) (by rw [q1, q2, eK, q4, q5]; exact F1) (Room.mono ‹Room k X.A› hj) (by rw [eK]; exact hb) hd hn I1 r1 q
theorem pmk_x0 {X : Cx} (c : CtxE G k N sc X) (mk : XMk G x n dfl l) (hj : 2 ≤ k) (hg : sc.names.lookup x = some .globalImplicit) (hdb : (x == ("__debug__" : Str)) = false) :
    ∃ dvs : List V, (∀ F R, Reps G.K F R dfl dvs) ∧ PMk X (.Call (.Name x p) [] [] pos) (fun σ H Q => tMkX (He.ga G.K x) l n dvs [] H Q) := by
  obtain ⟨b, fI, fd, ps, ds, dvs, T, iC, tI, F1, hb, hd, hr, hn⟩ := mk.ex
  refine ⟨dvs, hr, fun pins s σ H Q I h => ?_⟩
  obtain ⟨q1, q2, q3, q4, q5⟩ := c
  have eK := q3
  refine wpAny_Call_Name_kw (ld_glob I (by rw [← ‹X.env.scope = sc›] at hg; exact hg) (by rw [q4]; exact mk.mg) ?_ hdb)
  refine PySem.W.callWith_K0 I.kIn (by rw [eK]; exact T.kC) ?_
  exact mk_call (by rw [eK]; exact T) (by rw [eK]; exact iC) (by rw [eK]; exact tI) (by rw [q1, q2, eK, q4, q5]; exact F1) (Room.mono ‹Room k X.A› hj) (by rw [eK]; exact hb) hd hn I .nil h
/-- raise C(e, ..) -/
def raiseS (x : Str) (n : Nat) (dfl : List D) (l : Fs) (ms : M (List D)) : MS := withE ms fun ds E S => if ds.length = n ∧ n ≤ 1000 then .ex x (fsD l (ds ++ dfl) []) E S else .bad
theorem raise_go {En : Ent} {F : Hp} {R : List Addr} {E : Ev} {S : Store} {σ : L2.St} {H : Hp} {D : Ends} {W : WX} {ds : List Hm.D} {vs dvs : List V} (rel : Rel G.K En F R E S σ H) (rs : Reps G.K F R ds vs) (hr : ∀ F R, Reps G.K F R dfl dvs)
    (q : PostS G.K En F R D W (if ds.length = n ∧ n ≤ 1000 then RS.ex x (fsD l (ds ++ dfl) []) E S else .bad)) : tMkX (He.ga G.K x) l n dvs vs H fun cls d H' => W cls d σ H' := by
  split at q
  · rename_i hz
    refine ⟨by rw [← rs.length]; exact hz.1, hz.2, fun a dx _ h2 _ => ?_⟩
    exact q F R σ _ dx _ Le.refl (rel.laid h2) upd_same (fs_rep (rs.append (hr F R)) l .nil)
  · exact q.elim
theorem ds_raise (mk : XMk G x n dfl l) (ha : DA G k N sc (e :: es) ms) (hj : 2 ≤ k := by omega) (hg : sc.names.lookup x = some .globalImplicit := by rfl) (hdb : (x == ("__debug__" : Str)) = false := by decide)
    (he : ∀ env, starEach (e :: es) env = (false, eval e env) :: starEach es env := by intro _; rfl) (hpl : ∀ env, (backTo pos (starEach es env)).any (·.1) = false := by intro _; rfl) :
    DS G k N sc (.Raise (some (.Call (.Name x p) (e :: es) [] pos)) none pos2) (raiseS x n dfl l ms) :=
  ⟨fun X W c tk => by
    obtain ⟨dvs, hr, pm⟩ := pmk_x (p := p) (pos := pos) c.e mk hj (ha.run X W c.e tk) hg hdb he hpl
    refine ps_imp (ps_raise c.e.ccalm tk pm) fun D σ H h => ?_
    obtain ⟨En, F, R, E, S, rel, h⟩ := h
    exact withA_then rel h fun F1 R1 H1 ds vs S1 le rel1 rs q => raise_go rel1 rs hr q⟩
theorem ds_raise0 (mk : XMk G x n dfl l) (hj : 2 ≤ k := by omega) (hg : sc.names.lookup x = some .globalImplicit := by rfl) (hdb : (x == ("__debug__" : Str)) = false := by decide) :
    DS G k N sc (.Raise (some (.Call (.Name x p) [] [] pos)) none pos2) (raiseS x n dfl l mNil) :=
  ⟨fun X W c tk => by
    obtain ⟨dvs, hr, pm⟩ := pmk_x0 (p := p) (pos := pos) c.e mk hj hg hdb
    refine ps_imp (ps_raise c.e.ccalm tk pm) fun D σ H h => ?_
    obtain ⟨En, F, R, E, S, rel, h⟩ := h
    exact raise_go rel .nil hr h⟩

/-! ### C(e, ..).f -/
theorem pe_mkf {X : Cx} {f : Str} {t : L2.St → Hp → XK → Prop} (hm : PMk X e t) (hb : attributeBase e f X.env (eval e X.env) = eval e X.env) :
    PE X (.Attribute e f pos) (fun σ H Q => t σ H fun cls d H1 => ∃ (C dd : Addr) (fs : List (Str × V)) (v : V), cls = .ref C ∧ XfC X.K C ∧ PySem.W.findIn X.K (.ref C) f = some none ∧ d = some dd ∧ H1 dd = some (.xd fs) ∧ fs.lookup f = some v ∧ Q v H1) := by
  refine ⟨fun pins s σ H Q I h => ?_⟩
  refine attr_of hb (wpAny_mono (hm pins s σ H _ I h) (fun u s1 hu => ?_) fun _ _ z => z)
  obtain ⟨a, oe, vs, sI, H1, cls, d, rfl, J, kp, hne, ha, hz, hd, h1, na, os, ag, r, C, dd, fs, v, rfl, T, hno, rfl, hdd, lk, q⟩ := hu
  have hx : ObjOk X.prog X.w H1 sI.heap dd (.xd fs) := J.hok dd _ hdd
  obtain ⟨mA, hns, hr⟩ := hx
  obtain ⟨od, ho, hl⟩ := lookIn_ns hns
  obtain ⟨u, hu, ru⟩ := RelO.some_of (v := v) (o := mA f) (by rw [← lk]; exact hr f)
  have ia : PySem.W.InstAt s1.heap a oe C (some od) := ⟨ha, hz.1, by unfold PySem.W.notCls; rw [hd] <;> rfl, by rw [hz.2]; exact kp _ _ ho⟩
  have J2 : Inv X pins σ H1 s1 := by
    have z := J.call (ch := []) (h' := s1.heap) (g' := s1.gens) (t' := s1.toks) (d' := s1.drawn) (H' := H1) (Un.kept kp) (J.hok.kept kp) ag (fun _ z => nomatch z)
    obtain ⟨a1, a2, a3, a4, a5⟩ := s1
    have e5 : a5 = sI.os := os
    subst e5
    exact z
  exact HandSPX.exc_get J2.kIn ia T.ga T.gg T.exC (PySem.W.findObj_own T.hdC hno rfl (by rw [hl, hu])) (handed_of ru) ⟨v, H1, J2.tok _, ru, q⟩
def mMkF (n : Nat) (dfl : List D) (l : Fs) (f : Str) (ms : M (List D)) : M DV := bnd ms fun ds _ S => if ds.length = n ∧ n ≤ 1000 then (match (fsD l (ds ++ dfl) []).lookup f with
  | some d => fine d S
  | none => .bad) else .bad
theorem repF_lookup {K : PySem.W.Frag} {F : Hp} {R : List Addr} {f : Str} {d : D} : ∀ {ds : List (Str × D)} {vs : List (Str × V)}, RepF K F R ds vs → ds.lookup f = some d → ∃ v, vs.lookup f = some v ∧ Rep K F R d v
  | _, _, .nil, e => by cases e
  | _, _, .cons (k := g) r t, e => by
    rw [List.lookup_cons] at e ⊢
    cases h : f == g with
    | true => rw [h] at e; cases e; exact ⟨_, rfl, r⟩
    | false => rw [h] at e; exact repF_lookup t e
theorem mkf_go {f : Str} {En : Ent} {F : Hp} {R : List Addr} {E : Ev} {S : Store} {σ : L2.St} {H : Hp} {W : WX} {Q : VK} {ds : List Hm.D} {vs dvs : List V} (rel : Rel G.K En F R E S σ H) (rs : Reps G.K F R ds vs) (hr : ∀ F R, Reps G.K F R dfl dvs)
    (T : XfC G.K (He.ga G.K x)) (hno : PySem.W.findIn G.K (.ref (He.ga G.K x)) f = some none)
    (q : Post G.K En F R E σ W Q (if ds.length = n ∧ n ≤ 1000 then (match (fsD l (ds ++ dfl) []).lookup f with
  | some d => fine d S
  | none => .bad) else .bad)) : tMkX (He.ga G.K x) l n dvs vs H fun cls d H1 => ∃ (C dd : Addr) (fs : List (Str × V)) (v : V), cls = .ref C ∧ XfC G.K C ∧ PySem.W.findIn G.K (.ref C) f = some none ∧ d = some dd ∧ H1 dd = some (.xd fs) ∧ fs.lookup f = some v ∧ Q v H1 := by
  split at q
  · rename_i hz
    refine ⟨by rw [← rs.length]; exact hz.1, hz.2, fun a dx _ h2 _ => ?_⟩
    split at q
    · rename_i d e
      obtain ⟨v, hv, rv⟩ := repF_lookup (fs_rep (rs.append (hr F R)) l .nil) e
      exact ⟨_, dx, _, v, rfl, T, hno, rfl, upd_same, hv, q F R _ Le.refl (rel.laid h2) v rv⟩
    · exact q.elim
  · exact q.elim
theorem de_mkF {f : Str} {pa : Pos} (mk : XMk G x n dfl l) (hno : PySem.W.findIn G.K (.ref (He.ga G.K x)) f = some none) (ha : DA G k N sc (e :: es) ms) (hj : 2 ≤ k := by omega) (hg : sc.names.lookup x = some .globalImplicit := by rfl) (hdb : (x == ("__debug__" : Str)) = false := by decide)
    (he : ∀ env, starEach (e :: es) env = (false, eval e env) :: starEach es env := by intro _; rfl) (hpl : ∀ env, (backTo pos (starEach es env)).any (·.1) = false := by intro _; rfl)
    (hb : ∀ env, attributeBase (.Call (.Name x p) (e :: es) [] pos) f env (eval (.Call (.Name x p) (e :: es) [] pos) env) = eval (.Call (.Name x p) (e :: es) [] pos) env := by intro _; rfl) :
    DE G k N sc (.Attribute (.Call (.Name x p) (e :: es) [] pos) f pa) (mMkF n dfl l f ms) :=
  ⟨fun X W c tk => by
    obtain ⟨dvs, hr, pm⟩ := pmk_x (p := p) (pos := pos) c mk hj (ha.run X W c tk) hg hdb he hpl
    obtain ⟨b, _, _, _, _, _, T, _⟩ := mk.ex
    refine pe_imp (pe_mkf pm (hb _)) fun σ H Q h => ?_
    obtain ⟨En, F, R, E, S, rel, h⟩ := h
    rw [c.cK]
    exact tA_then rel h fun F1 R1 H1 ds vs S1 le rel1 rs q => mkf_go rel1 rs hr T.xf hno q⟩
theorem de_mkF0 {f : Str} {pa : Pos} (mk : XMk G x n dfl l) (hno : PySem.W.findIn G.K (.ref (He.ga G.K x)) f = some none) (hj : 2 ≤ k := by omega) (hg : sc.names.lookup x = some .globalImplicit := by rfl) (hdb : (x == ("__debug__" : Str)) = false := by decide)
    (hb : ∀ env, attributeBase (.Call (.Name x p) [] [] pos) f env (eval (.Call (.Name x p) [] [] pos) env) = eval (.Call (.Name x p) [] [] pos) env := by intro _; rfl) :
    DE G k N sc (.Attribute (.Call (.Name x p) [] [] pos) f pa) (mMkF n dfl l f mNil) :=
  ⟨fun X W c tk => by
    obtain ⟨dvs, hr, pm⟩ := pmk_x0 (p := p) (pos := pos) c mk hj hg hdb
    obtain ⟨b, _, _, _, _, _, T, _⟩ := mk.ex
    refine pe_imp (pe_mkf pm (hb _)) fun σ H Q h => ?_
    obtain ⟨En, F, R, E, S, rel, h⟩ := h
    rw [c.cK]
    exact mkf_go rel .nil hr T.xf hno h⟩
end

/-! ### try: .. except C as n: .. -/
/-- the classes of the program that may fly, what they are below, the fields that are read -/
structure XTab (G : Gs) (cs : List Str) (sub : Str → Str → Bool) (ks fs : List Str) : Prop where
  mg : ∀ k ∈ ks, G.mg k = some (.ref (He.ga G.K k))
  xf : ∀ c ∈ cs, XfC G.K (He.ga G.K c)
  no : ∀ c ∈ cs, ∀ f ∈ fs, PySem.W.findIn G.K (.ref (He.ga G.K c)) f = some none
  em : ∀ c ∈ cs, ∀ k ∈ ks, PySem.W.exmOne G.K (.ref (He.ga G.K c)) (.ref (He.ga G.K k)) = some (sub c k)
/-- a suite: c the exception's class, fs its fields -/
abbrev MH := Str → List (Str × D) → MS
def tH (K : PySem.W.Frag) (cs : List Str) (i : Nat) (m : MH) (a : Addr) (cls : Value) (d : Option Addr) : TS := fun D σ H => ∃ (En : Ent) (F : Hp) (R : List Addr) (E : Ev) (S : Store) (c : Str) (fs : List (Str × Hm.D)) (dd : Addr) (vfs : List (Str × V)),
  cls = .ref (He.ga K c) ∧ c ∈ cs ∧ d = some dd ∧ H dd = some (.xd vfs) ∧ RepF K F R fs vfs ∧ σ[i]? = some (some (.ref a)) ∧ Rel K En F R E S σ H ∧ PostS K En F R D noX (m c fs E S)
structure DH (G : Gs) (k : Nat) (N : List Str) (sc : Scope) (cs : List Str) (i : Nat) (suite : List Stmt) (m : MH) : Prop where
  run : ∀ (X : Cx), CtxS G k N sc X → ∀ (a : Addr) (oe : Obj) (cls : Value) (d : Option Addr) (pn : List (Addr × Obj)), Zc cls d oe → (∃ vs, oe.data = .fields vs) → PSs (X.suite a ((a, oe) :: pn)) suite (tH G.K cs i m a cls d)
def wipeS (i : Nat) : RS → RS
  | .nx E S => .nx (E.set i none) S
  | .bk E S => .bk (E.set i none) S
  | .ct E S => .ct (E.set i none) S
  | r => r
def tryS (cs : List Str) (sub : Str → Str → Bool) (k : Str) (i : Nat) (mb : MS) (mh : MH) : MS := fun E S => match mb E S with
  | .ex c fs E1 S1 => if c ∈ cs ∧ i < E1.length then (if sub c k = true then wipeS i (mh c fs (E1.set i none) S1) else .ex c fs E1 S1) else .bad
  | r => r
section
variable {K : PySem.W.Frag} {En : Ent} {F : Hp} {R : List Addr} {E : Ev} {S : Store} {σ : L2.St} {H : Hp} {D : Ends} {W : WX}
/-- a slot is let go -/
theorem Rel.unslot (r : Rel K En F R E S σ H) (i : Nat) (v : Option V) : Rel K En F R (E.set i none) S (σ.set i v) H := by
  have hj : ∀ {j : Nat} {x : DV}, (E.set i none)[j]? = some (some x) → j ≠ i ∧ E[j]? = some (some x) ∧ (σ.set i v)[j]? = σ[j]? := fun {j x} q => by
    by_cases h : j = i
    · subst h
      by_cases hl : j < E.length
      · rw [List.getElem?_set_self hl] at q; cases q
      · rw [List.getElem?_eq_none (by simpa using hl)] at q; cases q
    · rw [List.getElem?_set_ne (Ne.symm h)] at q
      exact ⟨h, q, List.getElem?_set_ne (Ne.symm h)⟩
  refine ⟨r.len, r.frz, r.nodup, r.cell, fun j x q => ?_, fun j1 j2 x y a q1 q2 o1 o2 s1 s2 => ?_, r.keep, r.nf, r.nr, by rw [List.length_set, List.length_set]; exact r.elen⟩
  · obtain ⟨_, h2, h3⟩ := hj q
    rw [h3]; exact r.slot j x h2
  · obtain ⟨_, h2, h3⟩ := hj q1
    obtain ⟨_, g2, g3⟩ := hj q2
    rw [h3] at s1
    rw [g3] at s2
    exact r.apart j1 j2 x y a h2 g2 o1 o2 s1 s2
theorem post_wipe {i : Nat} : ∀ {r : RS}, PostS K En F R D noX (wipeS i r) → PostS K En F R { nx := fun σ' H' => D.nx (σ'.set i none) H', rt := D.rt, bk := fun σ' H' => D.bk (σ'.set i none) H', ct := fun σ' H' => D.ct (σ'.set i none) H' } noX r
  | .nx E S, h => fun F1 R1 σ1 H1 le r => h F1 R1 _ H1 le (r.unslot i none)
  | .rt dv S, h => h
  | .bk E S, h => fun F1 R1 σ1 H1 le r => h F1 R1 _ H1 le (r.unslot i none)
  | .ct E S, h => fun F1 R1 σ1 H1 le r => h F1 R1 _ H1 le (r.unslot i none)
  | .ex c fs E S, h => h
  | .bad, h => h
end
section
variable {G : Gs} {k : Nat} {N : List Str} {sc : Scope} {cs ks fz : List Str} {sub : Str → Str → Bool} {x n : Str} {body suite : List Stmt} {b₀ : Stmt} {mb : MS} {mh : MH} {np pos' pos : Pos}
/-- except suites that let nothing out -/
def noEx : RS → Prop
  | .ex _ _ _ _ => False
  | _ => True
theorem post_noX {K : PySem.W.Frag} {En : Ent} {F : Hp} {R : List Addr} {D : Ends} {W : WX} : ∀ {r : RS}, noEx r → PostS K En F R D W r → PostS K En F R D noX r
  | .nx _ _, _, h => h
  | .rt _ _, _, h => h
  | .bk _ _, _, h => h
  | .ct _ _, _, h => h
  | .ex _ _ _ _, z, _ => z.elim
  | .bad, _, h => h
theorem noEx_wipe {i : Nat} : ∀ {r : RS}, noEx r → noEx (wipeS i r)
  | .nx _ _, _ => trivial
  | .rt _ _, _ => trivial
  | .bk _ _, _ => trivial
  | .ct _ _, _ => trivial
  | .ex _ _ _ _, z => z.elim
  | .bad, _ => trivial
theorem ds_tryAs (T : XTab G cs sub ks fz) (i : Nat) (hb : DSs G k N sc body mb) (hh : DH G k N sc cs i (b₀ :: suite) mh) (hno : ∀ c fs E S, noEx (mh c fs E S)) (hx : x ∈ ks := by simp) (hN : N[i]? = some n := by rfl) (hln : sc.names.lookup n = some .local := by rfl) (hg : sc.names.lookup x = some .globalImplicit := by rfl)
    (hdb : (x == ("__debug__" : Str)) = false := by decide) : DS G k N sc (.Try body [.ExceptHandler (some (.Name x np)) (some n) (b₀ :: suite) pos'] [] [] pos) (tryS cs sub x i mb mh) :=
  ⟨fun X W c tk => by
    have eK := c.e.cK
    refine ps_imp (ps_try_as (i := i) (tb := fun W => tS G.K mb W) c.stk c.fr (by rw [c.e.cN]; exact c.e.cnd) (by rw [c.e.cN]; exact hN) (by rw [← c.e.csc] at hln; exact hln) (c := .ref (He.ga G.K x)) ⟨gl_of c.e hg, hdb, .inl (by rw [c.e.cmg]; exact T.mg x hx)⟩ tk
      (fun W pn xe tk' ps => hb.run _ W ⟨⟨c.e.cP, c.e.cw, c.e.cK, c.e.cmg, c.e.cbase, c.e.cN, c.e.csc, c.e.cnd, c.e.ccalm, c.e.croom⟩, c.stk, c.fr, c.exn, c.cfn, ps⟩ tk')
      (fun a oe cls d pn hz hf => hh.run X c a oe cls d pn hz hf)) fun D σ H h => ?_
    obtain ⟨En, F, R, E, S, rel, h⟩ := h
    refine ⟨En, F, R, E, S, rel, ?_⟩
    unfold tryS at h
    cases q : mb E S with
    | nx E1 S1 => rw [q] at h; exact h
    | rt dv S1 => rw [q] at h; exact h
    | bk E1 S1 => rw [q] at h; exact h
    | ct E1 S1 => rw [q] at h; exact h
    | bad => rw [q] at h; exact h
    | ex cl fs E1 S1 =>
      rw [q] at h
      dsimp only at h
      split at h
      · rename_i hc
        intro F1 R1 σ1 H1 d vfs le r1 hd rf
        refine ⟨sub cl x, by rw [eK]; exact T.em cl hc.1 x hx, fun hy a na => ?_, fun hy => ?_⟩
        · rw [if_pos hy] at h
          have h2 := post_wipe (post_noX (noEx_wipe (hno _ _ _ _)) h)
          have hl : i < σ1.length := by rw [← r1.elen]; exact hc.2
          exact ⟨En, F1, R1, _, S1, cl, fs, d, vfs, rfl, hc.1, rfl, hd, rf, List.getElem?_set_self hl, r1.unslot i _, h2.mono le⟩
        · rw [if_neg (by rw [hy]; exact Bool.false_ne_true)] at h
          exact h F1 R1 σ1 H1 d vfs le r1 hd rf
      · exact h.elim⟩
/-- y = n.f in a suite -/
def fldH (j : Nat) (f : Str) : MH := fun _ fs E S => match fs.lookup f with
  | some d => .nx (E.set j (some (.val d))) S
  | none => .bad
theorem fldH_no {j : Nat} {f : Str} : ∀ c fs E S, noEx (fldH j f c fs E S) := fun c fs E S => by
  unfold fldH
  split <;> exact trivial
theorem dh_fld {y : Str} {p1 p2 p3 : Pos} {i : Nat} {f : Str} (T : XTab G cs sub ks fz) (j : Nat) (hf : f ∈ fz := by simp) (hN : N[j]? = some y := by rfl) (hx : Loc sc y := by first | exact .inl rfl | exact .inr rfl) (hNi : N[i]? = some n := by rfl)
    (hv : Vis sc n := by first | exact Or.inl rfl | exact Or.inr (Or.inl rfl) | exact Or.inr (Or.inr rfl)) (hd : (n == ("__debug__" : Str)) = false := by decide) (hcd : (n == ("__classdict__" : Str)) = false := by decide)
    (hs : ∀ env, swapsWith (.Attribute (.Name n p2) f p3) (some (.Name y p1)) pos.line env = pure false := by intro _; rfl) (hb : ∀ env, attributeBase (.Name n p2) f env (eval (.Name n p2) env) = eval (.Name n p2) env := by intro _; rfl) :
    DH G k N sc cs i [.Assign [.Name y p1] (.Attribute (.Name n p2) f p3) pos] (fldH j f) :=
  ⟨fun X c a oe cls d pn hz hfl => ⟨fun pins s σ H D I h => by
    obtain ⟨En, F, R, E, S, cl, fs, dd, vfs, rfl, hc, rfl, hd', rf, hσ, rel, q⟩ := h
    have eK := c.e.cK
    have T1 : XfC X.K (He.ga G.K cl) := by rw [eK]; exact T.xf cl hc
    have no : PySem.W.findIn X.K (.ref (He.ga G.K cl)) f = some none := by rw [eK]; exact T.no cl hc f hf
    unfold fldH at q
    split at q
    · rename_i z e
      obtain ⟨v, hv', rv⟩ := repF_lookup rf e
      have pv : PE (X.suite a ((a, oe) :: pn)) (.Name n p2) (tVar i) := pe_var (i := i) (by rw [← c.e.cN] at hNi; exact hNi) (by rw [← c.e.csc] at hv; exact hv) hd hcd
      have ps := ps_set (X := X.suite a ((a, oe) :: pn)) (i := j) (x := y) (pos' := p1) (pos := pos) (by rw [← c.e.cN] at *; exact c.e.cN ▸ c.e.cnd) (by rw [← c.e.cN] at hN; exact hN) (by rw [← c.e.csc] at hx; exact hx) (pe_xf (pos := p3) T1 no hz hfl pv (hb _)) (hs _) (.inl (c.cfn y))
      refine (pss_one ps).run pins s σ H D I ?_
      exact ⟨.ref a, hσ, rfl, rfl, dd, vfs, v, rfl, hd', hv', q F R _ H Le.refl (rel.store (dv := .val z) rv j)⟩
    · exact q.elim⟩⟩
end
end Hm
set_option Elab.async false
set_option linter.all false
set_option maxRecDepth 100000
set_option maxHeartbeats 2000000
namespace Hm
open PySem PySem.Spec L2 PyProof.Rows

/-! ### {k: v, ..} -/
def mergeD (kvs more : List (Key × D)) : List (Key × D) := more.foldl (fun acc kv => putD acc kv.1 kv.2) kvs
theorem repK_merge {K : PySem.W.Frag} {F : Hp} {R : List Addr} : ∀ {more : List (Key × D)} {ms : List (Key × V)} {kvs : List (Key × D)} {ks : List (Key × V)}, RepK K F R more ms → RepK K F R kvs ks → RepK K F R (mergeD kvs more) (mergeK ks ms)
  | _, _, _, _, .nil, h => h
  | _, _, kvs, ks, .cons (k := k) (d := d) (v := v) (ds := ds) (vs := vs) r t, h => (show RepK K F R (mergeD (putD kvs k d) ds) (mergeK (putK ks k v) vs) from repK_merge t (repK_put r h))
def pairsM : List (Key × M DV) → M (List (Key × D))
  | [] => fun _ S => .ok [] S
  | (k, m) :: r => bnd m fun x => bnd (pairsM r) fun xs _ S => .ok ((k, x.frz) :: xs) S
def mDct (ps : List (Key × M DV)) : M DV := fun E S => match pairsM ps (E.map valOnly) S with
  | .ok kvs S' => if kvs.length ≤ 15 then .ok (.od (mergeD [] kvs)) S' else .bad
  | _ => .bad
section
variable {G : Gs} {k : Nat} {N : List Str} {sc : Scope} {pos : Pos}
/-- the pairs' reading -/
def tPs (K : PySem.W.Frag) (ps : List (Key × M DV)) (W : WX) (σ : L2.St) (H : Hp) (Q : List (V × V) → Hp → Prop) : Prop := ∃ (En : Ent) (F : Hp) (R : List Addr) (E : Ev) (S : Store), Rel K En F R E S σ H ∧
  PostX K En F R E σ W (fun F' R' H' kvs _ => ∀ vks, RepK K F' R' kvs vks → Q (vks.map fun kv => (kV kv.1, kv.2)) H') (pairsM ps E S)
structure DPs (G : Gs) (k : Nat) (N : List Str) (sc : Scope) (pos : Pos) (keys : List (Option Expr)) (vals : List Expr) (ps : List (Key × M DV)) : Prop where
  run : ∀ (X : Cx) (W : WX), CtxE G k N sc X → Takes X W → ∃ trs, PPs X pos keys vals trs ∧ ∀ σ H Q, tPs G.K ps W σ H Q → tPairs trs σ H Q
theorem dps_nil : DPs G k N sc pos [] [] [] := ⟨fun X W c tk => ⟨[], pps_nil, fun σ H Q h => by
  obtain ⟨En, F, R, E, S, rel, h⟩ := h
  exact h F R H Le.refl rel [] .nil⟩⟩
theorem dps_txt {z : Str} {j : Nat} {p : Pos} {v : Expr} {m : M DV} {ks : List (Option Expr)} {vs : List Expr} {ps : List (Key × M DV)} (hv : DE G k N sc v m) (hr : DPs G k N sc pos ks vs ps) : DPs G k N sc pos (some (.Constant (.str z) j p) :: ks) (v :: vs) ((.inr z, m) :: ps) :=
  ⟨fun X W c tk => by
    obtain ⟨trs, pp, h⟩ := hr.run X W c tk
    refine ⟨_, pps_cons pe_str (hv.run X W c tk) pp, fun σ H Q q => ?_⟩
    obtain ⟨En, F, R, E, S, rel, q⟩ := q
    refine tD_then rel q fun F1 R1 H1 x v S1 le rel1 rp q1 => ?_
    refine h σ H1 _ ⟨En, F1, R1, E, S1, rel1, (post_bnd q1).imp fun F2 R2 H2 xs S2 le2 rel2 q2 vks rk => ?_⟩
    exact q2 F2 R2 H2 Le.refl rel2 ((.inr z, v) :: vks) (.cons (rp.mono le2 _ _) rk)⟩
theorem de_dct {keys : List (Option Expr)} {vals : List Expr} {ps : List (Key × M DV)} (h : DPs G k N sc pos keys vals ps) (hall : keys.all (·.isSome) = true := by rfl) (hl : keys.length = vals.length := by rfl) (h0 : keys ≠ [] := by intro z; cases z) (h15 : keys.length ≤ 15 := by decide) :
    DE G k N sc (.Dict keys vals pos) (mDct ps) :=
  ⟨fun X W c tk => by
    obtain ⟨trs, pp, hp⟩ := h.run X W c tk
    refine pe_imp (pe_disp pp hall hl h0 h15) fun σ H Q q => ?_
    obtain ⟨En, F, R, E, S, rel, q⟩ := q
    intro p new
    obtain ⟨n1, n2, n3, n4⟩ := rel.fresh new
    have rL := rel.laid (o := .dK []) new
    have rB := rL.block []
    refine hp _ _ _ ⟨_, F, R, _, S, rB, ?_⟩
    have ei : innerE [] E = E.map valOnly := rfl
    rw [ei]
    unfold mDct at q
    cases e : pairsM ps (E.map valOnly) S with
    | bad => rw [e] at q; exact q.elim
    | ex c fs S1 => rw [e] at q; exact q.elim
    | ok kvs S1 =>
      rw [e] at q
      dsimp only at q
      split at q
      · rename_i hz
        intro F1 R1 H1 le r1 vks rk
        have a1 : F1 p = none := r1.nf p _ upd_same n1
        have a2 : p ∉ R1 := fun m => n2 (r1.nr p _ upd_same m)
        have a0 : H1 p = some (.dK []) := r1.keep p _ upd_same a2 a1
        have r2 := rL.leave le r1
        refine ⟨a0, vks, rfl, by rw [← rk.length]; exact hz, ?_⟩
        exact q F1 R1 _ le (r2.poke a1 a2 n3 n4) (.ref p) ⟨p, rfl, ⟨_, upd_same, repK_merge rk .nil⟩, a1, a2, n3, n4⟩
      · exact q.elim⟩

/-! ### d.update({..}) -/
def rUpdate : V → List V → Hp → VK → Prop := fun x vs H Q => ∃ (d o : Addr) (kvs more : List (Key × V)), x = .ref d ∧ vs = [.ref o] ∧ d ≠ o ∧ H d = some (.dK kvs) ∧ H o = some (.dK more) ∧ kvs.length + more.length ≤ 1000 ∧ Q .non (upd H d (.dK (mergeK kvs more)))
theorem mt_update {X : Cx} : MtM X "dict.update" rUpdate := by
  intro pins s σ H x vs v us Q I rx rv h
  obtain ⟨d, o, kvs, more, rfl, rfl, ne, hd, ho, hz, q⟩ := h
  cases rx
  obtain ⟨u, rfl, ru⟩ := rv.one
  cases ru
  obtain ⟨z1, s1, vk, r1, d1⟩ := dk_of I.hok hd
  obtain ⟨z2, s2, vm, r2, d2⟩ := dk_of I.hok ho
  refine call_meetsIn PySem.F.slot_dict_update d1.typeIs PySem.F.entry_dict_update (PySem.F.args_dict_update_2 _ _) (meets_dict_update (mixKind X.prog X.w) d o ne s2)
    ⟨vk, vm, d1, d2, by rw [← r1.length, ← r2.length, sizeLine_eq]; omega, fun h' hm _ hs => ?_⟩
  have hl := length_mergeK more kvs
  have he : ∃ q, h'.get? d = some q := let ⟨q, _, _, hq, _⟩ := hm; ⟨q, hq⟩
  exact ⟨.non, _, d_write I (by rw [hd]; exact True.intro) hs he (dk_new (by rw [sizeLine_eq]; omega) s1 (r2.merge r1) hm), rfl, q⟩
def updS (mp : M Plc) (m : M DV) : MS := withE mp fun p E S => match plcK E S p with
  | none => .bad
  | some _ => withE m (fun dv E S => match dv, plcK E S p with
    | .od more, some kvs => if kvs.length + more.length ≤ 1000 then .nx (putE E (.od (mergeD kvs more)) p) (putS S (.dct (mergeD kvs more)) p) else .bad
    | _, _ => .bad) E S
theorem ds_update {o e : Expr} {mp : M Plc} {m : M DV} {apos cpos : Pos} (ho : DP G k N sc o mp) (he : DE G k N sc e m) (hs : ∀ env, swapsWith (.Call (.Attribute o "update" apos) [e] [] cpos) none pos.line env = pure false := by intro _; rfl)
    (hbase : ∀ env, attributeBase o "update" env (eval o env) = eval o env := by intro _; rfl) (hfew : ∀ env, ((backTo cpos (starEach [e] env)).all (fun x => !x.1) && (backToKw cpos (keywordEach [] env)).all (fun x => x.1.isSome)
      && decide ([e].length + ([] : List Keyword).length + (if ([] : List Keyword).isEmpty then 0 else 1) < 30)) = true := by intro _; rfl) (hline : (apos.endLine == cpos.line) = true := by rfl)
    (hst : ∀ env, starEach [e] env = (false, eval e env) :: starEach [] env := by intro _; rfl) (hpl : ∀ env, (backTo cpos (starEach [] env)).any (·.1) = false := by intro _; rfl) :
    DS G k N sc (.Expr (.Call (.Attribute o "update" apos) [e] [] cpos) pos) (updS mp m) :=
  ⟨fun X W c tk => ps_imp (ps_expr (pe_bm F.plainAttrs_dict F.slot_dict_update F.type_dict_update mt_update (ho.run X W c.e tk) (pa_cons (he.run X W c.e tk) pa_nil (hst _)) (hbase _) (hfew _) hline (hst _) (hpl _)) (hs _)) fun D σ H h => by
    obtain ⟨En, F, R, E, S, rel, h⟩ := h
    unfold tDrop tBM
    refine withP_then rel h fun F1 R1 H1 p a S1 le rel1 hp q => ?_
    cases e1 : plcK E S1 p with
    | none => rw [e1] at q; exact q.elim
    | some kvs0 =>
      rw [e1] at q
      dsimp only at q
      obtain ⟨vs0, h0, _⟩ := rel1.plcK hp e1
      refine ⟨.inr (.inr (.inl ⟨rfl, .inl ⟨_, h0⟩⟩)), ?_⟩
      refine withE_then rel1 q fun F2 R2 H2 dv v S2 le2 rel2 hv q2 => ?_
      cases dv with
      | val d => exact q2.elim
      | ol ds => exact q2.elim
      | od more =>
        obtain ⟨o, rfl, ⟨ms, hm, rm⟩, f1, f2, f3, f4⟩ := hv
        cases e2 : plcK E S2 p with
        | none => rw [e2] at q2; exact q2.elim
        | some kvs =>
          rw [e2] at q2
          dsimp only at q2
          have hp2 := hp.mono le2
          obtain ⟨vs2, h2, rs2, fin⟩ := rel2.plcK hp2 e2
          split at q2
          · rename_i hz
            refine ⟨a, o, vs2, ms, rfl, rfl, fun z => ?_, h2, hm, by rw [← rs2.length, ← rm.length]; exact hz, ?_⟩
            · subst z
              cases p with
              | sl i => exact f4 ⟨i, _, plcK_sl e2, rfl, hp2⟩
              | ce j => exact f2 (List.mem_of_getElem? hp2)
            · exact q2 F2 R2 σ _ Le.refl (fin _ _ (repK_merge rm rs2))
          · exact q2.elim⟩
end

/-! ### zip(a, b) of lists, tuples, texts -/
def ItP (g1 g2 : Hp → List V → Prop) : It :=
  ⟨fun i H => ∃ xs ys, g1 H xs ∧ g2 H ys ∧ i < xs.length ∧ i < ys.length, fun i H v H' => ∃ T x y, v = .ref T ∧ H T = none ∧ H' = upd H T (.tup [x, y]) ∧ (∀ xs, g1 H xs → xs[i]? = some x) ∧ ∀ ys, g2 H ys → ys[i]? = some y,
    fun i H => ∃ xs ys, g1 H xs ∧ g2 H ys ∧ i ≤ xs.length ∧ i ≤ ys.length ∧ (i = xs.length ∨ i = ys.length)⟩
theorem turn_zipP {P : Program} {w : World} {K : PySem.W.Frag} {elts : List Expr} {kk : Nat} {tpos : Pos} {z TI TO i1 i2 : Addr} {fp1 fp2 : List Addr} {g1 g2 : Hp → List V → Prop} {tn1 tn2 : Nat → Heap → Prop}
    (S : ZipSep2 z TI TO i1 i2 fp1 fp2) (A1 : Src P w K i1 fp1 g1 tn1) (A2 : Src P w K i2 fp2 g2 tn2) :
    Turn P w K (.Tuple elts kk tpos) (ItP g1 g2) [z, TI, TO, i1, i2] z (fun i h => IsZip h z TI TO .none ∧ IsTupOf2 h TI (.ref i1) (.ref i2) ∧ (∃ a b, IsTupOf2 h TO a b) ∧ tn1 i h ∧ tn2 i h) where
  mem := List.mem_cons_self
  obj := fun i h st b hb => by
    obtain ⟨hz, hTI, ⟨a, c, hTO⟩, s1, s2⟩ := st
    have e : b = z ∨ b = TI ∨ b = TO ∨ b = i1 ∨ b = i2 := by simpa using hb
    rcases e with rfl | rfl | rfl | rfl | rfl
    · exact ⟨_, hz, fun v q => nomatch q⟩
    · exact ⟨_, hTI, fun v q => nomatch q⟩
    · exact ⟨_, hTO, fun v q => nomatch q⟩
    · exact A1.there i h s1
    · exact A2.there i h s2
  keep := fun i h h' st k => by
    obtain ⟨hz, hTI, ⟨a, c, hTO⟩, s1, s2⟩ := st
    exact ⟨k z (by simp) _ hz, k TI (by simp) _ hTI, ⟨a, c, k TO (by simp) _ hTO⟩, A1.keep i h h' s1 fun o e => k i1 (by simp) o e, A2.keep i h h' s2 fun o e => k i2 (by simp) o e⟩
  item := by
    intro X hP hw hK hc i pins s σ H E I hf st hg
    subst hP hw hK
    obtain ⟨hz, hTI, ⟨a, c, hTO⟩, s1, s2⟩ := st
    obtain ⟨xs, ys, q1, q2, l1, l2⟩ := hg
    obtain ⟨P1, St1, D1, v1, u1, d1⟩ := A1.draws X pins s σ H xs rfl rfl rfl (I.ok.hd hc) I q1
    obtain ⟨P2, St2, D2, v2, u2, d2⟩ := A2.draws X pins s σ H ys rfl rfl rfl (I.ok.hd hc) I q2
    refine wpAny_pyNext_zipD2_item S D1 D2 hz hTI hTO (u1 i s1) (u2 i s2) l1 l2 fun x1 x2 h' tk p1 p2 z' t' n1 n2 new sz kp => ?_
    refine ⟨_, rfl, wpAny_letOwnedTupleGo_zip (s := { s with heap := h', toks := tk }) z' fun h2 z2 sb => ?_⟩
    obtain ⟨x, ex, rx⟩ := v1 i x1 p1
    obtain ⟨y, ey, ry⟩ := v2 i x2 p2
    have zl : z < s.heap.objs.size := Heap.lt_size hz
    have T2 : h2.get? s.heap.objs.size = some { cls := .type "tuple", data := .seq #[x1, x2] } := (sb.2 _ (Nat.ne_of_gt zl)).trans new
    have ob : ObjOk X.prog X.w (upd H s.heap.objs.size (.tup [x, y])) h2 s.heap.objs.size (.tup [x, y]) :=
      ⟨by show 2 ≤ sizeLine; decide, [x1, x2], .cons rx (.cons ry .nil), ⟨_, T2, rfl, _, rfl⟩⟩
    have lt : ∀ b ∈ [z, TI, TO, i1, i2], b < s.heap.objs.size := fun b hb => by
      have e : b = z ∨ b = TI ∨ b = TO ∨ b = i1 ∨ b = i2 := by simpa using hb
      rcases e with rfl | rfl | rfl | rfl | rfl
      · exact zl
      · exact Heap.lt_size hTI
      · exact Heap.lt_size hTO
      · obtain ⟨_, e, _⟩ := A1.there i _ s1; exact Heap.lt_size e
      · obtain ⟨_, e, _⟩ := A2.there i _ s2; exact Heap.lt_size e
    have I1 : Inv X pins σ (upd H s.heap.objs.size (.tup [x, y])) { s with heap := h2, toks := tk } :=
      I.turnedNew (ch := [z, TI, TO, i1, i2]) (fun b o hb e => (sb.2 b (fun q => hb (by simp [q]))).trans (kp b o (fun q => hb (by simp [q])) (fun q => hb (by simp [q])) (fun q => hb (by simp [q])) (fun q => hb (by simp [q])) e)) hf (Nat.le_refl _) ob
    refine ⟨.ref s.heap.objs.size, _, I1, rfl, ⟨_, x, y, rfl, I.hok.fresh (Nat.le_refl _), rfl, fun zs hz' => ?_, fun zs hz' => ?_⟩, ⟨z2, ?_, ⟨x1, x2, ?_⟩, ?_, ?_⟩, fun b hb => ?_⟩
    · rw [A1.inj X pins s σ H zs xs rfl I hz' q1]; exact ex
    · rw [A2.inj X pins s σ H zs ys rfl I hz' q2]; exact ey
    · exact (sb.2 _ S.TIz).trans (kp _ _ S.TIz S.TITO S.TIi1 S.TIi2 hTI)
    · exact (sb.2 _ S.TOz).trans t'
    · exact A1.keep _ _ _ (d1 _ _ n1) fun o e => (sb.2 _ S.zi1.symm).trans e
    · exact A2.keep _ _ _ (d2 _ _ n2) fun o e => (sb.2 _ S.zi2.symm).trans e
    · rw [upd_ne (Nat.ne_of_lt (lt b hb))]
      exact (hf b hb).1
  done := by
    intro X hP hw hK hc i pins s σ H E I hf st hg
    subst hP hw hK
    obtain ⟨hz, hTI, ⟨a, c, hTO⟩, s1, s2⟩ := st
    obtain ⟨xs, ys, q1, q2, l1, l2, l3⟩ := hg
    obtain ⟨P1, St1, D1, v1, u1, d1⟩ := A1.draws X pins s σ H xs rfl rfl rfl (I.ok.hd hc) I q1
    obtain ⟨P2, St2, D2, v2, u2, d2⟩ := A2.draws X pins s σ H ys rfl rfl rfl (I.ok.hd hc) I q2
    exact wpAny_pyNext_zipD2_end S D1 D2 hz hTI hTO (u1 _ s1) (u2 _ s2) l1 l2 l3 fun h' tk hk => ⟨rfl, I.turnedL (t' := tk) (ch := [z, TI, TO, i1, i2]) (fun b o hb q =>
      hk b o (fun q' => hb (by simp [q'])) (fun q' => hb (by simp [q'])) (fun q' => hb (by simp [q'])) (fun q' => hb (by simp [q'])) q) hf⟩
  self := fun A i s Q E st h => wpAny_pyIter_zip st.1 h
section
variable {K : PySem.W.Frag} {F : Hp} {R : List Addr} {ds es : List D} {vs us : List V}
theorem wd_zipP {g1 g2 : Hp → List V → Prop} (h1 : ∀ (En : Ent) (F2 : Hp) (R2 : List Addr) (E : Ev) (S : Store) (σ : L2.St) (H : Hp), Le F R F2 R2 → Rel K En F2 R2 E S σ H → g1 H vs) (h2 : ∀ (En : Ent) (F2 : Hp) (R2 : List Addr) (E : Ev) (S : Store) (σ : L2.St) (H : Hp), Le F R F2 R2 → Rel K En F2 R2 E S σ H → g2 H us)
    (rs : Reps K F R ds vs) (qs : Reps K F R es us) : WalkD K F R (ItP g1 g2) ⟨zipL ds es, none⟩ := by
  have hn : (zipL ds es).length = min ds.length es.length := zipL_length ds es
  have l1 := rs.length
  have l2 := qs.length
  refine wd_pair (n := min ds.length es.length) (xs := fun i => vs[i]?) (ys := fun i => us[i]?) (G := fun H => g1 H vs ∧ g2 H us) ⟨fun i H hi q => ⟨vs, us, q.1, q.2, by omega, by omega⟩, fun H q => ⟨vs, us, q.1, q.2, by omega, by omega, by omega⟩, fun i H x H' hi q y => ?_⟩ hn.symm (fun En F2 R2 E S σ H le r => ⟨h1 En F2 R2 E S σ H le r, h2 En F2 R2 E S σ H le r⟩) fun i x y e1 e2 => ?_
  · obtain ⟨T, x1, y1, rfl, hT, rfl, e1, e2⟩ := y
    exact ⟨T, x1, y1, rfl, hT, rfl, e1 vs q.1, e2 us q.2⟩
  · obtain ⟨d, e3, r1⟩ := rs.get e1
    obtain ⟨e, e4, r2⟩ := qs.get e2
    exact ⟨d, e, zipL_get ds es i d e e3 e4, r1, r2⟩
end
def mZp (ms : M (List D)) : M Wk := bnd ms fun ds _ S => match ds with
  | [a, b] => (match srcD S a, srcD S b with
    | some xs, some ys => .ok ⟨zipL xs ys, none⟩ S
    | _, _ => .bad)
  | _ => .bad
section
variable {G : Gs} {k : Nat} {N : List Str} {sc : Scope} {a b : Expr} {ms : M (List D)} {p pos tpos : Pos} {elts : List Expr} {kk : Nat}
theorem di_zipP (hm : G.mg "zip" = none) (ha : DA G k N sc [a, b] ms) (hg : sc.names.lookup ("zip" : Str) = some .globalImplicit := by rfl)
    (hs : ∀ env, starEach [a, b] env = (false, eval a env) :: starEach [b] env := by intro _; rfl) (hp : ∀ env, (backTo pos (starEach [a, b] env)).any (·.1) = false := by intro _; rfl)
    (hev : ∀ env, eval (.Call (.Name "zip" p) [a, b] [] pos) env = (do callWith pos (← eval (.Name "zip" p) env) [] (backTo pos (starEach [a, b] env)) (backToKw pos (keywordEach [] env))) := by intro _; rfl) :
    DI G k N sc (.Tuple elts kk tpos) (.Call (.Name "zip" p) [a, b] [] pos) (mZp ms) :=
  ⟨fun X W c tk => ⟨fun pins s σ H Q I h => by
    obtain ⟨En, F, R, E, S, rel, h⟩ := h
    rw [hev]
    refine wpAny_bind (ld_blt I (gl_of c hg) (by rw [c.cmg]; exact hm) PyProof.Rows.boot_zip ?_)
    let Wi : List V → Hp → Prop := fun vs H1 => ∃ F1 R1 S1 d e xs ys v w, vs = [v, w] ∧ Rel G.K En F1 R1 E S1 σ H1 ∧ Rep G.K F1 R1 d v ∧ Rep G.K F1 R1 e w ∧ srcD S1 d = some xs ∧ srcD S1 e = some ys ∧ Wis G.K En E σ Q F1 R1 ⟨zipL xs ys, none⟩ S1
    have w : tA G.K ms W σ H Wi := by
      refine tA_then rel h fun F1 R1 H1 ds vs S1 le rel1 rs q => ?_
      split at q
      · rename_i d e
        obtain ⟨v, w, rfl, r1, r2⟩ := reps2 rs
        split at q
        · rename_i xs ys e1 e2
          exact ⟨F1, R1, S1, d, e, xs, ys, v, w, rfl, rel1, r1, r2, e1, e2, q F1 R1 H1 Le.refl rel1⟩
        · exact q.elim
      · exact q.elim
    refine callWith_tyKw (kws := []) (thn ((ha.run X W c tk).run pos pins s σ H _ I w) fun us s1 ⟨vs, H1, I1, rvs, q1⟩ => thn (pk_nil.run pos pins s1 σ H1 (fun zs H2 => zs = [] ∧ Wi vs H2) I1 ⟨rfl, q1⟩) fun ws s2 ⟨zs, H2, I2, rz, ez, q2⟩ => ?_) (hs _) (hp _) rfl rfl
    subst ez
    obtain ⟨F1, R1, S1, d, e, xs, ys, v, w', rfl, rel1, r1, r2, e1, e2, wi⟩ := q2
    cases rz
    cases rvs with
      | cons ra rvs => cases rvs with
        | cons rb rvs =>
          cases rvs
          obtain ⟨g1, vs1, q1, h1, b1⟩ := src_at rel1 I2 c.cK r1 ra e1
          obtain ⟨g2, vs2, q2, h2, b2⟩ := src_at rel1 I2 c.cK r2 rb e2
          obtain ⟨o1, Hh1, fp1, tn1, B1, y1, A1, f1, z1⟩ := b1 s2.heap.objs.size (Nat.le_refl _)
          obtain ⟨o2, Hh2, fp2, tn2, B2, y2, A2, f2, z2⟩ := b2 (s2.heap.objs.size + 1) (Nat.le_succ _)
          refine zip_begins2 B1 B2 y1 y2 fun h' hz hTI hTO g1' g2' sz kp => wpAny_pyIter_zip hz ?_
          have I3 : Inv X pins σ H2 { s2 with heap := h' } := I2.kept (t' := s2.toks) kp
          refine ⟨s2.heap.objs.size + 4, [s2.heap.objs.size + 4, s2.heap.objs.size + 2, s2.heap.objs.size + 3, s2.heap.objs.size, s2.heap.objs.size + 1], _, ItP g1 g2, H2, rfl, I3, turn_zipP (zsep f1 A1.mem f2 A2.mem) (by rw [c.cK]; exact A1) (by rw [c.cK]; exact A2), ⟨hz, hTI, ⟨_, _, hTO⟩, z1 _ g1', z2 _ g2'⟩, fun b hb => ?_, wi.2 F1 H2 _ Le.refl rel1 (wd_zipP h1 h2 q1 q2)⟩
          have hle : s2.heap.objs.size ≤ b := by
            have e' : b = s2.heap.objs.size + 4 ∨ b = s2.heap.objs.size + 2 ∨ b = s2.heap.objs.size + 3 ∨ b = s2.heap.objs.size ∨ b = s2.heap.objs.size + 1 := by simpa using hb
            rcases e' with z | z | z | z | z <;> rw [z] <;> first | exact Nat.le_refl _ | exact Nat.le_add_right _ _
          exact I2.fpOk hle (I2.hok.fresh hle)⟩⟩
end
end Hm
set_option Elab.async false
set_option linter.all false
set_option maxRecDepth 100000
set_option maxHeartbeats 2000000
namespace Hm
open PySem PySem.Spec L2 PyProof.Rows

/-! ### the facts of an exception class, as one Bool -/
def xclB (K : PySem.W.Frag) (b : XB) (c : Str) (fs : List Str) : Bool := oxB K b (He.ga K c) && (decide (PySem.W.findIn K (.ref (He.ga K c)) "__init__" = some (some (.ref (He.ma K (He.ga K c) "__init__")))) &&
  (decide (PySem.W.typeIn K (.ref (He.ma K (He.ga K c) "__init__")) = some (.type "function")) && fs.all fun f => decide (PySem.W.takerIn K (He.ga K c) f = some none) && decide (PySem.W.findIn K (.ref (He.ga K c)) f = some none)))
structure XCl (K : PySem.W.Frag) (b : XB) (c : Str) (fs : List Str) : Prop where
  ox : OxC K b (He.ga K c)
  ini : PySem.W.findIn K (.ref (He.ga K c)) "__init__" = some (some (.ref (He.ma K (He.ga K c) "__init__")))
  tyI : PySem.W.typeIn K (.ref (He.ma K (He.ga K c) "__init__")) = some (.type "function")
  tk : ∀ f ∈ fs, PySem.W.takerIn K (He.ga K c) f = some none
  no : ∀ f ∈ fs, PySem.W.findIn K (.ref (He.ga K c)) f = some none
theorem xcl_of {K : PySem.W.Frag} {b : XB} {c : Str} {fs : List Str} (h : xclB K b c fs = true) : XCl K b c fs := by
  obtain ⟨h1, h⟩ := Bool.and_eq_true_iff.mp h
  obtain ⟨h2, h⟩ := Bool.and_eq_true_iff.mp h
  obtain ⟨h3, h4⟩ := Bool.and_eq_true_iff.mp h
  have h5 := List.all_eq_true.mp h4
  exact ⟨oxB_ok h1, of_decide_eq_true h2, of_decide_eq_true h3, fun f hf => of_decide_eq_true (Bool.and_eq_true_iff.mp (h5 f hf)).1, fun f hf => of_decide_eq_true (Bool.and_eq_true_iff.mp (h5 f hf)).2⟩
def emB (K : PySem.W.Frag) (cs ks : List Str) (sub : Str → Str → Bool) : Bool := cs.all fun c => ks.all fun k => decide (PySem.W.exmOne K (.ref (He.ga K c)) (.ref (He.ga K k)) = some (sub c k))
theorem em_of {K : PySem.W.Frag} {cs ks : List Str} {sub : Str → Str → Bool} (h : emB K cs ks sub = true) : ∀ c ∈ cs, ∀ k ∈ ks, PySem.W.exmOne K (.ref (He.ga K c)) (.ref (He.ga K k)) = some (sub c k) := fun c hc k hk =>
  of_decide_eq_true (List.all_eq_true.mp (List.all_eq_true.mp h c hc) k hk)
section
variable {G : Gs} {b : XB} {c qual : Str} {fs : List Str} {params : Arguments} {body : List Stmt} {sc : Scope} {N ps : List Str} {l : Fs} {dvs : List V}
theorem xmk_of {n : Nat} {dfl : List D} {vs : List V} {fd : FuncData} (hg : G.mg c = some (.ref (He.ga G.K c))) (h : XCl G.K b c fs) (Fn : FunD G.K "__init__" qual params body sc dvs [] (He.ma G.K (He.ga G.K c) "__init__") fd) (Sc : FnScope N ps sc) (hI : IniB N sc body l)
    (hb : ∃ ds, Vals vs ds ∧ Binds G.K fd ps ds) (hr : ∀ F R, Reps G.K F R dfl vs) (hn : 1 + n + vs.length = ps.length) (hf : (l.all fun p => decide (p.1 ∈ fs)) = true) (hlt : (l.all fun p => match p.2 with | .arg i => decide (i + 1 < ps.length) | .txt _ => true) = true) (hne : l ≠ []) (hlen : l.length ≤ 900)
    (h0 : N[0]? = some ("self" : Str)) (hv0 : Vis sc "self") : XMk G c n dfl l := by
  obtain ⟨ds, hd, hbb⟩ := hb
  refine ⟨hg, b, _, fd, ps, ds, vs, h.ox, h.ini, h.tyI, fn_ini Fn Sc h.ox hI (fun p hp => h.tk _ (of_decide_eq_true (List.all_eq_true.mp hf p hp))) hne (fun p hp i e => ?_) hlen h0 hv0, hbb, hd, hr, hn⟩
  have z := List.all_eq_true.mp hlt p hp
  rw [e] at z
  exact of_decide_eq_true z
end
end Hm
set_option Elab.async false
set_option linter.all false
set_option maxRecDepth 100000
set_option maxHeartbeats 4000000
namespace Hm
open PySem PySem.Spec L2
open Builtin Builtin.Str

/-! ### what the models come to, by simp -/
section
variable {S : Store} {E : Ev}
theorem vw_int {i : Int} : view S (.int i) = .int i := rfl
theorem vw_str {i : Str} : view S (.str i) = .str i := rfl
theorem vw_bl {i : Bool} : view S (.bl i) = .bl i := rfl
theorem vw_non : view S .non = .non := rfl
theorem vw_lst {i : List D} : view S (.lst i) = .lst i := rfl
theorem vw_tup {i : List D} : view S (.tup i) = .tup i := rfl
theorem vw_dct {i : List (Key × D)} : view S (.dct i) = .dct i := rfl
theorem small_of {n : Nat} (h : n ≤ 16777216) : small n = true := decide_eq_true (by rw [sizeLine_eq]; exact h)
theorem py_str {s : Str} (h : PyData.strOk s = true) : pyOf S (.str s) = some (.str s) := by
  show (if SeqAt.shaped (.str s) then some (PyData.str s) else none) = _
  have e : SeqAt.shaped (.str s) = true := by
    unfold SeqAt.shaped
    simp [PyData.canLay0, h, PyData.depth]
  rw [if_pos e]
theorem eq_ss {a b : Str} (ha : PyData.strOk a = true) (hb : PyData.strOk b = true) : eqD (.str a) (.str b) S = .ok (.val (.bl (decide (a = b)))) S := by
  unfold eqD
  rw [py_str ha, py_str hb]
  have e : PyData.eqv (.str a) (.str b) = decide (a = b) := by
    simp only [PyData.eqv]
    by_cases h : a = b
    · subst h; simp
    · rw [decide_eq_false h]; exact beq_eq_false_iff_ne.mpr h
  dsimp only
  rw [e]
  rfl
theorem ne_ss {a b : Str} (ha : PyData.strOk a = true) (hb : PyData.strOk b = true) : neD (.str a) (.str b) S = .ok (.val (.bl (!decide (a = b)))) S := by
  unfold neD
  rw [py_str ha, py_str hb]
  have e : PyData.eqv (.str a) (.str b) = decide (a = b) := by
    simp only [PyData.eqv]
    by_cases h : a = b
    · subst h; simp
    · rw [decide_eq_false h]; exact beq_eq_false_iff_ne.mpr h
  dsimp only
  rw [e]
  rfl
theorem eq_ii {i j : Int} : eqD (.int i) (.int j) S = .ok (.val (.bl (decide (i = j)))) S := eqD_int
theorem ne_ii {i j : Int} : neD (.int i) (.int j) S = .ok (.val (.bl (!decide (i = j)))) S := by
  show fine (.bl (!PyData.eqv (.int i) (.int j))) S = _
  have e : PyData.eqv (.int i) (.int j) = decide (i = j) := by
    simp only [PyData.eqv]
    rfl
  rw [e]
  rfl
theorem eq_bb {i j : Bool} : eqD (.bl i) (.bl j) S = .ok (.val (.bl (decide (i = j)))) S := by cases i <;> cases j <;> rfl
theorem ne_bb {i j : Bool} : neD (.bl i) (.bl j) S = .ok (.val (.bl (!decide (i = j)))) S := by cases i <;> cases j <;> rfl
theorem ix_str {s : Str} {i : Int} {c : Nat} (h : atI s.cps.toList i = some c) (hs : s.length ≤ 16777216) : ixD (.str s) (.int i) S = .ok (.val (.str ⟨#[c]⟩)) S := by
  show (match atI s.cps.toList i with
    | some c => if small s.length then fine (.str ⟨#[c]⟩) S else .bad
    | none => .bad) = _
  rw [h]
  dsimp only
  rw [if_pos (small_of hs)]
  rfl
theorem ix_lst {xs : List D} {i : Int} {z : D} (h : atI xs i = some z) : ixD (.lst xs) (.int i) S = .ok (.val z) S := by
  show (match atI xs i with
    | some z => fine z S
    | none => .bad) = _
  rw [h]
  rfl
theorem ix_tup {xs : List D} {i : Int} {z : D} (h : atI xs i = some z) : ixD (.tup xs) (.int i) S = .ok (.val z) S := by
  show (match atI xs i with
    | some z => fine z S
    | none => .bad) = _
  rw [h]
  rfl
theorem at_0 {α : Type} {x : α} {xs : List α} : atI (x :: xs) 0 = some x := by
  have e : ixN (x :: xs).length 0 = some 0 := by
    unfold ixN
    rw [if_pos (by omega), if_pos (by rw [List.length_cons]; omega)]
    rfl
  unfold atI
  rw [e]
  rfl
theorem at_1 {α : Type} {x y : α} {xs : List α} : atI (x :: y :: xs) 1 = some y := by
  have e : ixN (x :: y :: xs).length 1 = some 1 := by
    unfold ixN
    rw [if_pos (by omega), if_pos (by rw [List.length_cons, List.length_cons]; omega)]
    rfl
  unfold atI
  rw [e]
  rfl
theorem at_of {α : Type} {xs : List α} {n : Nat} {x : α} (h : xs[n]? = some x) : atI xs (n : Int) = some x := by
  have hl := (List.getElem?_eq_some_iff.mp h).1
  have e : ixN xs.length (n : Int) = some n := by
    unfold ixN
    rw [if_pos (by omega), if_pos (by omega)]
    rfl
  unfold atI
  rw [e]
  exact h
theorem ln_str {s : Str} (hs : s.length ≤ 16777216) : lenD [.str s] S = .ok (.val (.int (s.length : Nat))) S := by
  show (match (if small s.length then some s.length else none) with | some n => fine (.int n) S | none => .bad) = _
  rw [if_pos (small_of hs)]
  rfl
theorem ln_lst {xs : List D} : lenD [.lst xs] S = .ok (.val (.int (xs.length : Nat))) S := rfl
theorem ln_tup {xs : List D} : lenD [.tup xs] S = .ok (.val (.int (xs.length : Nat))) S := rfl
theorem sl_str {s : Str} {lo hi : Option Int} (hs : s.length ≤ 16777216) : slD (.str s) lo hi S = .ok (.val (.str (cutS s lo hi))) S := by
  show (if small s.length then fine (.str (cutS s lo hi)) S else .bad) = _
  rw [if_pos (small_of hs)]
  rfl
theorem sl_lst {xs : List D} {lo hi : Option Int} : slD (.lst xs) lo hi S = .ok (.ol (cutD xs lo hi)) S := rfl
theorem sl_tup {xs : List D} {lo hi : Option Int} : slD (.tup xs) lo hi S = .ok (.val (.tup (cutD xs lo hi))) S := rfl
theorem ixE_lst {xs : List D} {i : Int} : ixD (.lst xs) (.int i) S = (match atI xs i with
  | some z => .ok (.val z) S
  | none => .bad) := rfl
theorem ixE_tup {xs : List D} {i : Int} : ixD (.tup xs) (.int i) S = (match atI xs i with
  | some z => .ok (.val z) S
  | none => .bad) := rfl
theorem at_2 {α : Type} {x y z : α} {xs : List α} : atI (x :: y :: z :: xs) 2 = some z := at_of (n := 2) rfl
theorem at_3 {α : Type} {x y z a : α} {xs : List α} : atI (x :: y :: z :: a :: xs) 3 = some a := at_of (n := 3) rfl
theorem at_4 {α : Type} {x y z a b : α} {xs : List α} : atI (x :: y :: z :: a :: b :: xs) 4 = some b := at_of (n := 4) rfl
theorem sm_0 : small 0 = true := rfl
theorem sm_1 : small 1 = true := rfl
theorem sm_2 : small 2 = true := rfl
theorem sm_3 : small 3 = true := rfl
theorem sm_4 : small 4 = true := rfl
theorem sm_5 : small 5 = true := rfl
theorem sm_6 : small 6 = true := rfl
theorem sm_7 : small 7 = true := rfl
theorem sm_8 : small 8 = true := rfl
theorem sm_9 : small 9 = true := rfl
theorem sm_10 : small 10 = true := rfl
theorem sm_11 : small 11 = true := rfl
theorem sm_12 : small 12 = true := rfl
theorem sm_13 : small 13 = true := rfl
theorem sm_14 : small 14 = true := rfl
theorem sm_15 : small 15 = true := rfl
theorem sm_16 : small 16 = true := rfl
theorem gst_lst {x : D} {xs : List D} {gs : MGs} : gSt 2 1 gs (.lst (x :: xs)) E S = gs [x, .lst xs] E S := by
  have e : stD 2 1 (x :: xs) = [x, .lst xs] := by
    unfold stD
    rw [List.length_cons]
    simp
  show (if 1 < 2 ∧ 2 ≤ (x :: xs).length + 1 then gs (stD 2 1 (x :: xs)) E S else none) = _
  rw [if_pos ⟨by omega, by rw [List.length_cons]; omega⟩, e]
theorem gst_tup {x : D} {xs : List D} {gs : MGs} : gSt 2 1 gs (.tup (x :: xs)) E S = gs [x, .lst xs] E S := by
  have e : stD 2 1 (x :: xs) = [x, .lst xs] := by
    unfold stD
    rw [List.length_cons]
    simp
  show (if 1 < 2 ∧ 2 ≤ (x :: xs).length + 1 then gs (stD 2 1 (x :: xs)) E S else none) = _
  rw [if_pos ⟨by omega, by rw [List.length_cons]; omega⟩, e]
theorem inn_len {own : List (Str × Nat)} : (innerE own E).length = E.length := by
  unfold innerE
  rw [wipeE_length, List.length_map]
/-- [F(x) for x in a list of texts] -/
theorem lc_str {f : Str → D} {xs : List Str} {F : FD} (h : ∀ x ∈ xs, F [.str x] S = .ok (.val (f x)) S) (hl : xs.length ≤ 100000) {mi : M Wk} {k : Nat} {nm : Str} (hk : k < E.length) (h1 : mi E S = .ok ⟨xs.map .str, none⟩ S) :
    mLc mi (gN k) mYes (mCall F 1 (mCons (mVar k) mNil)) [(nm, k)] E S = .ok (.ol (xs.map f)) S := by
  have c := compL_fun (w := xs.map .str) (g := gN k) (t := mYes) (e := mCall F 1 (mCons (mVar k) mNil)) (E0 := innerE [(nm, k)] E) (S := S) (fun d => match d with | .str x => f x | _ => .non) (ds := xs.map .str) (acc := []) (fun d hd => by
    obtain ⟨x, hx, rfl⟩ := List.mem_map.mp hd
    refine ⟨_, .val (f x), rfl, rfl, ?_, rfl⟩
    have v : mVar k ((innerE [(nm, k)] E).set k (some (.val (.str x)))) S = .ok (.val (.str x)) S := by
      unfold mVar
      rw [List.getElem?_set_self (by rw [inn_len]; exact hk)]
    unfold mCall mCons mNil bnd
    simp only [v, DV.frz, List.length_cons, List.length_nil, Nat.zero_add, if_true]
    exact h x hx) (by rw [List.length_nil, List.length_map, sizeLine_eq]; omega)
  rw [List.nil_append, List.map_map] at c
  exact mLc_of h1 c
theorem ad_ss {a b : Str} (h : a.length + b.length ≤ 16777216) : addD (.str a) (.str b) S = .ok (.val (.str (a ++ b))) S := by
  show (if small (a.length + b.length) then fine (.str (a ++ b)) S else .bad) = _
  rw [if_pos (small_of h)]
  rfl
theorem ad_ll {a b : List D} (h : a.length + b.length ≤ 16777216) : addD (.lst a) (.lst b) S = .ok (.ol (a ++ b)) S := by
  show (if small (a.length + b.length) then Res.ok (DV.ol (a ++ b)) S else .bad) = _
  rw [if_pos (small_of h)]
theorem ad_tt {a b : List D} (h : a.length + b.length ≤ 16777216) : addD (.tup a) (.tup b) S = .ok (.val (.tup (a ++ b))) S := by
  show (if small (a.length + b.length) then fine (.tup (a ++ b)) S else .bad) = _
  rw [if_pos (small_of h)]
  rfl
theorem ad_ii {i j : Int} : addD (.int i) (.int j) S = .ok (.val (.int (i + j))) S := rfl
theorem sb_ii {i j : Int} : subD (.int i) (.int j) S = .ok (.val (.int (i - j))) S := rfl
theorem le_ii {i j : Int} : leD (.int i) (.int j) S = .ok (.val (.bl (decide (i ≤ j)))) S := rfl
theorem lt_ii {i j : Int} : ltD (.int i) (.int j) S = .ok (.val (.bl (decide (i < j)))) S := rfl
theorem gt_ii {i j : Int} : gtD (.int i) (.int j) S = .ok (.val (.bl (decide (j < i)))) S := rfl
theorem ge_ii {i j : Int} : geD (.int i) (.int j) S = .ok (.val (.bl (decide (j ≤ i)))) S := rfl
theorem ng_i {i : Int} : negD (.int i) S = .ok (.val (.int (-i))) S := rfl
theorem is_n {d : D} : isND d .non S = .ok (.val (.bl (isN d))) S := rfl
theorem nis_n {d : D} : notND d .non S = .ok (.val (.bl (!isN d))) S := rfl
theorem tr_bl {b : Bool} : truB S (.bl b) = some b := rfl
theorem tr_non : truB S .non = some false := rfl
theorem tr_int {i : Int} : truB S (.int i) = some (i != 0) := rfl
theorem tr_lst {xs : List D} : truB S (.lst xs) = some (!xs.isEmpty) := rfl
theorem tr_tup {xs : List D} : truB S (.tup xs) = some (!xs.isEmpty) := rfl
theorem tr_dct {xs : List (Key × D)} : truB S (.dct xs) = some (!xs.isEmpty) := rfl
theorem tr_str {s : Str} (hs : s.length ≤ 16777216) : truB S (.str s) = some ((s.length : Int) != 0) := by
  show (if small s.length then some ((s.length : Int) != 0) else none) = _
  rw [if_pos (small_of hs)]
theorem tp_lst {xs : List D} : tupD [.lst xs] S = .ok (.val (.tup xs)) S := rfl
theorem tp_tup {xs : List D} : tupD [.tup xs] S = .ok (.val (.tup xs)) S := rfl
theorem in_bl {b : Bool} : intD1 [.bl b] S = .ok (.val (.int (if b then 1 else 0))) S := rfl
end
/-! ### steps, applied -/
section
variable {S S1 S2 : Store} {E E1 : Ev} {x y : DV} {d e : D} {xs ds : List D} {c : Str} {fs : List (Str × D)} {k : Bool} {f g : F2}
def goS (r : RS) (b : MS) : RS := match r with
  | .nx E S => b E S
  | .rt x S => .rt x S
  | .bk E S => .bk E S
  | .ct E S => .ct E S
  | .ex c fs E S => .ex c fs E S
  | .bad => .bad
theorem goS_0 {b : MS} : goS (.nx E S) b = (b E S) := rfl
theorem goS_1 {b : MS} : goS (.rt x S) b = (.rt x S) := rfl
theorem goS_2 {b : MS} : goS (.bk E S) b = (.bk E S) := rfl
theorem goS_3 {b : MS} : goS (.ct E S) b = (.ct E S) := rfl
theorem goS_4 {b : MS} : goS (.ex c fs E S) b = (.ex c fs E S) := rfl
theorem goS_5 {b : MS} : goS (.bad) b = (.bad) := rfl
theorem x_seqS {a b : MS} : seqS a b E S = goS (a E S) b := by unfold seqS goS; cases a E S <;> rfl
def goSet (r : Res DV) (i : Nat) (E : Ev) : RS := match r with
  | .ok x S => .nx (E.set i (some x)) S
  | .ex c fs S1 => .ex c fs E S1
  | .bad => .bad
theorem goSet_0 {i : Nat} {E : Ev} : goSet (.ok x S) i E = (.nx (E.set i (some x)) S) := rfl
theorem goSet_1 {i : Nat} {E : Ev} : goSet (.ex c fs S1) i E = (.ex c fs E S1) := rfl
theorem goSet_2 {i : Nat} {E : Ev} : goSet (.bad) i E = (.bad) := rfl
theorem x_setS {i : Nat} {m : M DV} : setS i m E S = goSet (m E S) i E := by kernel_rfl
def goRet (r : Res DV) (E : Ev) : RS := match r with
  | .ok x S => .rt x S
  | .ex c fs S1 => .ex c fs E S1
  | .bad => .bad
theorem goRet_0 {E : Ev} : goRet (.ok x S) E = (.rt x S) := rfl
theorem goRet_1 {E : Ev} : goRet (.ex c fs S1) E = (.ex c fs E S1) := rfl
theorem goRet_2 {E : Ev} : goRet (.bad) E = (.bad) := rfl
theorem x_retS {m : M DV} : retS m E S = goRet (m E S) E := by kernel_rfl
def goEx (r : Res DV) (E : Ev) : RS := match r with
  | .ok x S => .nx E S
  | .ex c fs S1 => .ex c fs E S1
  | .bad => .bad
theorem goEx_0 {E : Ev} : goEx (.ok x S) E = (.nx E S) := rfl
theorem goEx_1 {E : Ev} : goEx (.ex c fs S1) E = (.ex c fs E S1) := rfl
theorem goEx_2 {E : Ev} : goEx (.bad) E = (.bad) := rfl
theorem x_exprS {m : M DV} : exprS m E S = goEx (m E S) E := by kernel_rfl
def goIf (r : Res Bool) (a b : MS) (E : Ev) : RS := match r with
  | .ok true S => a E S
  | .ok false S => b E S
  | .ex c fs S1 => .ex c fs E S1
  | .bad => .bad
theorem goIf_0 {a b : MS} {E : Ev} : goIf (.ok true S) a b E = (a E S) := rfl
theorem goIf_1 {a b : MS} {E : Ev} : goIf (.ok false S) a b E = (b E S) := rfl
theorem goIf_2 {a b : MS} {E : Ev} : goIf (.ex c fs S1) a b E = (.ex c fs E S1) := rfl
theorem goIf_3 {a b : MS} {E : Ev} : goIf (.bad) a b E = (.bad) := rfl
theorem x_ifS {t : M Bool} {a b : MS} : ifS t a b E S = goIf (t E S) a b E := by unfold ifS withE; cases t E S with | ok x S1 => cases x <;> rfl | ex c fs S1 => rfl | bad => rfl
theorem x_nextS : nextS E S = .nx E S := rfl
theorem x_neverS : neverS E S = .bad := rfl
theorem x_retNS : retNS E S = .rt (.val .non) S := rfl
theorem x_contS : contS E S = .ct E S := rfl
theorem x_breakS : breakS E S = .bk E S := rfl
def goRv (o : Option (Option DV)) (S : Store) : RS := match o with
  | some (some x) => .rt x S
  | _ => .bad
theorem goRv_0 {S : Store} : goRv (some (some x)) S = (.rt x S) := rfl
theorem x_retVarS {i : Nat} : retVarS i E S = goRv (E[i]?) S := by kernel_rfl
def goFr (o : Option (Option DV)) (i : Nat) (m : MS) (E : Ev) (S : Store) : RS := match o with
  | some (some x) => m (E.set i (some (.val x.frz))) S
  | some none => m E S
  | none => m E S
theorem goFr_0 {i : Nat} {m : MS} {E : Ev} {S : Store} : goFr (some (some x)) i m E S = (m (E.set i (some (.val x.frz))) S) := rfl
theorem goFr_1 {i : Nat} {m : MS} {E : Ev} {S : Store} : goFr (some none) i m E S = (m E S) := rfl
theorem goFr_2 {i : Nat} {m : MS} {E : Ev} {S : Store} : goFr (none) i m E S = (m E S) := rfl
theorem x_frzS {i : Nat} {m : MS} : frzS i m E S = goFr (E[i]?) i m E S := by unfold frzS goFr; cases E[i]? with | none => rfl | some o => cases o <;> rfl
def goCel (o : Option (Option DV)) (i : Nat) (m : MS) (E : Ev) (S : Store) : RS := match o with
  | some (some (.ol ds)) => m (E.set i (some (.val (.ref S.length)))) (S ++ [.lst ds])
  | some (some (.od kvs)) => m (E.set i (some (.val (.ref S.length)))) (S ++ [.dct kvs])
  | some (some (.val d)) => m E S
  | some none => m E S
  | none => m E S
theorem goCel_0 {i : Nat} {m : MS} {E : Ev} {S : Store} : goCel (some (some (.ol ds))) i m E S = (m (E.set i (some (.val (.ref S.length)))) (S ++ [.lst ds])) := rfl
theorem goCel_1 {kvs : List (Key × D)} {i : Nat} {m : MS} {E : Ev} {S : Store} : goCel (some (some (.od kvs))) i m E S = (m (E.set i (some (.val (.ref S.length)))) (S ++ [.dct kvs])) := rfl
theorem goCel_2 {i : Nat} {m : MS} {E : Ev} {S : Store} : goCel (some (some (.val d))) i m E S = (m E S) := rfl
theorem goCel_3 {i : Nat} {m : MS} {E : Ev} {S : Store} : goCel (some none) i m E S = (m E S) := rfl
theorem goCel_4 {i : Nat} {m : MS} {E : Ev} {S : Store} : goCel (none) i m E S = (m E S) := rfl
theorem x_celS {i : Nat} {m : MS} : celS i m E S = goCel (E[i]?) i m E S := by unfold celS goCel; cases E[i]? with | none => rfl | some o => cases o with | none => rfl | some v => cases v <;> rfl
def goV (o : Option (Option DV)) (S : Store) : Res DV := match o with
  | some (some (.val d)) => .ok (.val d) S
  | _ => .bad
theorem goV_0 {S : Store} : goV (some (some (.val d))) S = (.ok (.val d) S) := rfl
theorem x_mVar {i : Nat} : mVar i E S = goV (E[i]?) S := by kernel_rfl
theorem x_mK {d : D} : mK d E S = .ok (.val d) S := rfl
def goU (u : F1) (r : Res DV) : Res DV := match r with
  | .ok x S => u x.frz S
  | .ex c fs S1 => .ex c fs S1
  | .bad => .bad
theorem goU_0 {u : F1} : goU u (.ok x S) = (u x.frz S) := rfl
theorem goU_1 {u : F1} : goU u (.ex c fs S1) = (.ex c fs S1) := rfl
theorem goU_2 {u : F1} : goU u (.bad) = (.bad) := rfl
theorem x_mUn {u : F1} {a : M DV} : mUn u a E S = goU u (a E S) := by kernel_rfl
def goB2 (f : F2) (d : D) (r : Res DV) : Res DV := match r with
  | .ok y S => f d y.frz S
  | .ex c fs S1 => .ex c fs S1
  | .bad => .bad
theorem goB2_0 {f : F2} {d : D} : goB2 f d (.ok y S) = (f d y.frz S) := rfl
theorem goB2_1 {f : F2} {d : D} : goB2 f d (.ex c fs S1) = (.ex c fs S1) := rfl
theorem goB2_2 {f : F2} {d : D} : goB2 f d (.bad) = (.bad) := rfl
def goB (f : F2) (r : Res DV) (b : M DV) (E : Ev) : Res DV := match r with
  | .ok x S => goB2 f x.frz (b E S)
  | .ex c fs S1 => .ex c fs S1
  | .bad => .bad
theorem goB_0 {f : F2} {b : M DV} {E : Ev} : goB f (.ok x S) b E = (goB2 f x.frz (b E S)) := rfl
theorem goB_1 {f : F2} {b : M DV} {E : Ev} : goB f (.ex c fs S1) b E = (.ex c fs S1) := rfl
theorem goB_2 {f : F2} {b : M DV} {E : Ev} : goB f (.bad) b E = (.bad) := rfl
theorem x_mBin {f : F2} {a b : M DV} : mBin f a b E S = goB f (a E S) b E := by kernel_rfl
def goT (r : Res DV) : Res Bool := match r with
  | .ok (.val (.bl k)) S => .ok k S
  | .ex c fs S1 => .ex c fs S1
  | .bad => .bad
  | _ => .bad
theorem goT_0  : goT (.ok (.val (.bl k)) S) = (.ok k S) := rfl
theorem goT_1  : goT (.ex c fs S1) = (.ex c fs S1) := rfl
theorem goT_2  : goT (.bad) = (.bad) := rfl
theorem x_mTst {m : M DV} : mTst m E S = goT (m E S) := by unfold mTst bnd goT; cases m E S with | ok x S1 => (cases x with | val d => cases d <;> rfl | ol ds => rfl | od ds => rfl) | ex c fs S1 => rfl | bad => rfl
def goTr2 (o : Option Bool) (S : Store) : Res Bool := match o with
  | some k => .ok k S
  | none => .bad
theorem goTr2_0 {S : Store} : goTr2 (some k) S = (.ok k S) := rfl
theorem goTr2_1 {S : Store} : goTr2 (none) S = (.bad) := rfl
def goTr (r : Res DV) : Res Bool := match r with
  | .ok x S => goTr2 (truB S x.frz) S
  | .ex c fs S1 => .ex c fs S1
  | .bad => .bad
theorem goTr_0  : goTr (.ok x S) = (goTr2 (truB S x.frz) S) := rfl
theorem goTr_1  : goTr (.ex c fs S1) = (.ex c fs S1) := rfl
theorem goTr_2  : goTr (.bad) = (.bad) := rfl
theorem x_mTru {m : M DV} : mTru m E S = goTr (m E S) := by kernel_rfl
def goN (r : Res Bool) : Res Bool := match r with
  | .ok k S => .ok (!k) S
  | .ex c fs S1 => .ex c fs S1
  | .bad => .bad
theorem goN_0  : goN (.ok k S) = (.ok (!k) S) := rfl
theorem goN_1  : goN (.ex c fs S1) = (.ex c fs S1) := rfl
theorem goN_2  : goN (.bad) = (.bad) := rfl
theorem x_mNot {m : M Bool} : mNot m E S = goN (m E S) := by kernel_rfl
def goAn (r : Res Bool) (b : M Bool) (E : Ev) : Res Bool := match r with
  | .ok true S => b E S
  | .ok false S => .ok false S
  | .ex c fs S1 => .ex c fs S1
  | .bad => .bad
theorem goAn_0 {b : M Bool} {E : Ev} : goAn (.ok true S) b E = (b E S) := rfl
theorem goAn_1 {b : M Bool} {E : Ev} : goAn (.ok false S) b E = (.ok false S) := rfl
theorem goAn_2 {b : M Bool} {E : Ev} : goAn (.ex c fs S1) b E = (.ex c fs S1) := rfl
theorem goAn_3 {b : M Bool} {E : Ev} : goAn (.bad) b E = (.bad) := rfl
def goOr (r : Res Bool) (b : M Bool) (E : Ev) : Res Bool := match r with
  | .ok true S => .ok true S
  | .ok false S => b E S
  | .ex c fs S1 => .ex c fs S1
  | .bad => .bad
theorem goOr_0 {b : M Bool} {E : Ev} : goOr (.ok true S) b E = (.ok true S) := rfl
theorem goOr_1 {b : M Bool} {E : Ev} : goOr (.ok false S) b E = (b E S) := rfl
theorem goOr_2 {b : M Bool} {E : Ev} : goOr (.ex c fs S1) b E = (.ex c fs S1) := rfl
theorem goOr_3 {b : M Bool} {E : Ev} : goOr (.bad) b E = (.bad) := rfl
def goIe (r : Res Bool) (a b : M DV) (E : Ev) : Res DV := match r with
  | .ok true S => a E S
  | .ok false S => b E S
  | .ex c fs S1 => .ex c fs S1
  | .bad => .bad
theorem goIe_0 {a b : M DV} {E : Ev} : goIe (.ok true S) a b E = (a E S) := rfl
theorem goIe_1 {a b : M DV} {E : Ev} : goIe (.ok false S) a b E = (b E S) := rfl
theorem goIe_2 {a b : M DV} {E : Ev} : goIe (.ex c fs S1) a b E = (.ex c fs S1) := rfl
theorem goIe_3 {a b : M DV} {E : Ev} : goIe (.bad) a b E = (.bad) := rfl
theorem x_mAnd {a b : M Bool} : mAnd a b E S = goAn (a E S) b E := by unfold mAnd bnd goAn; cases a E S with | ok x S1 => cases x <;> rfl | ex c fs S1 => rfl | bad => rfl
theorem x_mOr {a b : M Bool} : mOr a b E S = goOr (a E S) b E := by unfold mOr bnd goOr; cases a E S with | ok x S1 => cases x <;> rfl | ex c fs S1 => rfl | bad => rfl
theorem x_mIf {t : M Bool} {a b : M DV} : mIf t a b E S = goIe (t E S) a b E := by unfold mIf bnd goIe; cases t E S with | ok x S1 => cases x <;> rfl | ex c fs S1 => rfl | bad => rfl
def goNv2 (o : Option Bool) (S : Store) : Res DV := match o with
  | some k => .ok (.val (.bl (!k))) S
  | none => .bad
theorem goNv2_0 {S : Store} : goNv2 (some k) S = (.ok (.val (.bl (!k))) S) := rfl
theorem goNv2_1 {S : Store} : goNv2 (none) S = (.bad) := rfl
def goNv (r : Res DV) : Res DV := match r with
  | .ok x S => goNv2 (truB S x.frz) S
  | .ex c fs S1 => .ex c fs S1
  | .bad => .bad
theorem goNv_0  : goNv (.ok x S) = (goNv2 (truB S x.frz) S) := rfl
theorem goNv_1  : goNv (.ex c fs S1) = (.ex c fs S1) := rfl
theorem goNv_2  : goNv (.bad) = (.bad) := rfl
theorem x_mNotV {m : M DV} : mNotV m E S = goNv (m E S) := by kernel_rfl
def goOv2 (o : Option Bool) (d : D) (S : Store) (b : M DV) (E : Ev) : Res DV := match o with
  | some true => .ok (.val d) S
  | some false => b E S
  | none => .bad
theorem goOv2_0 {d : D} {S : Store} {b : M DV} {E : Ev} : goOv2 (some true) d S b E = (.ok (.val d) S) := rfl
theorem goOv2_1 {d : D} {S : Store} {b : M DV} {E : Ev} : goOv2 (some false) d S b E = (b E S) := rfl
theorem goOv2_2 {d : D} {S : Store} {b : M DV} {E : Ev} : goOv2 (none) d S b E = (.bad) := rfl
def goOv (r : Res DV) (b : M DV) (E : Ev) : Res DV := match r with
  | .ok x S => goOv2 (truB S x.frz) x.frz S b E
  | .ex c fs S1 => .ex c fs S1
  | .bad => .bad
theorem goOv_0 {b : M DV} {E : Ev} : goOv (.ok x S) b E = (goOv2 (truB S x.frz) x.frz S b E) := rfl
theorem goOv_1 {b : M DV} {E : Ev} : goOv (.ex c fs S1) b E = (.ex c fs S1) := rfl
theorem goOv_2 {b : M DV} {E : Ev} : goOv (.bad) b E = (.bad) := rfl
theorem x_mOrV {a b : M DV} : mOrV a b E S = goOv (a E S) b E := by kernel_rfl
def goAv2 (o : Option Bool) (d : D) (S : Store) (b : M DV) (E : Ev) : Res DV := match o with
  | some false => .ok (.val d) S
  | some true => b E S
  | none => .bad
theorem goAv2_0 {d : D} {S : Store} {b : M DV} {E : Ev} : goAv2 (some false) d S b E = (.ok (.val d) S) := rfl
theorem goAv2_1 {d : D} {S : Store} {b : M DV} {E : Ev} : goAv2 (some true) d S b E = (b E S) := rfl
theorem goAv2_2 {d : D} {S : Store} {b : M DV} {E : Ev} : goAv2 (none) d S b E = (.bad) := rfl
def goAv (r : Res DV) (b : M DV) (E : Ev) : Res DV := match r with
  | .ok x S => goAv2 (truB S x.frz) x.frz S b E
  | .ex c fs S1 => .ex c fs S1
  | .bad => .bad
theorem goAv_0 {b : M DV} {E : Ev} : goAv (.ok x S) b E = (goAv2 (truB S x.frz) x.frz S b E) := rfl
theorem goAv_1 {b : M DV} {E : Ev} : goAv (.ex c fs S1) b E = (.ex c fs S1) := rfl
theorem goAv_2 {b : M DV} {E : Ev} : goAv (.bad) b E = (.bad) := rfl
theorem x_mAndV {a b : M DV} : mAndV a b E S = goAv (a E S) b E := by kernel_rfl
theorem x_mNil : mNil E S = .ok [] S := rfl
def goC2 (d : D) (r : Res (List D)) : Res (List D) := match r with
  | .ok xs S => .ok (d :: xs) S
  | .ex c fs S1 => .ex c fs S1
  | .bad => .bad
theorem goC2_0 {d : D} : goC2 d (.ok xs S) = (.ok (d :: xs) S) := rfl
theorem goC2_1 {d : D} : goC2 d (.ex c fs S1) = (.ex c fs S1) := rfl
theorem goC2_2 {d : D} : goC2 d (.bad) = (.bad) := rfl
def goC (r : Res DV) (ms : M (List D)) (E : Ev) : Res (List D) := match r with
  | .ok x S => goC2 x.frz (ms E S)
  | .ex c fs S1 => .ex c fs S1
  | .bad => .bad
theorem goC_0 {ms : M (List D)} {E : Ev} : goC (.ok x S) ms E = (goC2 x.frz (ms E S)) := rfl
theorem goC_1 {ms : M (List D)} {E : Ev} : goC (.ex c fs S1) ms E = (.ex c fs S1) := rfl
theorem goC_2 {ms : M (List D)} {E : Ev} : goC (.bad) ms E = (.bad) := rfl
theorem x_mCons {m : M DV} {ms : M (List D)} : mCons m ms E S = goC (m E S) ms E := by kernel_rfl
def goTp (r : Res (List D)) : Res DV := match r with
  | .ok xs S => if small xs.length = true then .ok (.val (.tup xs)) S else .bad
  | .ex c fs S1 => .ex c fs S1
  | .bad => .bad
theorem goTp_0  : goTp (.ok xs S) = (if small xs.length = true then .ok (.val (.tup xs)) S else .bad) := rfl
theorem goTp_1  : goTp (.ex c fs S1) = (.ex c fs S1) := rfl
theorem goTp_2  : goTp (.bad) = (.bad) := rfl
theorem x_mTup {ms : M (List D)} : mTup ms E S = goTp (ms E S) := by kernel_rfl
def goLs (r : Res (List D)) : Res DV := match r with
  | .ok xs S => if small xs.length = true then .ok (.ol xs) S else .bad
  | .ex c fs S1 => .ex c fs S1
  | .bad => .bad
theorem goLs_0  : goLs (.ok xs S) = (if small xs.length = true then .ok (.ol xs) S else .bad) := rfl
theorem goLs_1  : goLs (.ex c fs S1) = (.ex c fs S1) := rfl
theorem goLs_2  : goLs (.bad) = (.bad) := rfl
theorem x_mLst {ms : M (List D)} : mLst ms E S = goLs (ms E S) := by kernel_rfl
theorem x_mNo : mNo E S = .ok none S := rfl
def goPt (r : Res DV) : Res (Option Int) := match r with
  | .ok (.val (.int i)) S => .ok (some i) S
  | .ex c fs S1 => .ex c fs S1
  | .bad => .bad
  | _ => .bad
theorem goPt_0 {i : Int}  : goPt (.ok (.val (.int i)) S) = (.ok (some i) S) := rfl
theorem goPt_1  : goPt (.ex c fs S1) = (.ex c fs S1) := rfl
theorem goPt_2  : goPt (.bad) = (.bad) := rfl
theorem x_mPart {m : M DV} : mPart m E S = goPt (m E S) := by unfold mPart bnd goPt; cases m E S with | ok x S1 => (cases x with | val d => cases d <;> rfl | ol ds => rfl | od ds => rfl) | ex c fs S1 => rfl | bad => rfl
def goSl3 (d : D) (l : Option Int) (r : Res (Option Int)) : Res DV := match r with
  | .ok u S => slD d l u S
  | .ex c fs S1 => .ex c fs S1
  | .bad => .bad
theorem goSl3_0 {u : Option Int} {d : D} {l : Option Int} : goSl3 d l (.ok u S) = (slD d l u S) := rfl
theorem goSl3_1 {d : D} {l : Option Int} : goSl3 d l (.ex c fs S1) = (.ex c fs S1) := rfl
theorem goSl3_2 {d : D} {l : Option Int} : goSl3 d l (.bad) = (.bad) := rfl
def goSl2 (d : D) (r : Res (Option Int)) (hi : M (Option Int)) (E : Ev) : Res DV := match r with
  | .ok u S => goSl3 d u (hi E S)
  | .ex c fs S1 => .ex c fs S1
  | .bad => .bad
theorem goSl2_0 {u : Option Int} {d : D} {hi : M (Option Int)} {E : Ev} : goSl2 d (.ok u S) hi E = (goSl3 d u (hi E S)) := rfl
theorem goSl2_1 {d : D} {hi : M (Option Int)} {E : Ev} : goSl2 d (.ex c fs S1) hi E = (.ex c fs S1) := rfl
theorem goSl2_2 {d : D} {hi : M (Option Int)} {E : Ev} : goSl2 d (.bad) hi E = (.bad) := rfl
def goSl (r : Res DV) (lo hi : M (Option Int)) (E : Ev) : Res DV := match r with
  | .ok x S => goSl2 x.frz (lo E S) hi E
  | .ex c fs S1 => .ex c fs S1
  | .bad => .bad
theorem goSl_0 {lo hi : M (Option Int)} {E : Ev} : goSl (.ok x S) lo hi E = (goSl2 x.frz (lo E S) hi E) := rfl
theorem goSl_1 {lo hi : M (Option Int)} {E : Ev} : goSl (.ex c fs S1) lo hi E = (.ex c fs S1) := rfl
theorem goSl_2 {lo hi : M (Option Int)} {E : Ev} : goSl (.bad) lo hi E = (.bad) := rfl
theorem x_mSl {m : M DV} {lo hi : M (Option Int)} : mSl m lo hi E S = goSl (m E S) lo hi E := by kernel_rfl
def goCall (fd : FD) (n : Nat) (r : Res (List D)) : Res DV := match r with
  | .ok xs S => if xs.length = n then fd xs S else .bad
  | .ex c fs S1 => .ex c fs S1
  | .bad => .bad
theorem goCall_0 {fd : FD} {n : Nat} : goCall fd n (.ok xs S) = (if xs.length = n then fd xs S else .bad) := rfl
theorem goCall_1 {fd : FD} {n : Nat} : goCall fd n (.ex c fs S1) = (.ex c fs S1) := rfl
theorem goCall_2 {fd : FD} {n : Nat} : goCall fd n (.bad) = (.bad) := rfl
theorem x_mCall {fd : FD} {n : Nat} {ms : M (List D)} : mCall fd n ms E S = goCall fd n (ms E S) := by kernel_rfl
def goFn (fd : FD) (r : Res (List D)) : Res DV := match r with
  | .ok xs S => fd xs S
  | .ex c fs S1 => .ex c fs S1
  | .bad => .bad
theorem goFn_0 {fd : FD} : goFn fd (.ok xs S) = (fd xs S) := rfl
theorem goFn_1 {fd : FD} : goFn fd (.ex c fs S1) = (.ex c fs S1) := rfl
theorem goFn_2 {fd : FD} : goFn fd (.bad) = (.bad) := rfl
theorem x_mF {fd : FD} {ms : M (List D)} : mF fd ms E S = goFn fd (ms E S) := by kernel_rfl
def goM3 (h : Str → F1) (a : Str) (r : Res DV) : Res DV := match r with
  | .ok y S => h a y.frz S
  | .ex c fs S1 => .ex c fs S1
  | .bad => .bad
theorem goM3_0 {h : Str → F1} {a : Str} : goM3 h a (.ok y S) = (h a y.frz S) := rfl
theorem goM3_1 {h : Str → F1} {a : Str} : goM3 h a (.ex c fs S1) = (.ex c fs S1) := rfl
theorem goM3_2 {h : Str → F1} {a : Str} : goM3 h a (.bad) = (.bad) := rfl
def goM2 (h : Str → F1) (d : D) (me : M DV) (E : Ev) (S : Store) : Res DV := match d with
  | .str a => goM3 h a (me E S)
  | _ => .bad
theorem goM2_0 {a : Str} {h : Str → F1} {me : M DV} {E : Ev} {S : Store} : goM2 h (.str a) me E S = (goM3 h a (me E S)) := rfl
def goM (h : Str → F1) (r : Res DV) (me : M DV) (E : Ev) : Res DV := match r with
  | .ok x S => goM2 h x.frz me E S
  | .ex c fs S1 => .ex c fs S1
  | .bad => .bad
theorem goM_0 {h : Str → F1} {me : M DV} {E : Ev} : goM h (.ok x S) me E = (goM2 h x.frz me E S) := rfl
theorem goM_1 {h : Str → F1} {me : M DV} {E : Ev} : goM h (.ex c fs S1) me E = (.ex c fs S1) := rfl
theorem goM_2 {h : Str → F1} {me : M DV} {E : Ev} : goM h (.bad) me E = (.bad) := rfl
theorem x_mM1 {h : Str → F1} {mo me : M DV} : mM1 h mo me E S = goM h (mo E S) me E := by unfold mM1 bnd goM; cases mo E S with | ok x S1 => (dsimp only; unfold goM2; cases x.frz <;> (try rfl) <;> (try kernel_rfl)) | ex c fs S1 => rfl | bad => rfl
def goG2 (o : Option Ev) (S : Store) : RS := match o with
  | some E => .nx E S
  | none => .bad
theorem goG2_0 {S : Store} : goG2 (some E) S = (.nx E S) := rfl
theorem goG2_1 {S : Store} : goG2 (none) S = (.bad) := rfl
def goG (r : Res DV) (mg : MG) (E : Ev) : RS := match r with
  | .ok x S => goG2 (mg x.frz E S) S
  | .ex c fs S1 => .ex c fs E S1
  | .bad => .bad
theorem goG_0 {mg : MG} {E : Ev} : goG (.ok x S) mg E = (goG2 (mg x.frz E S) S) := rfl
theorem goG_1 {mg : MG} {E : Ev} : goG (.ex c fs S1) mg E = (.ex c fs E S1) := rfl
theorem goG_2 {mg : MG} {E : Ev} : goG (.bad) mg E = (.bad) := rfl
theorem x_setG {m : M DV} {mg : MG} : setG m mg E S = goG (m E S) mg E := by kernel_rfl
theorem x_gN {i : Nat} {d : D} : gN i d E S = some (E.set i (some (.val d))) := rfl
theorem x_gNil : gNilM [] E S = some E := rfl
def goGs (o : Option Ev) (gs : MGs) (ds : List D) (S : Store) : Option Ev := match o with
  | some E => gs ds E S
  | none => none
theorem goGs_0 {gs : MGs} {ds : List D} {S : Store} : goGs (some E) gs ds S = (gs ds E S) := rfl
theorem goGs_1 {gs : MGs} {ds : List D} {S : Store} : goGs (none) gs ds S = (none) := rfl
theorem x_gCons {mg : MG} {gs : MGs} {d : D} {r : List D} : gConsM mg gs (d :: r) E S = goGs (mg d E S) gs r S := by kernel_rfl
theorem x_gT_tup {n : Nat} {gs : MGs} {ds : List D} : gT n gs (.tup ds) E S = (if ds.length = n then gs ds E S else none) := rfl
theorem x_gT_lst {n : Nat} {gs : MGs} {ds : List D} : gT n gs (.lst ds) E S = (if ds.length = n then gs ds E S else none) := rfl
def goRs (x : Str) (n : Nat) (dfl : List D) (l : Fs) (r : Res (List D)) (E : Ev) : RS := match r with
  | .ok ds S => if ds.length = n ∧ n ≤ 1000 then .ex x (fsD l (ds ++ dfl) []) E S else .bad
  | .ex c fs S1 => .ex c fs E S1
  | .bad => .bad
theorem goRs_0 {x : Str} {n : Nat} {dfl : List D} {l : Fs} {E : Ev} : goRs x n dfl l (.ok ds S) E = (if ds.length = n ∧ n ≤ 1000 then .ex x (fsD l (ds ++ dfl) []) E S else .bad) := rfl
theorem goRs_1 {x : Str} {n : Nat} {dfl : List D} {l : Fs} {E : Ev} : goRs x n dfl l (.ex c fs S1) E = (.ex c fs E S1) := rfl
theorem goRs_2 {x : Str} {n : Nat} {dfl : List D} {l : Fs} {E : Ev} : goRs x n dfl l (.bad) E = (.bad) := rfl
theorem x_raiseS {x : Str} {n : Nat} {dfl : List D} {l : Fs} {ms : M (List D)} : raiseS x n dfl l ms E S = goRs x n dfl l (ms E S) E := by kernel_rfl
def goW2 (o : Option Wk) (S : Store) : Res Wk := match o with
  | some t => .ok t S
  | none => .bad
theorem goW2_0 {t : Wk} {S : Store} : goW2 (some t) S = (.ok t S) := rfl
theorem goW2_1 {S : Store} : goW2 (none) S = (.bad) := rfl
def goW (h : D → Store → Option Wk) (r : Res DV) : Res Wk := match r with
  | .ok x S => goW2 (h x.frz S) S
  | .ex c fs S1 => .ex c fs S1
  | .bad => .bad
theorem goW_0 {h : D → Store → Option Wk} : goW h (.ok x S) = (goW2 (h x.frz S) S) := rfl
theorem goW_1 {h : D → Store → Option Wk} : goW h (.ex c fs S1) = (.ex c fs S1) := rfl
theorem goW_2 {h : D → Store → Option Wk} : goW h (.bad) = (.bad) := rfl
theorem x_mWk {h : D → Store → Option Wk} {m : M DV} : mWk h m E S = goW h (m E S) := by kernel_rfl
theorem x_itL {xs : List D} : itV (.lst xs) S = some ⟨xs, none⟩ := rfl
theorem x_itT {xs : List D} : itV (.tup xs) S = some ⟨xs, none⟩ := rfl
theorem x_itS {z : Str} : itV (.str z) S = some ⟨signs z, none⟩ := rfl
theorem x_itD {kvs : List (Key × D)} : itV (.dct kvs) S = some ⟨kvs.map fun kv => kD kv.1, none⟩ := rfl
def goMk2 (o : Option D) (S : Store) : Res DV := match o with
  | some d => .ok (.val d) S
  | none => .bad
theorem goMk2_0 {S : Store} : goMk2 (some d) S = (.ok (.val d) S) := rfl
theorem goMk2_1 {S : Store} : goMk2 (none) S = (.bad) := rfl
def goMk (n : Nat) (dfl : List D) (l : Fs) (h : Str) (r : Res (List D)) : Res DV := match r with
  | .ok ds S => if ds.length = n ∧ n ≤ 1000 then goMk2 ((fsD l (ds ++ dfl) []).lookup h) S else .bad
  | .ex c fs S1 => .ex c fs S1
  | .bad => .bad
theorem goMk_0 {n : Nat} {dfl : List D} {l : Fs} {h : Str} : goMk n dfl l h (.ok ds S) = (if ds.length = n ∧ n ≤ 1000 then goMk2 ((fsD l (ds ++ dfl) []).lookup h) S else .bad) := rfl
theorem goMk_1 {n : Nat} {dfl : List D} {l : Fs} {h : Str} : goMk n dfl l h (.ex c fs S1) = (.ex c fs S1) := rfl
theorem goMk_2 {n : Nat} {dfl : List D} {l : Fs} {h : Str} : goMk n dfl l h (.bad) = (.bad) := rfl
theorem x_mMkF {n : Nat} {dfl : List D} {l : Fs} {h : Str} {ms : M (List D)} : mMkF n dfl l h ms E S = goMk n dfl l h (ms E S) := by kernel_rfl
def goRun (r : RS) : Res DV := match r with
  | .nx E S => .ok (.val .non) S
  | .rt x S => .ok x S
  | .ex c fs E S => .ex c fs S
  | .bk E S => .bad
  | .ct E S => .bad
  | .bad => .bad
theorem goRun_0  : goRun (.nx E S) = (.ok (.val .non) S) := rfl
theorem goRun_1  : goRun (.rt x S) = (.ok x S) := rfl
theorem goRun_2  : goRun (.ex c fs E S) = (.ex c fs S) := rfl
theorem goRun_3  : goRun (.bk E S) = (.bad) := rfl
theorem goRun_4  : goRun (.ct E S) = (.bad) := rfl
theorem goRun_5  : goRun (.bad) = (.bad) := rfl
theorem x_runB {n : Nat} {b : MS} {ds : List D} : runB n b ds S = goRun (b (slots0 n ds) S) := by unfold runB goRun; cases b (slots0 n ds) S <;> rfl
def goCh3 (g : F2) (d : D) (r : Res DV) (b : M DV) (E : Ev) : Res DV := match r with
  | .ok (.val (.bl true)) S => goB2 g d (b E S)
  | .ok (.val (.bl false)) S => .ok (.val (.bl false)) S
  | _ => .bad
theorem goCh3_0 {g : F2} {d : D} {b : M DV} {E : Ev} : goCh3 g d (.ok (.val (.bl true)) S) b E = (goB2 g d (b E S)) := rfl
theorem goCh3_1 {g : F2} {d : D} {b : M DV} {E : Ev} : goCh3 g d (.ok (.val (.bl false)) S) b E = (.ok (.val (.bl false)) S) := rfl
def goCh2 (f g : F2) (d : D) (r : Res DV) (b : M DV) (E : Ev) : Res DV := match r with
  | .ok y S => goCh3 g y.frz (f d y.frz S) b E
  | .ex c fs S1 => .ex c fs S1
  | .bad => .bad
theorem goCh2_0 {f g : F2} {d : D} {b : M DV} {E : Ev} : goCh2 f g d (.ok y S) b E = (goCh3 g y.frz (f d y.frz S) b E) := rfl
theorem goCh2_1 {f g : F2} {d : D} {b : M DV} {E : Ev} : goCh2 f g d (.ex c fs S1) b E = (.ex c fs S1) := rfl
theorem goCh2_2 {f g : F2} {d : D} {b : M DV} {E : Ev} : goCh2 f g d (.bad) b E = (.bad) := rfl
def goCh (f g : F2) (r : Res DV) (a b : M DV) (E : Ev) : Res DV := match r with
  | .ok x S => goCh2 f g x.frz (a E S) b E
  | .ex c fs S1 => .ex c fs S1
  | .bad => .bad
theorem goCh_0 {f g : F2} {a b : M DV} {E : Ev} : goCh f g (.ok x S) a b E = (goCh2 f g x.frz (a E S) b E) := rfl
theorem goCh_1 {f g : F2} {a b : M DV} {E : Ev} : goCh f g (.ex c fs S1) a b E = (.ex c fs S1) := rfl
theorem goCh_2 {f g : F2} {a b : M DV} {E : Ev} : goCh f g (.bad) a b E = (.bad) := rfl
theorem x_mCh {f g : F2} {m a b : M DV} : mCh f g m a b E S = goCh f g (m E S) a b E := by kernel_rfl
def goIx (o : Option D) (S : Store) : Res DV := match o with
  | some d => .ok (.val d) S
  | none => .bad
theorem goIx_0 {S : Store} : goIx (some d) S = (.ok (.val d) S) := rfl
theorem goIx_1 {S : Store} : goIx (none) S = (.bad) := rfl
theorem x_ixl {xs : List D} {i : Int} : ixD (.lst xs) (.int i) S = goIx (atI xs i) S := by kernel_rfl
theorem x_ixt {xs : List D} {i : Int} : ixD (.tup xs) (.int i) S = goIx (atI xs i) S := by kernel_rfl
noncomputable def goFor (r : Res Wk) (mg : MG) (b : MS) (E : Ev) : RS := match r with
  | .ok t S => loopS mg b t t.ds E S
  | .ex c fs S1 => .ex c fs E S1
  | .bad => .bad
theorem goFor_0 {t : Wk} {mg : MG} {b : MS} {E : Ev} : goFor (.ok t S) mg b E = (loopS mg b t t.ds E S) := rfl
theorem goFor_1 {mg : MG} {b : MS} {E : Ev} : goFor (.ex c fs S1) mg b E = (.ex c fs E S1) := rfl
theorem goFor_2 {mg : MG} {b : MS} {E : Ev} : goFor (.bad) mg b E = (.bad) := rfl
theorem x_forS {mi : M Wk} {mg : MG} {b : MS} : forS mi mg b E S = goFor (mi E S) mg b E := by kernel_rfl
noncomputable def goL2 (r : RS) (mg : MG) (b : MS) (w ds : List D) : RS := match r with
  | .nx E S => loopS mg b ⟨w, none⟩ ds E S
  | .ct E S => loopS mg b ⟨w, none⟩ ds E S
  | .bk E S => .nx E S
  | .rt x S => .rt x S
  | .ex c fs E S => .ex c fs E S
  | .bad => .bad
theorem goL2_0 {mg : MG} {b : MS} {w ds : List D} : goL2 (.nx E S) mg b w ds = (loopS mg b ⟨w, none⟩ ds E S) := rfl
theorem goL2_1 {mg : MG} {b : MS} {w ds : List D} : goL2 (.ct E S) mg b w ds = (loopS mg b ⟨w, none⟩ ds E S) := rfl
theorem goL2_2 {mg : MG} {b : MS} {w ds : List D} : goL2 (.bk E S) mg b w ds = (.nx E S) := rfl
theorem goL2_3 {mg : MG} {b : MS} {w ds : List D} : goL2 (.rt x S) mg b w ds = (.rt x S) := rfl
theorem goL2_4 {mg : MG} {b : MS} {w ds : List D} : goL2 (.ex c fs E S) mg b w ds = (.ex c fs E S) := rfl
theorem goL2_5 {mg : MG} {b : MS} {w ds : List D} : goL2 (.bad) mg b w ds = (.bad) := rfl
noncomputable def goL (o : Option Ev) (mg : MG) (b : MS) (w ds : List D) (S : Store) : RS := match o with
  | some E => goL2 (b E S) mg b w ds
  | none => .bad
theorem goL_0 {mg : MG} {b : MS} {w ds : List D} {S : Store} : goL (some E) mg b w ds S = (goL2 (b E S) mg b w ds) := rfl
theorem goL_1 {mg : MG} {b : MS} {w ds : List D} {S : Store} : goL (none) mg b w ds S = (.bad) := rfl
theorem x_loopN {mg : MG} {b : MS} {w : List D} : loopS mg b ⟨w, none⟩ [] E S = .nx E S := by unfold loopS; rw [chk_none]
theorem x_loopC {mg : MG} {b : MS} {w : List D} {d : D} {ds : List D} : loopS mg b ⟨w, none⟩ (d :: ds) E S = goL (mg d E S) mg b w ds S := by
  conv => lhs; unfold loopS
  rw [chk_none]
  cases mg d E S with
  | none => rfl
  | some E1 =>
    show _ = goL2 (b E1 S) mg b w ds
    dsimp only
    cases b E1 S <;> rfl
def goR1 (r : Res (List D)) : Res Wk := match r with
  | .ok [.int i] S => if fit62 i then .ok (rngL 0 i.toNat) S else .bad
  | .ex c fs S1 => .ex c fs S1
  | .bad => .bad
  | _ => .bad
theorem goR1_0 {i : Int}  : goR1 (.ok [.int i] S) = (if fit62 i then .ok (rngL 0 i.toNat) S else .bad) := rfl
theorem goR1_1  : goR1 (.ex c fs S1) = (.ex c fs S1) := rfl
theorem goR1_2  : goR1 (.bad) = (.bad) := rfl
theorem x_mR1 {ms : M (List D)} : mR1 ms E S = goR1 (ms E S) := by unfold mR1 bnd goR1; cases ms E S with | ok xs S1 => (dsimp only; cases xs with | nil => rfl | cons d r => cases r with | nil => cases d <;> rfl | cons e r => cases d <;> rfl) | ex c fs S1 => rfl | bad => rfl
def goTy (r : RS) (cs : List Str) (sub : Str → Str → Bool) (k : Str) (i : Nat) (mh : MH) : RS := match r with
  | .ex c fs E S => if c ∈ cs ∧ i < E.length then (if sub c k = true then wipeS i (mh c fs (E.set i none) S) else .ex c fs E S) else .bad
  | .nx E S => .nx E S
  | .rt x S => .rt x S
  | .bk E S => .bk E S
  | .ct E S => .ct E S
  | .bad => .bad
theorem goTy_0 {cs : List Str} {sub : Str → Str → Bool} {k : Str} {i : Nat} {mh : MH} : goTy (.ex c fs E S) cs sub k i mh = (if c ∈ cs ∧ i < E.length then (if sub c k = true then wipeS i (mh c fs (E.set i none) S) else .ex c fs E S) else .bad) := rfl
theorem goTy_1 {cs : List Str} {sub : Str → Str → Bool} {k : Str} {i : Nat} {mh : MH} : goTy (.nx E S) cs sub k i mh = (.nx E S) := rfl
theorem goTy_2 {cs : List Str} {sub : Str → Str → Bool} {k : Str} {i : Nat} {mh : MH} : goTy (.rt x S) cs sub k i mh = (.rt x S) := rfl
theorem goTy_3 {cs : List Str} {sub : Str → Str → Bool} {k : Str} {i : Nat} {mh : MH} : goTy (.bk E S) cs sub k i mh = (.bk E S) := rfl
theorem goTy_4 {cs : List Str} {sub : Str → Str → Bool} {k : Str} {i : Nat} {mh : MH} : goTy (.ct E S) cs sub k i mh = (.ct E S) := rfl
theorem goTy_5 {cs : List Str} {sub : Str → Str → Bool} {k : Str} {i : Nat} {mh : MH} : goTy (.bad) cs sub k i mh = (.bad) := rfl
theorem x_tryS {cs : List Str} {sub : Str → Str → Bool} {k : Str} {i : Nat} {mb : MS} {mh : MH} : tryS cs sub k i mb mh E S = goTy (mb E S) cs sub k i mh := by unfold tryS goTy; cases mb E S <;> rfl
def goFl (o : Option D) (j : Nat) (E : Ev) (S : Store) : RS := match o with
  | some d => .nx (E.set j (some (.val d))) S
  | none => .bad
theorem goFl_0 {j : Nat} {E : Ev} {S : Store} : goFl (some d) j E S = (.nx (E.set j (some (.val d))) S) := rfl
theorem goFl_1 {j : Nat} {E : Ev} {S : Store} : goFl (none) j E S = (.bad) := rfl
theorem x_fldH {j : Nat} {h c : Str} {fs : List (Str × D)} : fldH j h c fs E S = goFl (fs.lookup h) j E S := by kernel_rfl
theorem x_wipenx {i : Nat} : wipeS i (.nx E S) = .nx (E.set i none) S := rfl
theorem x_wipert {i : Nat} : wipeS i (.rt x S) = .rt x S := rfl
theorem x_wipebk {i : Nat} : wipeS i (.bk E S) = .bk (E.set i none) S := rfl
theorem x_wipect {i : Nat} : wipeS i (.ct E S) = .ct (E.set i none) S := rfl
theorem x_fzv {d : D} : DV.frz (.val d) = d := rfl
theorem x_fzl {ds : List D} : DV.frz (.ol ds) = .lst ds := rfl
theorem x_fzd {ds : List (Key × D)} : DV.frz (.od ds) = .dct ds := rfl
theorem x_fine {d : D} : fine d S = .ok (.val d) S := rfl
theorem x_isNn : isN .non = true := rfl
theorem x_isNi {i : Int} : isN (.int i) = false := rfl
theorem x_isNs {i : Str} : isN (.str i) = false := rfl
theorem x_isNb {i : Bool} : isN (.bl i) = false := rfl
theorem x_isNt {i : List D} : isN (.tup i) = false := rfl
theorem x_isNl {i : List D} : isN (.lst i) = false := rfl
theorem x_isNd {i : List (Key × D)} : isN (.dct i) = false := rfl
theorem x_swD {a b : Str} : swD a (.str b) S = .ok (.val (.bl (Txt.startswith a b))) S := rfl
theorem x_ewD {a b : Str} : ewD a (.str b) S = .ok (.val (.bl (Txt.endswith a b))) S := rfl
end
end Hm
set_option Elab.async false
set_option linter.all false
set_option maxRecDepth 100000
set_option maxHeartbeats 2000000
namespace Hm
open PySem PySem.Spec L2 PyProof.Rows

/-! ### try: .. except C as n: .. except D as m: .. -/
abbrev Hnd := Value × Nat × (Addr → Value → Option Addr → TS)
/-- the ends behind a suite: the slot of its name goes -/
def endsAs (D : Ends) (i : Nat) : Ends := { nx := fun τ G => D.nx (τ.set i none) G, rt := D.rt, bk := fun τ G => D.bk (τ.set i none) G, ct := fun τ G => D.ct (τ.set i none) G }
def wCl (K : PySem.W.Frag) (Wo : WX) (D : Ends) : List Hnd → WX
  | [] => Wo
  | q :: r => fun cl dd τ G => ∃ b, PySem.W.exmOne K cl q.1 = some b ∧ (b = true → ∀ e, G e = none → q.2.2 e cl dd (endsAs D q.2.1) (τ.set q.2.1 (some (.ref e))) G) ∧ (b = false → wCl K Wo D r cl dd τ G)
inductive HdsAs (X : Cx) : List ExceptHandler → List Hnd → Prop
  | nil : HdsAs X [] []
  | cons {x n : Str} {c : Value} {i : Nat} {tz : Addr → Value → Option Addr → TS} {z₀ : Stmt} {zs : List Stmt} {pq pr : Pos} {hk : List ExceptHandler} {l : List Hnd} (hi : X.N[i]? = some n) (hl : X.env.kindOf n = some .local) (hc : Names X x c)
      (hz : ∀ (e : Addr) (ob : Obj) (cl : Value) (dd : Option Addr) (pn : List (Addr × Obj)), Zc cl dd ob → (∃ us, ob.data = .fields us) → PSs (X.suite e ((e, ob) :: pn)) (z₀ :: zs) (tz e cl dd)) (r : HdsAs X hk l) :
      HdsAs X (.ExceptHandler (some (.Name x pq)) (some n) (z₀ :: zs) pr :: hk) ((c, i, tz) :: l)
section
variable {X : Cx} {body : List Stmt} {g₀ : ExceptHandler} {gs : List ExceptHandler} {l : List Hnd} {pos : Pos} {tb : WX → TS} {Wo : WX}
theorem ps_try_manyAs (stk : X.stack = X.env :: X.outer) (frm : X.env.frame = some X.env.locals) (ndN : X.N.Nodup) (tk : Takes X Wo)
    (hb : ∀ (W : WX) (pn : List (Addr × Obj)) (xw : Value → Shared → Prop), Takes (X.tr pn xw) W → PassesOwn (model X.prog X.w) X.A X.env xw → PSs (X.tr pn xw) body (tb W))
    (hh : HdsAs X (g₀ :: gs) l) : PS X (.Try body (g₀ :: gs) [] [] pos) (fun D τ G => tb (wCl X.K Wo D l) D τ G) := by
  refine ⟨fun pz s τ G D I h => ?_⟩
  have okX := I.ok
  have hfs : X.A.frames = some (X.env :: X.outer) := by rw [okX.frames, stk]
  refine wpAny_Try_except ?_
  refine wpAny_mono ((hb (wCl X.K Wo D l) (X.pn ++ pz) (fun ev t₁ => wpAny (model X.prog X.w) X.A (noteFrame ev X.env) (fun _ t₂ => wpAny (model X.prog X.w) X.A (setFlight ev none) (fun _ t₃ =>
    wpAny (model X.prog X.w) X.A (handleBy ev X.env (g₀ :: gs)) (SP X pz D) X.xe t₃) X.xe t₂) X.xe t₁) (fun u t xx => ?_) PassesOwn.looking).run [] s τ G D (I.toTry _) h) (fun fl t hsp => ?_) (fun ev t z => z)
  · obtain ⟨e, B, tI, pz', τ1, G1, cl, dd, rfl, J0, nb, up, sk, ne, eos, bg, w⟩ := xx
    have J : Inv X pz τ1 G1 tI := J0.ofTry okX
    have sk1 : Sky B (X.env :: X.outer) e (Zc cl dd) X.env.locals t.heap := by rw [← stk]; exact sk
    show wpAny (model X.prog X.w) X.A (noteFrame (.ref e) X.env) _ _ _
    refine Sky.land Zc.steady hfs frm sk1 fun k3 fl3 up3 => ?_
    have J3 : Inv X pz τ1 G1 { t with heap := k3 } := J.landed nb fl3.1 (up.trans up3) eos bg
    obtain ⟨ob3, us3, ge3, gz3, gd3⟩ := fl3.there
    have nofr : e ∉ frs (X.env :: X.outer) := fun hm => by
      obtain ⟨_, o2, e2, hnf⟩ := fl3.2.2.1.mem hm
      rw [ge3] at e2; cases e2
      exact hnf _ gd3
    have nl : e ≠ X.env.locals := fun z => nofr (List.mem_filterMap.mpr ⟨X.env, List.mem_cons_self, by rw [frm, z]⟩)
    have nf : e ∉ X.fs := fun hm => by
      obtain ⟨v, hv, q⟩ := List.mem_filterMap.mp hm
      exact nofr (List.mem_filterMap.mpr ⟨v, List.mem_cons_of_mem _ hv, q⟩)
    have S3 := J3.suite ge3 gd3 ne nl nf
    have walk : ∀ {hk : List ExceptHandler} {lk : List Hnd}, HdsAs X hk lk → wCl X.K Wo D lk cl dd τ1 G1 →
        wpAny (model X.prog X.w) X.A (handleBy (.ref e) X.env hk) (SP X pz D) X.xe { t with heap := k3 } := by
      intro hk lk hH
      induction hH with
      | nil =>
        intro w
        refine wpAny_handleBy_nil ?_
        obtain ⟨_, _, _, ob, us, T, oT, us2, ge, gz, gd, g1, gr⟩ := id fl3
        unfold PySem.passOn
        refine wpAny_bind (wpAny_field ge gd g1 ?_)
        rw [if_neg (show ¬ ((Value.ref T == Value.none) = true) from by simp)]
        have fin : wpAny (model X.prog X.w) X.A (setFlight (.ref e) X.env.frame) (fun _ t4 => wpAny (model X.prog X.w) X.A (throw (.ref e) : Sem Flow) (SP X pz D) X.xe t4) X.xe { t with heap := k3 } := by
          rw [frm]
          refine HandSPX.setFlight_upZ fl3 fun k4 gh4 up4 => wpAny_throw (tk _ _ ?_)
          exact ⟨e, B, tI, pz, τ1, G1, cl, dd, rfl, J, nb, (up.trans up3).trans up4, .inr (.inr (by rw [stk]; exact gh4)), ne, eos, bg, w⟩
        first
          | exact wpAny_bind (wpAny_pure (wpAny_bind fin))
          | exact wpAny_bind fin
      | @cons x n c i tz z₀ zs pq pr hk2 l2 hi hl hc hz r ih =>
        intro w
        have hlc : Loc X.env.scope n := .inl hl
        obtain ⟨b, hb1, yes, no⟩ := w
        refine wpAny_handleBy_cons (codeAny_handlers_test ?_) (by intro q; cases q)
        have LT : PySem.W.Looks (model X.prog X.w) k3 (typeOf (.ref e)) cl := fun A Q E s k q => wpAny_typeOf_ref (k _ _ ge3) (by rw [gz3.1]; exact q)
        have LM := PySem.W.exm_one (M := model X.prog X.w) (J3.kIn) LT hb1
        have test : ∀ {Q : Value → Shared → Prop} {E : Value → Shared → Prop}, Q c { t with heap := k3 } → wpAny (model X.prog X.w) (X.A.mark (some (.ref e))) (eval (.Name x pq) X.env) Q E { t with heap := k3 } := fun {Q E} q => by
          obtain ⟨c1, c2, c3 | ⟨c3, c4, c5⟩⟩ := hc
          · exact ld_glob (X := X.suite e ((e, ob3) :: (X.pn ++ pz))) S3 c1 c3 q c2
          · exact ld_blt (X := X.suite e ((e, ob3) :: (X.pn ++ pz))) S3 c1 c3 c4 q c5 c2
        refine test (LM.here ?_)
        cases b with
        | true =>
          refine codeAny_handlers_suite_as ?_
          refine HandSPX.lands_againZ fl3 fun k4 fl4 up4 => ?_
          have J4 : Inv X pz τ1 G1 { t with heap := k4 } := J.landed nb fl4.1 ((up.trans up3).trans up4) eos bg
          obtain ⟨ob4, us4, ge4, gz4, gd4⟩ := fl4.there
          have S4 := J4.suite ge4 gd4 ne nl nf
          refine store_ok (X := X.suite e ((e, ob4) :: (X.pn ++ pz))) (v := .ref e) S4 ndN hi hlc rfl (fun t5 S5 => ?_) (.inr hl)
          refine wpAny_mono ((hz e ob4 cl dd (X.pn ++ pz) gz4 ⟨_, gd4⟩).run [] t5 _ G1 (endsAs D i) S5 (yes rfl e ne)) (fun fl t6 hsp => ?_) (fun _ _ z => False.elim z)
          have away : ∀ {τ6 : L2.St} {G6 : Hp} {Q : Shared → Prop}, Inv (X.suite e ((e, ob4) :: (X.pn ++ pz))) [] τ6 G6 t6 → (∀ t7, Inv X pz (τ6.set i none) G6 t7 → Q t7) →
              wpAny (model X.prog X.w) X.A (do bindName X.env n .none; unbindBehindTheSuite X.env n pr) (fun _ t7 => Q t7) X.xe t6 := fun {τ6 G6 Q} S6 hq => gone_ok (S6.unsuite okX) ndN hi hl hq
          cases fl with
          | next =>
            obtain ⟨τ6, G6, S6, q6⟩ := hsp
            exact away S6 fun t7 J7 => ⟨_, _, J7, q6⟩
          | brk =>
            obtain ⟨τ6, G6, S6, q6⟩ := hsp
            exact away S6 fun t7 J7 => ⟨_, _, J7, q6⟩
          | cont =>
            obtain ⟨τ6, G6, S6, q6⟩ := hsp
            exact away S6 fun t7 J7 => ⟨_, _, J7, q6⟩
          | ret u =>
            obtain ⟨v6, τ6, G6, S6, r6, q6⟩ := hsp
            exact away S6 fun t7 J7 => ⟨_, _, _, J7, r6, q6⟩
        | false =>
          show wpAny _ X.A (handleBy (.ref e) X.env hk2) _ _ _
          exact ih (no rfl)
    exact walk hh w
  · cases fl with
    | next =>
      obtain ⟨τ2, G2, J2, q⟩ := hsp
      exact wpAny_execs_nil ⟨τ2, G2, J2.ofTry okX, q⟩
    | brk =>
      obtain ⟨τ2, G2, J2, q⟩ := hsp
      exact ⟨τ2, G2, J2.ofTry okX, q⟩
    | cont =>
      obtain ⟨τ2, G2, J2, q⟩ := hsp
      exact ⟨τ2, G2, J2.ofTry okX, q⟩
    | ret u =>
      obtain ⟨v, τ2, G2, J2, r, q⟩ := hsp
      exact ⟨v, τ2, G2, J2.ofTry okX, r, q⟩
end
end Hm
set_option Elab.async false
set_option linter.all false
set_option maxRecDepth 100000
set_option maxHeartbeats 2000000
namespace Hm
open PySem PySem.Spec L2 PyProof.Rows

/-! ### defs called within an except suite with the caught exception -/
/-- what such a def promises: z is the exception's object -/
structure FnE (P : Program) (w : World) (K : PySem.W.Frag) (mg : Str → Option Value) (base : Heap) (CX : CXT) (k : Nat) (f : Addr) (fd : FuncData) (ps : List Str) (sp : Addr × Obj → Sp) : Prop where
  len : ∀ z vs H Q E, sp z vs H Q E → vs.length = ps.length
  run : ∀ (A : Around) (outer : List Env) (s : Shared) (H : Hp) (ar : Args) (us : List Value) (vs : List V) (Q : VK) (E : XK) (z : Addr × Obj), L2H.RoomH k A → L2H.PinOk outer H s z → Env0 P w K mg base A outer s H → BindsTo s fd ar (ps.zip us) → Vals vs us → sp z vs H Q E →
    codeAny (model P w) A (.call (.ref f) ar) (CR CX outer P w H s Q E) s
theorem fn_ofE {CX : CXT} {P : Program} {w : World} {K : PySem.W.Frag} {mg : Str → Option Value} {base : Heap} {k : Nat} {f : Addr} {x qual : Str} {params : Arguments} {body : List Stmt} {sc : Scope} {dvs : List V} {kws : List (Str × V)} {fd : FuncData}
    {N ps : List Str} {sp : Addr × Obj → Sp} (F : FunD K x qual params body sc dvs kws f fd) (S : FnScope N ps sc) (len : ∀ z vs H Q E, sp z vs H Q E → vs.length = ps.length)
    (hb : ∀ (cd : Value) (A : Around) (outer : List Env) (s : Shared) (H : Hp) (vs : List V) (Q : VK) (E : XK) (z : Addr × Obj), L2H.RoomH k (A.deeper (envOfC qual sc s.heap.objs.size f cd)) → sp z vs H Q E →
      ∃ t, PSs (L2H.cxH CX P w K mg base N qual sc f cd A outer s H E z) body t ∧ t { nx := fun _ H1 => Q .non H1, rt := Q } (L2.start N vs) H) :
    FnE P w K mg base CX (k + 1) f fd ps sp := by
  obtain ⟨oc, od, dV, kV, doc, pm, an, cd, ct, osl, rfl, lk, hcd, _, _⟩ := F.ex
  refine ⟨len, fun A outer s H ar us vs Q E z hr hz e0 bd r hsp => ?_⟩
  have nl := len _ _ _ _ _ hsp
  have kI : K.In s.heap := e0.mod.kin.keeps fun b o e => (e0.bs b o e).1
  have nolim : s.heap.NoLimit := e0.mod.nolimit.keeps fun b o e => (e0.bs b o e).1
  have kinds : ∀ y ∈ ps.zip us, sc.names.lookup y.1 = some .local ∨ (sc.names.lookup y.1 = some .cell ∧ ((cellsFrom (s.heap.objs.size + 1) sc.names []).lookup y.1).isSome = true) := fun ⟨n, v⟩ hy => by
    rcases S.par n (List.of_mem_zip hy).1 with q | q
    · exact .inl q
    · exact .inr ⟨q, PySem.W.cellsFrom_some _ _ _ (.inl q)⟩
  refine codeAny_call_function hr.depth (kI _ _ lk) rfl S.co S.gen rfl (PySem.W.codeRec_of kI hcd) (bd _ _ _ _ ?_)
  refine wpAny_newFunctionEnv_cells S.kind kinds fun env he s1 ic => ?_
  subst he
  refine ⟨nolim.keeps ic.toInCall.keep, codeAny_func ?_⟩
  obtain ⟨t, ht, hq⟩ := hb cd A outer s H vs Q E z (hr.deeper _) hsp
  have I : Inv (L2H.cxH CX P w K mg base N qual sc f cd A outer s H E z) [] (L2.start N vs) H s1 := L2H.inv_startH S hz e0 nl r ic
  refine wpAny_mono (ht.run [] s1 (L2.start N vs) H _ I hq) (fun fl s2 hs => ?_) fun e s2 hs => hs
  have close : ∀ {τ : L2.St} {H2 : Hp} {v : V} {u : Value}, Inv (L2H.cxH CX P w K mg base N qual sc f cd A outer s H E z) [] τ H2 s2 → RelV v u → Q v H2 → CE outer P w H s Q u s2 :=
    fun {τ H2 v u} J rv q => ⟨v, H2, J.os, J.bare, J.base, J.hok, rv, q⟩
  cases fl with
  | ret u =>
    obtain ⟨v, τ, H2, J, rv, q⟩ := hs
    exact close J rv q
  | next =>
    obtain ⟨τ, H2, J, q⟩ := hs
    exact close (v := V.non) (u := Value.none) J rfl q
  | brk =>
    obtain ⟨_, _, _, q⟩ := hs
    exact q.elim
  | cont =>
    obtain ⟨_, _, _, q⟩ := hs
    exact q.elim
section
variable {X : Cx} {CX : CXT} {k : Nat} {f : Addr} {fd : FuncData} {ps : List Str} {sp : Addr × Obj → Sp} {E : XK} {x : Str} {p pos : Pos} {e : Expr} {es : List Expr} {t : TA} {z : Addr × Obj}
theorem pe_callE (F : FnE X.prog X.w X.K X.mg X.base CX k f fd ps sp) (hr : L2H.RoomH k X.A) (hz : z ∈ X.pn) (hg : Gl X x) (hm : X.mg x = some (.ref f)) (hk : PySem.W.keepIn X.K (.ref f) = true) (hb : Binds X.K fd ps []) (hx : Passes CX X E)
    (ha : PA X (e :: es) t) (hdb : (x == ("__debug__" : Str)) = false := by decide) (he : starEach (e :: es) X.env = (false, eval e X.env) :: starEach es X.env := by rfl) (hpl : (backTo pos (starEach es X.env)).any (·.1) = false := by rfl) :
    PE X (.Call (.Name x p) (e :: es) [] pos) (fun σ H Q => t σ H fun vs H1 => sp z vs H1 Q E) := by
  refine ⟨fun pins s σ H Q I h => ?_⟩
  refine wpAny_Call_Name_kw (ld_glob I hg hm ?_ hdb)
  refine PySem.W.callWith_K (h₀ := X.base) I.ok.mod.kin hk (thn (ha.run pos pins s σ H _ I h) fun us s1 ⟨vs, H1, I1, r, q⟩ => ⟨I1.kIn, ?_⟩) he hpl
  have nl : us.length = ps.length := by rw [← r.length]; exact F.len _ _ _ _ _ q
  have bd := hb s1 us I1.kIn (by rw [List.append_nil]; exact nl)
  rw [List.append_nil] at bd
  have P1 := I1.pin z (List.mem_append_left _ hz)
  have pk : L2H.PinOk X.stack H1 s1 z := ⟨P1.1, P1.2.1, fun hm => (List.mem_cons.mp (I1.stkSub z.1 hm)).elim P1.2.2.1 P1.2.2.2.1, P1.2.2.2.2⟩
  refine wpAny_call (codeAny_mono (F.run X.A X.stack s1 H1 ⟨us, []⟩ us vs Q E z hr pk I1.env0 bd r q) fun r s2 hq => ?_)
  cases r with
  | error er => exact hx pins σ H1 s1 er s2 I1 hq
  | ok fl =>
    cases fl with
    | ret u => exact I1.after hq
    | next => exact hq.elim
    | brk => exact hq.elim
    | cont => exact hq.elim
end

/-! ### isinstance of it -/
def rIsX (K : PySem.W.Frag) (C a : Addr) (d : Option Addr) : List V → Hp → VK → Prop := fun xs H Q => ∃ (cv : V) (u : Value) (b : Bool), xs = [.ref a, cv] ∧ (∀ v, RelV cv v → v = u) ∧ PySem.W.kitOne K (.ref C) u = some b ∧ (∃ dd fs, d = some dd ∧ H dd = some (.xd fs)) ∧ Q (.bl b) H
theorem call_isX {X : Cx} {a C : Addr} {oe : Obj} {d : Option Addr} (T : ExcC X.K C) (hz : Zc (.ref C) d oe) (hf : ∃ vs, oe.data = .fields vs) (hp : (a, oe) ∈ X.pn) : CallR X (.builtin "isinstance") (rIsX X.K C a d) := by
  intro pins s σ H xs us Q I r h
  obtain ⟨cv, u, b, rfl, hcv, e, ⟨dd, fs, rfl, hd⟩, q⟩ := h
  cases r with
  | cons rx rr =>
    cases rr with
    | cons rt rr =>
      cases rr
      cases rx
      have eu := hcv _ rt
      subst eu
      obtain ⟨hget, _⟩ := I.pin (a, oe) (List.mem_append_left _ hp)
      obtain ⟨vs, hv⟩ := hf
      have hx : ObjOk X.prog X.w H s.heap dd (.xd fs) := I.hok dd _ hd
      obtain ⟨mA, hns, _⟩ := hx
      obtain ⟨od, ho, _⟩ := lookIn_ns hns
      have J : PySem.W.InstAt s.heap a oe C (some od) := ⟨hget, hz.1, by unfold PySem.W.notCls; rw [hv] <;> rfl, by rw [hz.2]; exact ho⟩
      obtain ⟨cd, hc, _⟩ := PySem.W.any_some T.hd
      exact PySem.W.kia_one (PySem.W.kitx_exc (by rw [hc]; rfl) T.hg T.hk T.hs T.ha T.hn T.ht T.hm) I.kIn J e (fun z => nomatch z) fun tk => ⟨.bl b, H, I.kept (t' := tk) fun _ _ z => z, rfl, q⟩
/-- a class that isinstance names: the program's, or a built-in one -/
inductive CR where
  | own (x : Str) | ty (n : String) (x : Str)
def CR.nm : CR → Str
  | .own x => x
  | .ty _ x => x
def CR.vl (K : PySem.W.Frag) : CR → Value
  | .own x => .ref (He.ga K x)
  | .ty n _ => .type n
def CR.v (K : PySem.W.Frag) : CR → V
  | .own x => .ref (He.ga K x)
  | .ty n _ => .ty n
def CR.Sees (mg : Str → Option Value) (K : PySem.W.Frag) : CR → Prop
  | .own x => mg x = some (.ref (He.ga K x))
  | .ty n x => mg x = none ∧ bootBuiltins x = some (.type n) ∧ x ≠ "__name__"
theorem CR.rel {K : PySem.W.Frag} : ∀ (t : CR) (v : Value), RelV (t.v K) v → v = t.vl K
  | .own x, v, r => by cases r; rfl
  | .ty n x, v, r => by cases r; rfl
theorem CR.relV {K : PySem.W.Frag} : ∀ (t : CR), RelV (t.v K) (t.vl K)
  | .own x => rfl
  | .ty n x => rfl
/-- the table of isinstance -/
structure XIs (K : PySem.W.Frag) (mg : Str → Option Value) (cs : List Str) (ts : List CR) (sb : Str → CR → Bool) : Prop where
  ec : ∀ c ∈ cs, ExcC K (He.ga K c)
  one : ∀ c ∈ cs, ∀ t ∈ ts, PySem.W.kitOne K (.ref (He.ga K c)) (t.vl K) = some (sb c t)
  sees : ∀ t ∈ ts, t.Sees mg K
  isi : mg ("isinstance" : Str) = none
/-- isinstance(e, C), .. -/
inductive IsRow (sc : Scope) (en : Str) : List Expr → List CR → Prop
  | nil : IsRow sc en [] []
  | cons {t : CR} {p1 p2 p3 p4 : Pos} {es : List Expr} {l : List CR} (hg : sc.names.lookup t.nm = some .globalImplicit) (hdb : (t.nm == ("__debug__" : Str)) = false) (r : IsRow sc en es l) : IsRow sc en (.Call (.Name "isinstance" p1) [.Name en p2, .Name t.nm p3] [] p4 :: es) (t :: l)
/-- the entry's heap stands; the row under way at p -/
def FlI (H0 H : Hp) (p : Addr) (xs : List V) : Prop := H0 p = none ∧ H p = some (.lst xs) ∧ ∀ b o, H0 b = some o → H b = some o
section
variable {X : Cx} {K : PySem.W.Frag} {mg : Str → Option Value} {N : List Str} {sc : Scope} {en rw_ : Str} {a : Addr} {oe : Obj} {d : Option Addr} {c : Str} {cs : List Str} {ts : List CR} {sb : Str → CR → Bool}
/-- what the walk knows of its context -/
structure HotX (X : Cx) (K : PySem.W.Frag) (mg : Str → Option Value) (N : List Str) (sc : Scope) (a : Addr) (oe : Obj) (d : Option Addr) (c : Str) : Prop where
  eK : X.K = K
  em : X.mg = mg
  eN : X.N = N
  es : X.env.scope = sc
  pin : (a, oe) ∈ X.pn
  z : Zc (.ref (He.ga K c)) d oe
  f : ∃ vs, oe.data = .fields vs
  nd : N.Nodup
  fn : ∀ x, X.fn x = true
theorem pa_isRow (h : HotX X K mg N sc a oe d c) (T : XIs K mg cs ts sb) (hc : c ∈ cs) {i : Nat} (hN : N[i]? = some en) (hv : Vis sc en) (hd : (en == ("__debug__" : Str)) = false) (hcd : (en == ("__classdict__" : Str)) = false) (hi : sc.names.lookup ("isinstance" : Str) = some .globalImplicit) :
    ∀ {es : List Expr} {l : List CR}, IsRow sc en es l → (∀ t ∈ l, t ∈ ts) → PA X es (fun σ H Q => σ[i]? = some (some (.ref a)) ∧ (∃ dd fs, d = some dd ∧ H dd = some (.xd fs)) ∧ Q (l.map fun t => .bl (sb c t)) H) := by
  intro es l hr
  induction hr with
  | nil => exact fun _ => pa_imp pa_nil fun σ H Q ⟨_, _, q⟩ => q
  | @cons t p1 p2 p3 p4 es l hg hdb r ih =>
    intro hl
    have ht := hl t List.mem_cons_self
    obtain ⟨eK, em, eN, es', pin, z, f, nd, fn⟩ := h
    subst eK em eN es'
    have pt : PE X (.Name t.nm p3) (tC (t.v X.K)) := by
      have sn := T.sees t ht
      cases t with
      | own x => exact pe_glob hg sn (CR.relV (.own x)) hdb
      | ty n x => exact pe_bltn hg sn.1 sn.2.1 (CR.relV (.ty n x)) sn.2.2 hdb
    have pc := pe_callB (p := p1) (pos := p4) (call_isX (T.ec c hc) z f pin) hi T.isi boot_isinstance (pa_cons (pe_var (pos := p2) hN hv hd hcd) (pa_cons pt pa_nil))
    refine pa_imp (pa_cons pc (ih fun t ht => hl t (List.mem_cons_of_mem _ ht))) fun σ H Q ⟨hσ, hd', q⟩ => ?_
    exact ⟨_, hσ, _, _, sb c t, rfl, fun v r => CR.rel t v r, T.one c hc t ht, hd', hσ, hd', q⟩
end
end Hm
set_option Elab.async false
set_option linter.all false
set_option maxRecDepth 100000
set_option maxHeartbeats 2000000
namespace Hm
open PySem PySem.Spec L2 PyProof.Rows

/-! ### row = []; row.extend([isinstance(e, ..), ..]); ..; return row -/
inductive FlB (sc : Scope) (en rn : Str) : List Stmt → List CR → Prop
  | ret {p pos : Pos} : FlB sc en rn [.Return (some (.Name rn p)) pos] []
  | ext {p1 p2 p3 p4 p5 : Pos} {es : List Expr} {rest : List Stmt} {l m : List CR} (hr : IsRow sc en es l) (hs : ∀ env, swapsWith (.Call (.Attribute (.Name rn p1) "extend" p2) [.List es p3] [] p4) none p5.line env = pure false)
      (hbase : ∀ env, attributeBase (.Name rn p1) "extend" env (eval (.Name rn p1) env) = eval (.Name rn p1) env) (hfew : ∀ env, ((backTo p4 (starEach [.List es p3] env)).all (fun x => !x.1) && (backToKw p4 (keywordEach [] env)).all (fun x => x.1.isSome)
        && decide ([(PySem.Expr.List es p3)].length + ([] : List Keyword).length + (if ([] : List Keyword).isEmpty then 0 else 1) < 30)) = true) (hline : (p2.endLine == p4.line) = true)
      (t : FlB sc en rn rest m) : FlB sc en rn (.Expr (.Call (.Attribute (.Name rn p1) "extend" p2) [.List es p3] [] p4) p5 :: rest) (l ++ m)
section
variable {X : Cx} {K : PySem.W.Frag} {mg : Str → Option Value} {N : List Str} {sc : Scope} {en rn : Str} {a : Addr} {oe : Obj} {d : Option Addr} {c : Str} {cs : List Str} {ts : List CR} {sb : Str → CR → Bool}
theorem FlI.ext {H0 H : Hp} {p q : Addr} {xs ys zs : List V} (h : FlI H0 H p xs) (n : H q = none) : FlI H0 (upd (upd H q (.lst ys)) p (.lst zs)) p zs := by
  refine ⟨h.1, upd_same, fun b o e => ?_⟩
  have e1 := h.2.2 b o e
  rw [upd_ne (fun z => by rw [z, h.1] at e; cases e), upd_ne (fun z => by rw [z, n] at e1; cases e1)]
  exact e1
theorem fl_walk (h : HotX X K mg N sc a oe d c) (T : XIs K mg cs ts sb) (hc : c ∈ cs) (h0 : N[0]? = some en) (hv : Vis sc en) (hd : (en == ("__debug__" : Str)) = false) (hcd : (en == ("__classdict__" : Str)) = false) (hi : sc.names.lookup ("isinstance" : Str) = some .globalImplicit)
    (h1 : N[1]? = some rn) (hv1 : Vis sc rn) (hd1 : (rn == ("__debug__" : Str)) = false) (hcd1 : (rn == ("__classdict__" : Str)) = false) :
    ∀ {body : List Stmt} {l : List CR}, FlB sc en rn body l → (∀ t ∈ l, t ∈ ts) → ∃ t, PSs X body t ∧ ∀ (D : Ends) (σ : L2.St) (H0 H : Hp) (p : Addr) (xs : List V), σ[0]? = some (some (.ref a)) → σ[1]? = some (some (.ref p)) → FlI H0 H p xs → (∃ dd fs, d = some dd ∧ H dd = some (.xd fs)) → xs.length + l.length ≤ 1000 →
      (∀ H', FlI H0 H' p (xs ++ l.map fun t => .bl (sb c t)) → D.rt (.ref p) H') → t D σ H := by
  have pn : ∀ p1, PE X (.Name rn p1) (tVar 1) := fun p1 => by
    obtain ⟨eK, em, eN, es', _, _, _, _, _⟩ := h
    subst eN es'
    exact pe_var h1 hv1 hd1 hcd1
  intro body l hb
  induction hb with
  | @ret p pos =>
    intro _
    refine ⟨_, pss_one (ps_ret (pn p)), fun D σ H0 H q xs _ hq fi _ _ go => ?_⟩
    refine ⟨.ref q, hq, go H ?_⟩
    rw [List.map_nil, List.append_nil]
    exact fi
  | @ext p1 p2 p3 p4 p5 es rest l m hr hs hbase hfew hline t ih =>
    intro hl
    obtain ⟨t2, ps2, r2⟩ := ih fun t ht => hl t (List.mem_append_right _ ht)
    have pr := pa_isRow h T hc h0 hv hd hcd hi hr fun t ht => hl t (List.mem_append_left _ ht)
    refine ⟨_, pss_cons (ps_expr (pe_bm F.plainAttrs_list F.slot_list_extend F.type_list_extend mt_extend (pn p1) (pa_cons (pe_lst (pos := p3) pr) pa_nil) (hbase _) (hfew _) hline rfl rfl) (hs _)) ps2, fun D σ H0 H p xs hσ hσ1 fi hdd hlen go => ?_⟩
    rw [List.length_append] at hlen
    refine ⟨.ref p, hσ1, .inl ⟨rfl, xs, .of fi.2.1⟩, hσ, hdd, ?_, fun q hq => ?_⟩
    · rw [List.length_map, sizeLine_eq]; omega
    · have np : p ≠ q := fun z => by rw [← z, fi.2.1] at hq; cases hq
      refine ⟨p, q, xs, _, rfl, rfl, by rw [upd_ne np]; exact fi.2.1, upd_same, ?_, ?_⟩
      · rw [List.length_map, sizeLine_eq]; omega
      · obtain ⟨dd, fs, e, hd'⟩ := hdd
        refine r2 D σ H0 _ p _ hσ hσ1 (fi.ext hq) ⟨dd, fs, e, ?_⟩ ?_ fun H' f' => go H' ?_
        · rw [upd_ne (fun z => by rw [z, fi.2.1] at hd'; cases hd'), upd_ne (fun z => by rw [z, hq] at hd'; cases hd')]
          exact hd'
        · rw [List.length_append, List.length_map]; omega
        · rw [List.map_append, ← List.append_assoc]
          exact f'
end
/-- what a def of the caught exception tells: a row of truths -/
def spRow (K : PySem.W.Frag) (cs : List Str) (sb : Str → CR → Bool) (l : List CR) : Addr × Obj → Sp := fun z vs H Q _ => vs = [.ref z.1] ∧ ∃ (c : Str) (dd : Addr) (fs : List (Str × V)), Zc (.ref (He.ga K c)) (some dd) z.2 ∧ (∃ us, z.2.data = .fields us) ∧ c ∈ cs ∧ H dd = some (.xd fs) ∧
  ∀ q H', FlI H H' q (l.map fun t => .bl (sb c t)) → Q (.ref q) H'
section
variable {P : Program} {w : World} {K : PySem.W.Frag} {mg : Str → Option Value} {base : Heap} {x qual : Str} {params : Arguments} {sc : Scope} {f : Addr} {fd : FuncData} {en rn : Str} {cs : List Str} {ts : List CR} {sb : Str → CR → Bool}
theorem hotX_of {z : Addr × Obj} {cd : Value} {A : Around} {outer : List Env} {s : Shared} {H : Hp} {E : XK} {N : List Str} {c : Str} {dd : Addr} (nd : N.Nodup) (hz : Zc (.ref (He.ga K c)) (some dd) z.2) (hf : ∃ us, z.2.data = .fields us) :
    HotX (L2H.cxH (L2.CX P w) P w K mg base N qual sc f cd A outer s H E z) K mg N sc z.1 z.2 (some dd) c :=
  ⟨rfl, rfl, rfl, rfl, List.mem_singleton.mpr rfl, hz, hf, nd, fun _ => rfl⟩
/-- row = []; ..; return row -/
theorem fn_flags {rest : List Stmt} {l : List CR} {p1 p2 pos : Pos} (F : FunD K x qual params (.Assign [.Name rn p1] (.List [] p2) pos :: rest) sc [] [] f fd) (S : FnScope [en, rn] [en] sc) (T : XIs K mg cs ts sb) (hb : FlB sc en rn rest l) (hl : ∀ t ∈ l, t ∈ ts) (hn : l.length ≤ 1000)
    (hv : Vis sc en) (hi : sc.names.lookup ("isinstance" : Str) = some .globalImplicit) (hv1 : Vis sc rn) (hl1 : Loc sc rn) (hs : ∀ env, swapsWith (.List [] p2) (some (.Name rn p1)) pos.line env = pure false)
    (hd : (en == ("__debug__" : Str)) = false := by decide) (hcd : (en == ("__classdict__" : Str)) = false := by decide) (hd1 : (rn == ("__debug__" : Str)) = false := by decide) (hcd1 : (rn == ("__classdict__" : Str)) = false := by decide) :
    FnE P w K mg base (L2.CX P w) 1 f fd [en] (spRow K cs sb l) := by
  refine fn_ofE F S (fun z vs H Q E h => by rw [h.1]; rfl) fun cd A outer s H vs Q E z hr h => ?_
  obtain ⟨rfl, c, dd, fs, hz, hf, hc, hdd, q⟩ := h
  obtain ⟨t, pt, r⟩ := fl_walk (X := L2H.cxH (L2.CX P w) P w K mg base [en, rn] qual sc f cd A outer s H E z) (hotX_of S.nd hz hf) T hc rfl hv hd hcd hi rfl hv1 hd1 hcd1 hb hl
  refine ⟨_, pss_cons (ps_set (i := 1) S.nd rfl hl1 (pe_lst (pos := p2) pa_nil) (hs _) (.inl rfl)) pt, by rw [sizeLine_eq]; exact Nat.zero_le _, fun p hp => ?_⟩
  refine r _ _ H _ p [] rfl rfl ⟨hp, upd_same, fun b o e => ?_⟩ ⟨dd, fs, rfl, ?_⟩ (by simpa using hn) fun H' fi => q p H' fi
  · rw [upd_ne (fun z => by rw [z, hp] at e; cases e)]; exact e
  · rw [upd_ne (fun z => by rw [z, hp] at hdd; cases hdd)]; exact hdd
/-- row = [..]; return row + [..] -/
theorem fn_kinds {es es2 : List Expr} {l l2 : List CR} {p1 p2 p3 p4 p5 p6 pos : Pos} (F : FunD K x qual params [.Assign [.Name rn p1] (.List es p2) pos, .Return (some (.BinOp (.Name rn p3) .Add (.List es2 p4) p5)) p6] sc [] [] f fd) (S : FnScope [en, rn] [en] sc) (T : XIs K mg cs ts sb) (hb : IsRow sc en es l) (hb2 : IsRow sc en es2 l2)
    (hl : ∀ t ∈ l, t ∈ ts) (hl2 : ∀ t ∈ l2, t ∈ ts) (hn : l.length + l2.length ≤ 1000) (hv : Vis sc en) (hi : sc.names.lookup ("isinstance" : Str) = some .globalImplicit) (hv1 : Vis sc rn) (hl1 : Loc sc rn) (hs : ∀ env, swapsWith (.List es p2) (some (.Name rn p1)) pos.line env = pure false)
    (hd : (en == ("__debug__" : Str)) = false := by decide) (hcd : (en == ("__classdict__" : Str)) = false := by decide) (hd1 : (rn == ("__debug__" : Str)) = false := by decide) (hcd1 : (rn == ("__classdict__" : Str)) = false := by decide) :
    FnE P w K mg base (L2.CX P w) 1 f fd [en] (spRow K cs sb (l ++ l2)) := by
  refine fn_ofE F S (fun z vs H Q E h => by rw [h.1]; rfl) fun cd A outer s H vs Q E z hr h => ?_
  obtain ⟨rfl, c, dd, fs, hz, hf, hc, hdd, q⟩ := h
  have hx : HotX (L2H.cxH (L2.CX P w) P w K mg base [en, rn] qual sc f cd A outer s H E z) K mg [en, rn] sc z.1 z.2 (some dd) c := hotX_of S.nd hz hf
  have r1 := pa_isRow hx T hc (i := 0) rfl hv hd hcd hi hb hl
  have r2 := pa_isRow hx T hc (i := 0) rfl hv hd hcd hi hb2 hl2
  refine ⟨_, pss_cons (ps_set (i := 1) S.nd rfl hl1 (pe_lst (pos := p2) r1) (hs _) (.inl rfl)) (pss_one (ps_ret (pe_op op_cat (pe_var (i := 1) rfl hv1 hd1 hcd1) (pe_lst (pos := p4) r2)))), ?_⟩
  refine ⟨rfl, ⟨dd, fs, rfl, hdd⟩, by rw [List.length_map, sizeLine_eq]; omega, fun p hp => ?_⟩
  refine ⟨.ref p, rfl, rfl, ⟨dd, fs, rfl, by rw [upd_ne (fun z => by rw [z, hp] at hdd; cases hdd)]; exact hdd⟩, by rw [List.length_map, sizeLine_eq]; omega, fun p' hp' => ?_⟩
  have ne : p ≠ p' := fun z => by rw [← z, upd_same] at hp'; cases hp'
  refine ⟨p, p', _, _, rfl, rfl, by rw [upd_ne ne, upd_same], upd_same, by rw [List.length_map, List.length_map, sizeLine_eq]; omega, fun u hu => q u _ ?_⟩
  have nu' : u ≠ p' := fun z => by rw [z, upd_same] at hu; cases hu
  rw [upd_ne nu'] at hu
  have nu : u ≠ p := fun z => by rw [z, upd_same] at hu; cases hu
  rw [upd_ne nu] at hu
  rw [upd_ne ne.symm] at hp'
  refine ⟨hu, by rw [upd_same, List.map_append], fun b o e => ?_⟩
  rw [upd_ne (fun z => by rw [z, hu] at e; cases e), upd_ne (fun z => by rw [z, hp'] at e; cases e), upd_ne (fun z => by rw [z, hp] at e; cases e)]
  exact e
end
end Hm
set_option Elab.async false
set_option linter.all false
set_option maxRecDepth 100000
set_option maxHeartbeats 2000000
namespace Hm
open PySem PySem.Spec L2 PyProof.Rows

section
variable {K : PySem.W.Frag} {En : Ent} {F : Hp} {R : List Addr} {E : Ev} {S : Store} {σ : L2.St} {H H' : Hp} {D : Ends} {W : WX}
/-- the heap only grows -/
theorem Rel.grow (r : Rel K En F R E S σ H) (g : ∀ b o, H b = some o → H' b = some o) : Rel K En F R E S σ H' := by
  have same : ∀ {b : Addr} {o : HO}, H b = some o → H' b = H b := fun {b o} e => by rw [e]; exact g b o e
  refine ⟨r.len, fun b o e => g b o (r.frz b o e), r.nodup, fun k c b e1 e2 => ?_, fun i dv e => ?_, r.apart, fun b o e n f => g b o (r.keep b o e n f), r.nf, r.nr, r.elen⟩
  · obtain ⟨q, f⟩ := r.cell k c b e1 e2
    obtain ⟨u, hu⟩ := q.there
    exact ⟨q.mono Le.refl (same hu), f⟩
  · refine (r.slot i dv e).mono Le.refl fun b eb ow f1 f2 f3 => ?_
    have z := r.slot i dv e
    cases dv with
    | val d => cases ow
    | ol ds =>
      obtain ⟨b2, e2, ⟨vs, ho, _⟩, _⟩ := z
      rw [eb] at e2; cases e2
      exact ⟨same ho, f1, f2⟩
    | od ds =>
      obtain ⟨b2, e2, ⟨vs, ho, _⟩, _⟩ := z
      rw [eb] at e2; cases e2
      exact ⟨same ho, f1, f2⟩
end
theorem reps_bl {K : PySem.W.Frag} {F : Hp} {R : List Addr} : ∀ (l : List Bool), Reps K F R (l.map .bl) (l.map .bl)
  | [] => .nil
  | b :: l => .cons (.bl b) (reps_bl l)

/-! ### found = [flags(e), e.word] + kinds(e) in a suite -/
def wordH (j : Nat) (wd : Str) (fl kd : Str → List Bool) : MH := fun c fs E S => match fs.lookup wd with
  | some w => .nx (E.set j (some (.val (.lst (.lst ((fl c).map .bl) :: w :: (kd c).map .bl))))) S
  | none => .bad
theorem wordH_no {j : Nat} {wd : Str} {fl kd : Str → List Bool} : ∀ c fs E S, noEx (wordH j wd fl kd c fs E S) := fun c fs E S => by
  unfold wordH
  split <;> exact trivial
section
variable {G : Gs} {k : Nat} {N : List Str} {sc : Scope} {cs ks fz : List Str} {sub : Str → Str → Bool} {sb : Str → CR → Bool} {n : Str} {i : Nat}
theorem no_pass {X : Cx} {CX : CXT} (h : CX = L2.CX X.prog X.w) : Passes CX X (fun _ _ _ => False) := noPass h
theorem dh_word {y wd f1 f2 : Str} {p1 p2 p3 p4 p5 p6 p7 p8 p9 pb pos : Pos} {a1 a2 : Addr} {d1 d2 : FuncData} {l1 l2 : List CR} {en1 en2 : Str} (T : XTab G cs sub ks fz) (j : Nat)
    (F1 : FnE G.P G.w G.K G.mg G.base (L2.CX G.P G.w) 1 a1 d1 [en1] (spRow G.K cs sb l1)) (F2 : FnE G.P G.w G.K G.mg G.base (L2.CX G.P G.w) 1 a2 d2 [en2] (spRow G.K cs sb l2)) (b1 : Binds G.K d1 [en1] []) (b2 : Binds G.K d2 [en2] [])
    (k1 : PySem.W.keepIn G.K (.ref a1) = true) (k2 : PySem.W.keepIn G.K (.ref a2) = true) (m1 : G.mg f1 = some (.ref a1)) (m2 : G.mg f2 = some (.ref a2)) (hl : l1.length + l2.length ≤ 900) (hf : wd ∈ fz) (hk : 1 ≤ k)
    (hN : N[j]? = some y) (hx : Loc sc y) (hNi : N[i]? = some n) (hv : Vis sc n) (g1 : sc.names.lookup f1 = some .globalImplicit) (g2 : sc.names.lookup f2 = some .globalImplicit)
    (hb : ∀ env, attributeBase (.Name n p5) wd env (eval (.Name n p5) env) = eval (.Name n p5) env)
    (hd : (n == ("__debug__" : Str)) = false := by decide) (hcd : (n == ("__classdict__" : Str)) = false := by decide) (e1 : (f1 == ("__debug__" : Str)) = false := by decide) (e2 : (f2 == ("__debug__" : Str)) = false := by decide) {pz : Pos}
    (hs2 : ∀ env, swapsWith (.BinOp (.List [.Call (.Name f1 p2) [.Name n p3] [] p4, .Attribute (.Name n p5) wd p6] p7) .Add (.Call (.Name f2 p8) [.Name n p9] [] pb) pz) (some (.Name y p1)) pos.line env = pure false) :
    DH G k N sc cs i [.Assign [.Name y p1] (.BinOp (.List [.Call (.Name f1 p2) [.Name n p3] [] p4, .Attribute (.Name n p5) wd p6] p7) .Add (.Call (.Name f2 p8) [.Name n p9] [] pb) pz) pos] (wordH j wd (fun c => l1.map fun t => sb c t) (fun c => l2.map fun t => sb c t)) :=
  ⟨fun X c a oe cls d pn hz hfl => ⟨fun pins s σ H D I h => by
    obtain ⟨En, F, R, E, S, cl, fs, dd, vfs, rfl, hc, rfl, hd', rf, hσ, rel, q⟩ := h
    obtain ⟨eP, ew, eK, emg, ebs, eN, esc, end_, ecalm, eroom⟩ := c.e
    have T1 : XfC X.K (He.ga G.K cl) := by rw [eK]; exact T.xf cl hc
    have no : PySem.W.findIn X.K (.ref (He.ga G.K cl)) wd = some none := by rw [eK]; exact T.no cl hc wd hf
    unfold wordH at q
    split at q
    · rename_i z e
      obtain ⟨v, hv', rv⟩ := repF_lookup rf e
      have pv : ∀ px, PE (X.suite a ((a, oe) :: pn)) (.Name n px) (tVar i) := fun px => pe_var (i := i) (by rw [← eN] at hNi; exact hNi) (by rw [← esc] at hv; exact hv) hd hcd
      have rm : L2H.RoomH 1 (X.suite a ((a, oe) :: pn)).A := ⟨((L2H.roomH_of eroom).mono hk).dp, ((L2H.roomH_of eroom).mono hk).un⟩
      have gl : ∀ {f : Str}, sc.names.lookup f = some .globalImplicit → Gl (X.suite a ((a, oe) :: pn)) f := fun {f} h => by rw [← esc] at h; exact h
      have c1 : PE (X.suite a ((a, oe) :: pn)) (.Call (.Name f1 p2) [.Name n p3] [] p4) _ := pe_callE (X := X.suite a ((a, oe) :: pn)) (z := (a, oe)) (E := fun _ _ _ => False) (CX := L2.CX X.prog X.w) (k := 1) (f := a1) (fd := d1) (ps := [en1]) (sp := spRow G.K cs sb l1) (by show FnE X.prog X.w X.K X.mg X.base _ _ _ _ _ _; rw [eP, ew, eK, emg, ebs]; exact F1) rm List.mem_cons_self (gl g1) (by show X.mg f1 = _; rw [emg]; exact m1) (by show PySem.W.keepIn X.K _ = _; rw [eK]; exact k1) (by show Binds X.K _ _ _; rw [eK]; exact b1) (no_pass rfl) (pa_cons (pv p3) pa_nil) e1
      have c2 : PE (X.suite a ((a, oe) :: pn)) (.Call (.Name f2 p8) [.Name n p9] [] pb) _ := pe_callE (X := X.suite a ((a, oe) :: pn)) (z := (a, oe)) (E := fun _ _ _ => False) (CX := L2.CX X.prog X.w) (k := 1) (f := a2) (fd := d2) (ps := [en2]) (sp := spRow G.K cs sb l2) (by show FnE X.prog X.w X.K X.mg X.base _ _ _ _ _ _; rw [eP, ew, eK, emg, ebs]; exact F2) rm List.mem_cons_self (gl g2) (by show X.mg f2 = _; rw [emg]; exact m2) (by show PySem.W.keepIn X.K _ = _; rw [eK]; exact k2) (by show Binds X.K _ _ _; rw [eK]; exact b2) (no_pass rfl) (pa_cons (pv p9) pa_nil) e2
      have pw := pe_xf (pos := p6) T1 no hz hfl (pv p5) (hb _)
      have ps := ps_set (X := X.suite a ((a, oe) :: pn)) (i := j) (x := y) (pos' := p1) (pos := pos) (by rw [← eN] at end_; exact end_) (by rw [← eN] at hN; exact hN) (by rw [← esc] at hx; exact hx) (pe_op (pos := pz) op_cat (pe_lst (pos := p7) (pa_cons c1 (pa_cons pw pa_nil))) c2) (hs2 _) (.inl (c.cfn y))
      refine (pss_one ps).run pins s σ H D I ?_
      have hdF := rel.frz
      refine ⟨_, hσ, rfl, cl, dd, vfs, hz, hfl, hc, hd', fun q1 H1 f1' => ?_⟩
      refine ⟨_, hσ, rfl, rfl, dd, vfs, v, rfl, f1'.2.2 _ _ hd', hv', ?_⟩
      refine ⟨by rw [sizeLine_eq]; simp, fun q2 hq2 => ?_⟩
      have g12 : ∀ b o, H b = some o → upd H1 q2 (.lst [.ref q1, v]) b = some o := fun b o eb => by
        have z := f1'.2.2 b o eb
        rw [upd_ne (fun y => by rw [y, hq2] at z; cases z)]; exact z
      refine ⟨_, hσ, rfl, cl, dd, vfs, hz, hfl, hc, g12 _ _ hd', fun q3 H3 f3 => ?_⟩
      have n21 : q1 ≠ q2 := fun y => by rw [← y, f1'.2.1] at hq2; cases hq2
      refine ⟨q2, q3, _, _, rfl, rfl, f3.2.2 _ _ upd_same, f3.2.1, by rw [List.length_map, sizeLine_eq]; simp; omega, fun q4 hq4 => ?_⟩
      -- the ends
      have at1 : H3 q1 = some (.lst (l1.map fun t => .bl (sb cl t))) := f3.2.2 _ _ (by rw [upd_ne n21]; exact f1'.2.1)
      have n41 : q1 ≠ q4 := fun y => by rw [← y, at1] at hq4; cases hq4
      have gr : ∀ b o, H b = some o → upd H3 q4 (.lst ([.ref q1, v] ++ l2.map fun t => .bl (sb cl t))) b = some o := fun b o eb => by
        have z := f3.2.2 b o (g12 b o eb)
        rw [upd_ne (fun y => by rw [y, hq4] at z; cases z)]; exact z
      have r4 := rel.grow gr
      have no1 : H q1 = none := f1'.1
      have no4 : H q4 = none := by
        cases y : H q4 with
        | none => rfl
        | some o => rw [f3.2.2 _ _ (g12 _ _ y)] at hq4; cases hq4
      obtain ⟨x1, x2, x3, x4⟩ := rel.fresh no1
      obtain ⟨y1, y2, y3, y4⟩ := rel.fresh no4
      obtain ⟨le1, r5⟩ := r4.freeze (p := q1) (by rw [upd_ne n41]; exact at1) x1 x2 x3 x4
      obtain ⟨le2, r6⟩ := r5.freeze (p := q4) upd_same (by rw [upd_ne n41.symm]; exact y1) y2 y3 y4
      have le := le1.trans le2
      have rep : Rep G.K (upd (upd F q1 (.lst (l1.map fun t => .bl (sb cl t)))) q4 (.lst ([.ref q1, v] ++ l2.map fun t => .bl (sb cl t)))) R (.lst (.lst ((l1.map fun t => sb cl t).map .bl) :: z :: (l2.map fun t => sb cl t).map .bl)) (.ref q4) := by
        refine .lst upd_same (.cons (.lst (vs := l1.map fun t => .bl (sb cl t)) (by rw [upd_ne n41, upd_same]) ?_) (.cons (rv.mono le _ _) ?_))
        · have := reps_bl (K := G.K) (F := upd (upd F q1 (.lst (l1.map fun t => .bl (sb cl t)))) q4 (.lst ([.ref q1, v] ++ l2.map fun t => .bl (sb cl t)))) (R := R) (l1.map fun t => sb cl t)
          simp only [List.map_map] at this ⊢
          exact this
        · have := reps_bl (K := G.K) (F := upd (upd F q1 (.lst (l1.map fun t => .bl (sb cl t)))) q4 (.lst ([.ref q1, v] ++ l2.map fun t => .bl (sb cl t)))) (R := R) (l2.map fun t => sb cl t)
          simp only [List.map_map] at this ⊢
          exact this
      exact q _ R _ _ le (r6.store (dv := .val _) rep j)
    · exact q.elim⟩⟩

/-! ### try: .. except A as n: .. except B as n: .. -/
def clsS (sub : Str → Str → Bool) : List (Str × Nat × MH) → Str → List (Str × D) → MS
  | [], c, fs => fun E S => .ex c fs E S
  | q :: r, c, fs => fun E S => if sub c q.1 = true then wipeS q.2.1 (q.2.2 c fs (E.set q.2.1 none) S) else clsS sub r c fs E S
def tryMS (cs : List Str) (sub : Str → Str → Bool) (l : List (Str × Nat × MH)) (mb : MS) : MS := fun E S => match mb E S with
  | .ex c fs E1 S1 => if c ∈ cs ∧ ∀ q ∈ l, q.2.1 < E1.length then clsS sub l c fs E1 S1 else .bad
  | r => r
inductive HdD (G : Gs) (k : Nat) (N : List Str) (sc : Scope) (cs ks : List Str) : List ExceptHandler → List (Str × Nat × MH) → Prop
  | nil : HdD G k N sc cs ks [] []
  | cons {x n : Str} {i : Nat} {mh : MH} {b₀ : Stmt} {suite : List Stmt} {np pos : Pos} {hk : List ExceptHandler} {l : List (Str × Nat × MH)} (hh : DH G k N sc cs i (b₀ :: suite) mh) (hno : ∀ c fs E S, noEx (mh c fs E S)) (hx : x ∈ ks) (hN : N[i]? = some n) (hln : sc.names.lookup n = some .local)
      (hg : sc.names.lookup x = some .globalImplicit) (hdb : (x == ("__debug__" : Str)) = false) (r : HdD G k N sc cs ks hk l) : HdD G k N sc cs ks (.ExceptHandler (some (.Name x np)) (some n) (b₀ :: suite) pos :: hk) ((x, i, mh) :: l)
def hdT (K : PySem.W.Frag) (cs : List Str) (q : Str × Nat × MH) : Hnd := (.ref (He.ga K q.1), q.2.1, tH K cs q.2.1 q.2.2)
theorem hdsAs_of {X : Cx} (T : XTab G cs sub ks fz) (c : CtxS G k N sc X) : ∀ {hk : List ExceptHandler} {l : List (Str × Nat × MH)}, HdD G k N sc cs ks hk l → HdsAs X hk (l.map (hdT G.K cs))
  | _, _, .nil => .nil
  | _, _, .cons hh hno hx hN hln hg hdb r => by
    refine .cons (by rw [c.e.cN]; exact hN) (by rw [← c.e.csc] at hln; exact hln) ⟨gl_of c.e hg, hdb, .inl (by rw [c.e.cmg]; exact T.mg _ hx)⟩ (fun a oe cls d pn hz hf => hh.run X c a oe cls d pn hz hf) (hdsAs_of T c r)
theorem wCl_of {En : Ent} {F : Hp} {R : List Addr} {E : Ev} {S : Store} {σ : L2.St} {H : Hp} {D : Ends} {W : WX} {cl : Str} {fs : List (Str × Hm.D)} {dd : Addr} {vfs : List (Str × V)} (T : XTab G cs sub ks fz) (hc : cl ∈ cs) (rel : Rel G.K En F R E S σ H) (hd : H dd = some (.xd vfs)) (rf : RepF G.K F R fs vfs) :
    ∀ {hk : List ExceptHandler} {l : List (Str × Nat × MH)}, HdD G k N sc cs ks hk l → (∀ q ∈ l, q.2.1 < E.length) → PostS G.K En F R D W (clsS sub l cl fs E S) → wCl G.K W D (l.map (hdT G.K cs)) (.ref (He.ga G.K cl)) (some dd) σ H
  | _, _, .nil, _, h => h F R σ H dd vfs Le.refl rel hd rf
  | _, _, .cons (x := x) (i := i) (mh := mh) (l := l) hh hno hx hN hln hg hdb r, hl, h => by
    refine ⟨sub cl x, T.em cl hc x hx, fun hy a na => ?_, fun hy => ?_⟩
    · unfold clsS at h
      rw [if_pos hy] at h
      have h2 := post_wipe (post_noX (noEx_wipe (hno _ _ _ _)) h)
      have hlt : i < σ.length := by rw [← rel.elen]; exact hl _ List.mem_cons_self
      exact ⟨En, F, R, _, S, cl, fs, dd, vfs, rfl, hc, rfl, hd, rf, List.getElem?_set_self hlt, rel.unslot i _, h2⟩
    · unfold clsS at h
      rw [if_neg (by rw [hy]; exact Bool.false_ne_true)] at h
      exact wCl_of T hc rel hd rf r (fun q hq => hl q (List.mem_cons_of_mem _ hq)) h
theorem ds_tryMany {body : List Stmt} {mb : MS} {h₀ : ExceptHandler} {hs : List ExceptHandler} {l : List (Str × Nat × MH)} {pos : Pos} (T : XTab G cs sub ks fz) (hb : DSs G k N sc body mb) (hh : HdD G k N sc cs ks (h₀ :: hs) l) : DS G k N sc (.Try body (h₀ :: hs) [] [] pos) (tryMS cs sub l mb) :=
  ⟨fun X W c tk => by
    have eK := c.e.cK
    refine ps_imp (ps_try_manyAs (tb := fun W => tS G.K mb W) c.stk c.fr (by rw [c.e.cN]; exact c.e.cnd) tk
      (fun W pn xe tk' ps => hb.run _ W ⟨⟨c.e.cP, c.e.cw, c.e.cK, c.e.cmg, c.e.cbase, c.e.cN, c.e.csc, c.e.cnd, c.e.ccalm, c.e.croom⟩, c.stk, c.fr, c.exn, c.cfn, ps⟩ tk') (hdsAs_of T c hh)) fun D σ H h => ?_
    obtain ⟨En, F, R, E, S, rel, h⟩ := h
    refine ⟨En, F, R, E, S, rel, ?_⟩
    unfold tryMS at h
    cases q : mb E S with
    | nx E1 S1 => rw [q] at h; exact h
    | rt dv S1 => rw [q] at h; exact h
    | bk E1 S1 => rw [q] at h; exact h
    | ct E1 S1 => rw [q] at h; exact h
    | bad => rw [q] at h; exact h
    | ex cl fs E1 S1 =>
      rw [q] at h
      dsimp only at h
      split at h
      · rename_i hc
        intro F1 R1 σ1 H1 d vfs le r1 hd rf
        rw [eK]
        exact wCl_of T hc.1 r1 hd rf hh hc.2 (h.mono le)
      · exact h.elim⟩
end
end Hm
set_option Elab.async false
set_option linter.all false
set_option maxRecDepth 100000
set_option maxHeartbeats 2000000
namespace Hm
open PySem PySem.Spec L2 PyProof.Rows

/-! ### x = C(e, ..): an exception that is kept, a cell -/
section
variable {K : PySem.W.Frag} {En : Ent} {F : Hp} {R : List Addr} {E : Ev} {S : Store} {σ : L2.St} {H : Hp}
/-- what is nobody's becomes a cell -/
theorem Rel.newCell (r : Rel K En F R E S σ H) {a : Addr} {c : Cell} (hc : CellAt K F R H a c) (hF : F a = none) (hR : a ∉ R) (hE : En.H a = none) (hS : ¬ OwnSlot E σ a) : Le F R F (R ++ [a]) ∧ Rel K En F (R ++ [a]) E (S ++ [c]) σ H := by
  have le : Le F R F (R ++ [a]) := ⟨fun _ _ h => .inl h, fun j b h => by rw [List.getElem?_append_left ((List.getElem?_eq_some_iff.mp h).1)]; exact h⟩
  refine ⟨le, by rw [List.length_append, List.length_append, r.len]; rfl, r.frz, ?_, fun j cc b e1 e2 => ?_, fun j y ej => ?_, r.apart, fun b u eb n f => r.keep b u eb (fun m => n (List.mem_append_left _ m)) f, r.nf, fun b u eb m => ?_, r.elen⟩
  · rw [List.nodup_append]
    refine ⟨r.nodup, by simp, fun x hx y hy => ?_⟩
    rw [List.mem_singleton.mp hy]
    exact fun z => hR (by rw [← z]; exact hx)
  · by_cases hj : j < S.length
    · rw [List.getElem?_append_left hj] at e1
      rw [List.getElem?_append_left (by rw [r.len]; exact hj)] at e2
      obtain ⟨q, f⟩ := r.cell j cc b e1 e2
      exact ⟨q.mono le rfl, f⟩
    · rw [List.getElem?_append_right (by omega)] at e1
      rw [List.getElem?_append_right (by rw [r.len]; omega), r.len] at e2
      have hz : j - S.length = 0 := by
        have h1 := (List.getElem?_eq_some_iff.mp e1).1
        simp at h1
        omega
      rw [hz] at e1 e2
      cases e1
      cases e2
      exact ⟨hc.mono le rfl, hF⟩
  · refine (r.slot j y ej).mono le fun b eb ow f1 f2 f3 => ⟨rfl, f1, fun m => ?_⟩
    rcases List.mem_append.mp m with m | m
    · exact f2 m
    · exact hS ⟨j, y, ej, ow, by rw [eb, List.mem_singleton.mp m]⟩
  · rcases List.mem_append.mp m with m | m
    · exact r.nr b u eb m
    · rw [List.mem_singleton.mp m, hE] at eb; cases eb
end
def tMkO (C : Addr) (l : Fs) (n : Nat) (dvs : List V) (vs : List V) (H : Hp) (Q : VK) : Prop := vs.length = n ∧ n ≤ 1000 ∧ ∀ a dx, H a = none → H dx = none → dx ≠ a → Q (.ref a) (upd (upd H dx (exd dx (fsV l (vs ++ dvs) []))) a (exo a C (some dx)))
section
variable {X : Cx} {G : Gs} {k : Nat} {N : List Str} {sc : Scope} {pins : List (Addr × Obj)} {σ : L2.St} {H1 : Hp} {s1 : Shared} {x : Str} {n : Nat} {dfl : List D} {l : Fs} {e : Expr} {es : List Expr} {ms : M (List D)} {p pos pos2 : Pos}
theorem mk_kept {C fI : Addr} {b : XB} {j : Nat} {fd : FuncData} {ps : List Str} {ds : List Value} {dvs vs : List V} {us : List Value} {Q : VK} (T : OxC X.K b C) (iC : PySem.W.findIn X.K (.ref C) "__init__" = some (some (.ref fI))) (tI : PySem.W.typeIn X.K (.ref fI) = some (.type "function"))
    (F1 : FnOk X.prog X.w X.K X.mg X.base (L2.CX X.prog X.w) j fI fd ps (spIni C l ps.length)) (hr : Room (j + 1) X.A) (hb : Binds X.K fd ps ds) (hd : Vals dvs ds) (hn : 1 + n + dvs.length = ps.length) (I1 : Inv X pins σ H1 s1) (r1 : Vals vs us) (q1 : tMkO C l n dvs vs H1 Q) :
    wpAny (model X.prog X.w) X.A (call (.ref C) us) (EP X pins σ Q) X.xe s1 := by
  obtain ⟨hvn, hz, q1⟩ := q1
  obtain ⟨hp, g, dr, tk, os⟩ := s1
  have up1 : hp.objs.size ≤ hp.objs.size + 1 := Nat.le_succ _
  have hnew : H1 (hp.objs.size + 1) = none := I1.hok.fresh up1
  have grow : ∀ c o, hp.get? c = some o → ((hp.push (PySem.W.kdv_tup us)).push (PySem.HandSPX.excO C hp.objs.size)).get? c = some o := fun c o e => Heap.get?_push_of_some _ (Heap.get?_push_of_some _ e)
  have at1 : ((hp.push (PySem.W.kdv_tup us)).push (PySem.HandSPX.excO C hp.objs.size)).get? (hp.objs.size + 1) = some (PySem.HandSPX.excO C hp.objs.size) := by heap_get
  have J : Inv X pins σ (upd H1 (hp.objs.size + 1) (exo (hp.objs.size + 1) C none)) ⟨(hp.push (PySem.W.kdv_tup us)).push (PySem.HandSPX.excO C hp.objs.size), g, dr, tk, os⟩ := I1.laid (t' := tk) grow up1 (exo_ok at1)
  have rv : Vals (V.ref (hp.objs.size + 1) :: (vs ++ dvs)) (Value.ref (hp.objs.size + 1) :: (us ++ ds)) := .cons rfl (r1.append hd)
  have lv : (V.ref (hp.objs.size + 1) :: (vs ++ dvs)).length = ps.length := by rw [List.length_cons, List.length_append, hvn]; omega
  have lu : (Value.ref (hp.objs.size + 1) :: us ++ ds).length = ps.length := by rw [← lv]; exact rv.length.symm
  have small : us.length ≤ sizeLine := by
    rw [← Paired.length r1, sizeLine_eq]
    omega
  obtain ⟨nm, N', qn, bs, bm, hdct, sn, sub, ab, col, dd, k0, k1, k2, k3, k5, hC, hT⟩ := PySem.W.excInit_of I1.kIn T.ini
  refine wpAny_call (PySem.HandSPX.call_own b.base hT hC (PySem.W.looks_findIn I1.kIn iC) (fun self => PySem.W.bind_fn I1.kIn self tI) small ?_)
  refine codeAny_mono (F1.run _ X.stack _ _ ⟨Value.ref (hp.objs.size + 1) :: us, []⟩ (Value.ref (hp.objs.size + 1) :: (us ++ ds)) _
    (fun v H2 => v = .non ∧ Q (.ref (hp.objs.size + 1)) H2) (fun _ _ _ => False)
    (hr.make C us []) (J.env0.make C us []) (hb _ (Value.ref (hp.objs.size + 1) :: us) J.kIn lu) rv ?_) fun r s' hq => ?_
  · exact ⟨lv, H1, hp.objs.size + 1, vs ++ dvs, rfl, hnew, rfl, fun dx n1 n2 => ⟨rfl, q1 _ dx hnew n1 n2⟩⟩
  · cases r with
    | error er => exact noPass rfl pins σ _ _ er s' J hq
    | ok fl =>
      cases fl with
      | ret u =>
        obtain ⟨v, H2, I2, rv2, ev, q2⟩ := J.after hq
        subst ev
        exact ⟨rv2, .ref (hp.objs.size + 1), H2, I2, rfl, q2⟩
      | next => exact False.elim hq
      | brk => exact False.elim hq
      | cont => exact False.elim hq
/-- C(e, ..), told -/
theorem pe_mkO {ta : TA} (c : CtxE G k N sc X) (mk : XMk G x n dfl l) (hj : 2 ≤ k) (ha : PA X (e :: es) ta) (hg : sc.names.lookup x = some .globalImplicit) (hdb : (x == ("__debug__" : Str)) = false)
    (he : ∀ env, starEach (e :: es) env = (false, eval e env) :: starEach es env) (hpl : ∀ env, (backTo pos (starEach es env)).any (·.1) = false) :
    ∃ dvs : List V, (∀ F R, Reps G.K F R dfl dvs) ∧ PE X (.Call (.Name x p) (e :: es) [] pos) (fun σ H Q => ta σ H fun vs H1 => tMkO (He.ga G.K x) l n dvs vs H1 Q) := by
  obtain ⟨b, fI, fd, ps, ds, dvs, T, iC, tI, F1, hb, hd, hr, hn⟩ := mk.ex
  refine ⟨dvs, hr, ⟨fun pins s σ H Q I h => ?_⟩⟩
  obtain ⟨q1, q2, q3, q4, q5⟩ := c
  have eK := q3
  refine wpAny_Call_Name_kw (ld_glob I (by rw [← ‹X.env.scope = sc›] at hg; exact hg) (by rw [q4]; exact mk.mg) ?_ hdb)
  refine PySem.W.callWith_K (h₀ := X.base) I.ok.mod.kin (by rw [eK]; exact T.kC) (thn (ha.run pos pins s σ H _ I h) fun us s1 ⟨vs, H1, I1, r1, q⟩ => ⟨I1.kIn, ?_⟩) (he _) (hpl _)
  exact mk_kept (by rw [eK]; exact T) (by rw [eK]; exact iC) (by rw [eK]; exact tI) (by rw [q1, q2, eK, q4, q5]; exact F1) (Room.mono ‹Room k X.A› hj) (by rw [eK]; exact hb) hd hn I1 r1 q
/-- y = C(e, ..) -/
def mkXS (j : Nat) (x : Str) (n : Nat) (dfl : List D) (l : Fs) (ms : M (List D)) : MS := withE ms fun ds E S => if ds.length = n ∧ n ≤ 1000 then .nx (E.set j (some (.val (.ref S.length)))) (S ++ [.exc x (fsD l (ds ++ dfl) [])]) else .bad
theorem ds_mkX {y : Str} {pos' : Pos} (mk : XMk G x n dfl l) (j : Nat) (ha : DA G k N sc (e :: es) ms) (hj : 2 ≤ k := by omega) (hN : N[j]? = some y := by rfl) (hy : Loc sc y := by first | exact .inl rfl | exact .inr rfl) (hg : sc.names.lookup x = some .globalImplicit := by rfl) (hdb : (x == ("__debug__" : Str)) = false := by decide)
    (hs : ∀ env, swapsWith (.Call (.Name x p) (e :: es) [] pos) (some (.Name y pos')) pos2.line env = pure false := by intro _; rfl) (he : ∀ env, starEach (e :: es) env = (false, eval e env) :: starEach es env := by intro _; rfl) (hpl : ∀ env, (backTo pos (starEach es env)).any (·.1) = false := by intro _; rfl) :
    DS G k N sc (.Assign [.Name y pos'] (.Call (.Name x p) (e :: es) [] pos) pos2) (mkXS j x n dfl l ms) :=
  ⟨fun X W c tk => by
    obtain ⟨dvs, hr, pm⟩ := pe_mkO (p := p) (pos := pos) c.e mk hj (ha.run X W c.e tk) hg hdb he hpl
    refine ps_imp (ps_set (i := j) (by rw [c.e.cN]; exact c.e.cnd) (by rw [c.e.cN]; exact hN) (by rw [c.e.csc]; exact hy) pm (hs _) (.inl (c.cfn y))) fun D σ H h => ?_
    obtain ⟨En, F, R, E, S, rel, h⟩ := h
    refine withA_then rel h fun F1 R1 H1 ds vs S1 le rel1 rs q => ?_
    split at q
    · rename_i hz
      refine ⟨by rw [← rs.length]; exact hz.1, hz.2, fun a dx n1 n2 ne => ?_⟩
      have rel2 : Rel G.K En F1 R1 E S1 σ (upd (upd H1 dx (exd dx (fsV l (vs ++ dvs) []))) a (exo a (He.ga G.K x) (some dx))) := (rel1.laid n2).laid (by rw [upd_ne ne.symm]; exact n1)
      obtain ⟨x1, x2, x3, x4⟩ := rel1.fresh n1
      obtain ⟨y1, y2, y3, y4⟩ := rel1.fresh n2
      obtain ⟨le2, rel3⟩ := rel2.freeze (p := dx) (by rw [upd_ne ne, upd_same]) y1 y2 y3 y4
      have rf := fs_rep (rs.append (hr F1 R1)) l .nil
      obtain ⟨le3, rel4⟩ := rel3.newCell (a := a) (c := .exc x (fsD l (ds ++ dfl) [])) ⟨dx, _, upd_same, upd_same, rf.mono le2⟩ (by rw [upd_ne ne.symm]; exact x1) x2 x3 x4
      have rp : Rep G.K (upd F1 dx (exd dx (fsV l (vs ++ dvs) []))) (R1 ++ [a]) (.ref S1.length) (.ref a) := .ref (by rw [← rel1.len, List.getElem?_append_right (Nat.le_refl _), Nat.sub_self]; rfl)
      exact q _ _ _ _ (le2.trans le3) (rel4.store (dv := .val (.ref S1.length)) rp j)
    · exact q.elim⟩
/-- y.f, y such a cell -/
def mExF (cs : List Str) (i : Nat) (f : Str) : M DV := fun E S => match E[i]? with
  | some (some (.val (.ref j))) => (match S[j]? with
    | some (.exc c fs) => (match fs.lookup f with
      | some d => if c ∈ cs then fine d S else .bad
      | none => .bad)
    | _ => .bad)
  | _ => .bad
theorem de_exF {cs ks fz : List Str} {sub : Str → Str → Bool} {y f : Str} {p1 p2 : Pos} (T : XTab G cs sub ks fz) (i : Nat) (hf : f ∈ fz := by simp) (hN : N[i]? = some y := by rfl) (hv : Vis sc y := by first | exact Or.inl rfl | exact Or.inr (Or.inl rfl) | exact Or.inr (Or.inr rfl)) (hd : (y == ("__debug__" : Str)) = false := by decide)
    (hcd : (y == ("__classdict__" : Str)) = false := by decide) (hb : ∀ env, attributeBase (.Name y p1) f env (eval (.Name y p1) env) = eval (.Name y p1) env := by intro _; rfl) : DE G k N sc (.Attribute (.Name y p1) f p2) (mExF cs i f) :=
  ⟨fun X W c tk => ⟨fun pins s σ H Q I h => by
    have eK := c.cK
    obtain ⟨En, F, R, E, S, rel, h⟩ := h
    unfold mExF at h
    split at h
    · rename_i j e1
      split at h
      · rename_i cl fs e2
        split at h
        · rename_i dd e3
          split at h
          · rename_i hc
            obtain ⟨v, ev, rv⟩ := rel.slot i _ e1
            cases rv with
            | ref hk =>
              rename_i a
              obtain ⟨⟨dx, vfs, ha, hx, rf⟩, _⟩ := rel.cell j _ a e2 hk
              obtain ⟨vv, hl, rvv⟩ := repF_lookup rf e3
              have T1 : XfC X.K (He.ga G.K cl) := by rw [eK]; exact T.xf cl hc
              have no : PySem.W.findIn X.K (.ref (He.ga G.K cl)) f = some none := by rw [eK]; exact T.no cl hc f hf
              have pv : PE X (.Name y p1) (tVar i) := pe_var (i := i) (by rw [c.cN]; exact hN) (by rw [c.csc]; exact hv) hd hcd
              refine attr_of (hb _) (thn (pv.run pins s σ H (fun x H1 => x = .ref a ∧ H1 = H) I ⟨_, ev, rfl, rfl⟩) fun u s1 hh => ?_)
              obtain ⟨x0, H1, I1, rx, ex, eh⟩ := hh
              subst ex eh
              obtain rfl : u = Value.ref a := rx
              obtain ⟨t1, ho⟩ := exo_at I1.hok ha
              obtain ⟨mA, hns, hr⟩ := exd_at I1.hok (rel.frz _ _ hx)
              obtain ⟨od, hod, hlk⟩ := lookIn_ns hns
              obtain ⟨u2, hu, ru⟩ := RelO.some_of (v := vv) (o := mA f) (by rw [← hl]; exact hr f)
              have J : PySem.W.InstAt s1.heap a _ (He.ga G.K cl) (some od) := ⟨ho, rfl, rfl, hod⟩
              exact HandSPX.exc_get I1.kIn J T1.ga T1.gg T1.exC (PySem.W.findObj_own T1.hdC no rfl (by rw [hlk, hu])) (handed_of ru) ⟨vv, H1, I1.tok _, ru, h F R H1 Le.refl rel vv rvv⟩
          · exact h.elim
        · exact h.elim
      · exact h.elim
    · exact h.elim⟩⟩
end
end Hm
set_option Elab.async false
set_option linter.all false
set_option maxRecDepth 100000
set_option maxHeartbeats 2000000
namespace Hm
open PySem PySem.Spec L2 PyProof.Rows

/-! ### the facts of isinstance, as two Bools -/
def excB (K : PySem.W.Frag) (C : Addr) : Bool := decide (PySem.W.findIn K (.ref C) "__getattribute__" = some (some (.builtin "BaseException.__getattribute__"))) && (decide (PySem.W.findIn K (.ref C) "__getattr__" = some none) && (decide (PySem.W.subIn K (.ref C) (.type "BaseException") = some true) &&
  (PySem.W.hasDictIn K C && (decide (PySem.W.findIn K (.ref C) "__class__" = some (some (.builtin "object.__class__"))) && (decide (PySem.W.specialIn K (.builtin "object.__class__") "__get__" = some (some (.builtin "getset_descriptor.__get__"))) &&
  (decide (PySem.W.takesIn K (.builtin "object.__class__") = some true) && decide (PySem.W.mroIn K C (.type "object") = some true)))))))
theorem excB_ok {K : PySem.W.Frag} {C : Addr} (h : excB K C = true) : ExcC K C := by
  obtain ⟨h1, h⟩ := Bool.and_eq_true_iff.mp h
  obtain ⟨h2, h⟩ := Bool.and_eq_true_iff.mp h
  obtain ⟨h3, h⟩ := Bool.and_eq_true_iff.mp h
  obtain ⟨h4, h⟩ := Bool.and_eq_true_iff.mp h
  obtain ⟨h5, h⟩ := Bool.and_eq_true_iff.mp h
  obtain ⟨h6, h⟩ := Bool.and_eq_true_iff.mp h
  obtain ⟨h7, h8⟩ := Bool.and_eq_true_iff.mp h
  exact ⟨of_decide_eq_true h1, of_decide_eq_true h2, of_decide_eq_true h3, h4, of_decide_eq_true h5, of_decide_eq_true h6, of_decide_eq_true h7, of_decide_eq_true h8⟩
def excsB (K : PySem.W.Frag) (cs : List Str) : Bool := cs.all fun c => excB K (He.ga K c)
def kitB (K : PySem.W.Frag) (cs : List Str) (ts : List CR) (sb : Str → CR → Bool) : Bool := cs.all fun c => ts.all fun t => decide (PySem.W.kitOne K (.ref (He.ga K c)) (t.vl K) = some (sb c t))
theorem xis_of {K : PySem.W.Frag} {mg : Str → Option Value} {cs : List Str} {ts : List CR} {sb : Str → CR → Bool} (h1 : excsB K cs = true) (h2 : kitB K cs ts sb = true) (h3 : ∀ t ∈ ts, t.Sees mg K) (h4 : mg ("isinstance" : Str) = none) : XIs K mg cs ts sb :=
  ⟨fun c hc => excB_ok (List.all_eq_true.mp h1 c hc), fun c hc t ht => of_decide_eq_true (List.all_eq_true.mp (List.all_eq_true.mp h2 c hc) t ht), h3, h4⟩
end Hm
set_option Elab.async false
set_option linter.all false
set_option maxRecDepth 100000
set_option maxHeartbeats 2000000
namespace Hm
open PySem PySem.W PySem.Calls PySem.Spec PyProof.Rows

/-! ### the run's equation in parts: each part runs the top by itself, so that none wants all the memory -/
noncomputable abbrev EndOf (r : OpenRow) (M : Nat) (w : World) (os : OsState) : Option SharedT := HandSHeadRun.endF (HandSHeadRun.stepQ (HandSHeadRun.denQ HandSHeadRun.tabQ) r.prog w) M r.prog w os
def Part {α : Type} (r : OpenRow) (M : Nat) (w : World) (f : SharedT → α) (v : α) : Prop := ∀ os : OsState, (EndOf r M w os).map f = some v
theorem part_pair {α β : Type} {r : OpenRow} {M : Nat} {w : World} {f : SharedT → α} {g : SharedT → β} {u : α} {v : β} (h1 : Part r M w f u) (h2 : Part r M w g v) : Part r M w (fun s => (f s, g s)) (u, v) := fun os => by
  have a := h1 os
  have b := h2 os
  cases e : EndOf r M w os with
  | none => rw [e] at a; cases a
  | some s =>
    rw [e] at a b
    exact congrArg some (Prod.ext (Option.some.inj a) (Option.some.inj b))
theorem part_eq {α : Type} {r : OpenRow} {M : Nat} {w : World} {f g : SharedT → α} {u : α} (h : Part r M w f u) (e : ∀ s, g s = f s) : Part r M w g u := fun os => by
  rw [show g = f from funext e]; exact h os
theorem run_parts {r : OpenRow} {q : Program} {H : Hook} {ob : SharedT → H.α} {M : Nat} {loose : List PySem.Str} {w : World} (h1 : Part r M w (fun s => HandSHeadRun.looksF r.prog (boot_heap w.params) s.abs) true)
    (h2 : Part r M w (fun s => HandSHeadRun.seenQ q loose (importedModules r.prog.main.body) (fun s => xlAt q [] s && recOk r.toRowW.records s) s.abs) (openGood q loose)) (h3 : Part r M w ob (H.val w)) : HandSHeadRun.RunEq r q H ob M loose w := fun os => by
  exact part_pair h1 (part_pair h2 h3) os
end Hm
set_option Elab.async false
set_option linter.all false
set_option maxRecDepth 100000
set_option maxHeartbeats 4000000
namespace Wk64
open PySem PySem.Spec L2 Hm
def top (i : Nat) : Stmt := PySem.Challenge.pw_hodman_k64_refusals_apart.main.body.getD i (.Pass ⟨0, 0, 0, 0⟩)
def mth (i j : Nat) : Stmt := (C8.clsBody (top i)).getD j (.Pass ⟨0, 0, 0, 0⟩)
abbrev sx_BadBound : Stmt := mth 9 0
def Nx_BadBound : List Str := ["self", "bound"]
theorem scx_BadBound : FnScope Nx_BadBound ["self", "bound"] (defScope sx_BadBound) := ⟨rfl, rfl, rfl, by decide +kernel, rfl, by decide +kernel, by decide +kernel⟩
abbrev sx_BadDay : Stmt := mth 5 0
def Nx_BadDay : List Str := ["self", "day"]
theorem scx_BadDay : FnScope Nx_BadDay ["self", "day"] (defScope sx_BadDay) := ⟨rfl, rfl, rfl, by decide +kernel, rfl, by decide +kernel, by decide +kernel⟩
abbrev sx_BadDeed : Stmt := mth 24 0
def Nx_BadDeed : List Str := ["self"]
theorem scx_BadDeed : FnScope Nx_BadDeed ["self"] (defScope sx_BadDeed) := ⟨rfl, rfl, rfl, by decide +kernel, rfl, by decide +kernel, by decide +kernel⟩
abbrev sx_BadGap : Stmt := mth 20 0
def Nx_BadGap : List Str := ["self"]
theorem scx_BadGap : FnScope Nx_BadGap ["self"] (defScope sx_BadGap) := ⟨rfl, rfl, rfl, by decide +kernel, rfl, by decide +kernel, by decide +kernel⟩
abbrev sx_BadKept : Stmt := mth 10 0
def Nx_BadKept : List Str := ["self", "at"]
theorem scx_BadKept : FnScope Nx_BadKept ["self", "at"] (defScope sx_BadKept) := ⟨rfl, rfl, rfl, by decide +kernel, rfl, by decide +kernel, by decide +kernel⟩
abbrev sx_BadLog : Stmt := mth 13 0
def Nx_BadLog : List Str := ["self", "row"]
theorem scx_BadLog : FnScope Nx_BadLog ["self", "row"] (defScope sx_BadLog) := ⟨rfl, rfl, rfl, by decide +kernel, rfl, by decide +kernel, by decide +kernel⟩
abbrev sx_BadMany : Stmt := mth 18 0
def Nx_BadMany : List Str := ["self"]
theorem scx_BadMany : FnScope Nx_BadMany ["self"] (defScope sx_BadMany) := ⟨rfl, rfl, rfl, by decide +kernel, rfl, by decide +kernel, by decide +kernel⟩
abbrev sx_BadMost : Stmt := mth 11 0
def Nx_BadMost : List Str := ["self", "most"]
theorem scx_BadMost : FnScope Nx_BadMost ["self", "most"] (defScope sx_BadMost) := ⟨rfl, rfl, rfl, by decide +kernel, rfl, by decide +kernel, by decide +kernel⟩
abbrev sx_BadName : Stmt := mth 15 0
def Nx_BadName : List Str := ["self"]
theorem scx_BadName : FnScope Nx_BadName ["self"] (defScope sx_BadName) := ⟨rfl, rfl, rfl, by decide +kernel, rfl, by decide +kernel, by decide +kernel⟩
abbrev sx_BadPlan : Stmt := mth 7 0
def Nx_BadPlan : List Str := ["self", "at"]
theorem scx_BadPlan : FnScope Nx_BadPlan ["self", "at"] (defScope sx_BadPlan) := ⟨rfl, rfl, rfl, by decide +kernel, rfl, by decide +kernel, by decide +kernel⟩
abbrev sx_BadSaying : Stmt := mth 8 0
def Nx_BadSaying : List Str := ["self", "at"]
theorem scx_BadSaying : FnScope Nx_BadSaying ["self", "at"] (defScope sx_BadSaying) := ⟨rfl, rfl, rfl, by decide +kernel, rfl, by decide +kernel, by decide +kernel⟩
abbrev sx_BadStuff : Stmt := mth 6 0
def Nx_BadStuff : List Str := ["self", "stuff"]
theorem scx_BadStuff : FnScope Nx_BadStuff ["self", "stuff"] (defScope sx_BadStuff) := ⟨rfl, rfl, rfl, by decide +kernel, rfl, by decide +kernel, by decide +kernel⟩
abbrev sx_BadText : Stmt := mth 26 0
def Nx_BadText : List Str := ["self", "row"]
theorem scx_BadText : FnScope Nx_BadText ["self", "row"] (defScope sx_BadText) := ⟨rfl, rfl, rfl, by decide +kernel, rfl, by decide +kernel, by decide +kernel⟩
abbrev sx_BadWay : Stmt := mth 4 0
def Nx_BadWay : List Str := ["self", "way"]
theorem scx_BadWay : FnScope Nx_BadWay ["self", "way"] (defScope sx_BadWay) := ⟨rfl, rfl, rfl, by decide +kernel, rfl, by decide +kernel, by decide +kernel⟩
abbrev sx_BadWays : Stmt := mth 19 0
def Nx_BadWays : List Str := ["self", "at"]
theorem scx_BadWays : FnScope Nx_BadWays ["self", "at"] (defScope sx_BadWays) := ⟨rfl, rfl, rfl, by decide +kernel, rfl, by decide +kernel, by decide +kernel⟩
abbrev sx_BadWork : Stmt := mth 3 0
def Nx_BadWork : List Str := ["self", "work"]
theorem scx_BadWork : FnScope Nx_BadWork ["self", "work"] (defScope sx_BadWork) := ⟨rfl, rfl, rfl, by decide +kernel, rfl, by decide +kernel, by decide +kernel⟩
abbrev sx_BadYard : Stmt := mth 2 0
def Nx_BadYard : List Str := ["self", "part", "at"]
theorem scx_BadYard : FnScope Nx_BadYard ["self", "part", "at"] (defScope sx_BadYard) := ⟨rfl, rfl, rfl, by decide +kernel, rfl, by decide +kernel, by decide +kernel⟩
abbrev sx_Broken : Stmt := mth 25 0
def Nx_Broken : List Str := ["self", "at"]
theorem scx_Broken : FnScope Nx_Broken ["self", "at"] (defScope sx_Broken) := ⟨rfl, rfl, rfl, by decide +kernel, rfl, by decide +kernel, by decide +kernel⟩
abbrev sx_Full : Stmt := mth 17 0
def Nx_Full : List Str := ["self", "most"]
theorem scx_Full : FnScope Nx_Full ["self", "most"] (defScope sx_Full) := ⟨rfl, rfl, rfl, by decide +kernel, rfl, by decide +kernel, by decide +kernel⟩
abbrev sx_Held : Stmt := mth 22 0
def Nx_Held : List Str := ["self", "name"]
theorem scx_Held : FnScope Nx_Held ["self", "name"] (defScope sx_Held) := ⟨rfl, rfl, rfl, by decide +kernel, rfl, by decide +kernel, by decide +kernel⟩
abbrev sx_NoLine : Stmt := mth 12 0
def Nx_NoLine : List Str := ["self"]
theorem scx_NoLine : FnScope Nx_NoLine ["self"] (defScope sx_NoLine) := ⟨rfl, rfl, rfl, by decide +kernel, rfl, by decide +kernel, by decide +kernel⟩
abbrev sx_NoPlan : Stmt := mth 14 0
def Nx_NoPlan : List Str := ["self", "log"]
theorem scx_NoPlan : FnScope Nx_NoPlan ["self", "log"] (defScope sx_NoPlan) := ⟨rfl, rfl, rfl, by decide +kernel, rfl, by decide +kernel, by decide +kernel⟩
abbrev sx_NoStuff : Stmt := mth 29 0
def Nx_NoStuff : List Str := ["self", "name"]
theorem scx_NoStuff : FnScope Nx_NoStuff ["self", "name"] (defScope sx_NoStuff) := ⟨rfl, rfl, rfl, by decide +kernel, rfl, by decide +kernel, by decide +kernel⟩
abbrev sx_NoTie : Stmt := mth 30 0
def Nx_NoTie : List Str := ["self", "name"]
theorem scx_NoTie : FnScope Nx_NoTie ["self", "name"] (defScope sx_NoTie) := ⟨rfl, rfl, rfl, by decide +kernel, rfl, by decide +kernel, by decide +kernel⟩
abbrev sx_NoWork : Stmt := mth 28 0
def Nx_NoWork : List Str := ["self", "name"]
theorem scx_NoWork : FnScope Nx_NoWork ["self", "name"] (defScope sx_NoWork) := ⟨rfl, rfl, rfl, by decide +kernel, rfl, by decide +kernel, by decide +kernel⟩
abbrev sx_NothingLeft : Stmt := mth 31 0
def Nx_NothingLeft : List Str := ["self"]
theorem scx_NothingLeft : FnScope Nx_NothingLeft ["self"] (defScope sx_NothingLeft) := ⟨rfl, rfl, rfl, by decide +kernel, rfl, by decide +kernel, by decide +kernel⟩
abbrev sx_Same : Stmt := mth 21 0
def Nx_Same : List Str := ["self"]
theorem scx_Same : FnScope Nx_Same ["self"] (defScope sx_Same) := ⟨rfl, rfl, rfl, by decide +kernel, rfl, by decide +kernel, by decide +kernel⟩
abbrev sx_Taken : Stmt := mth 16 0
def Nx_Taken : List Str := ["self", "name"]
theorem scx_Taken : FnScope Nx_Taken ["self", "name"] (defScope sx_Taken) := ⟨rfl, rfl, rfl, by decide +kernel, rfl, by decide +kernel, by decide +kernel⟩
abbrev sx_Tied : Stmt := mth 23 0
def Nx_Tied : List Str := ["self", "number"]
theorem scx_Tied : FnScope Nx_Tied ["self", "number"] (defScope sx_Tied) := ⟨rfl, rfl, rfl, by decide +kernel, rfl, by decide +kernel, by decide +kernel⟩
def xcs : List Str := ["BadBound", "BadDay", "BadDeed", "BadGap", "BadKept", "BadLog", "BadMany", "BadMost", "BadName", "BadPlan", "BadSaying", "BadStuff", "BadText", "BadWay", "BadWays", "BadWork", "BadYard", "Broken", "Full", "Held", "NoLine", "NoPlan", "NoStuff", "NoTie", "NoWork", "NothingLeft", "Same", "Taken", "Tied"]
def xks : List Str := ["YardError", "Missing", "NothingLeft"]
def xprs : List (Str × Str) := [("BadBound", "YardError"), ("BadDay", "YardError"), ("BadDeed", "YardError"), ("BadGap", "YardError"), ("BadKept", "YardError"), ("BadLog", "YardError"), ("BadMany", "YardError"), ("BadMost", "YardError"), ("BadName", "YardError"), ("BadPlan", "YardError"), ("BadSaying", "YardError"), ("BadStuff", "YardError"), ("BadText", "YardError"), ("BadWay", "YardError"), ("BadWays", "YardError"), ("BadWork", "YardError"), ("BadYard", "YardError"), ("Broken", "YardError"), ("Full", "YardError"), ("Held", "YardError"), ("NoLine", "YardError"), ("NoPlan", "YardError"), ("NoStuff", "Missing"), ("NoTie", "Missing"), ("NoWork", "Missing"), ("NothingLeft", "NothingLeft"), ("Same", "YardError"), ("Taken", "YardError"), ("Tied", "YardError")]
def xsub : Str → Str → Bool := fun c k => decide ((c, k) ∈ xprs)
def lr__law_flags : List CR := ([.own "BadYard", .own "BadWork", .own "BadWay"] ++ ([.own "BadDay", .own "BadStuff", .own "BadPlan"] ++ ([.own "BadSaying", .own "BadBound", .own "BadKept"] ++ ([.own "BadMost", .own "NoLine", .own "BadLog"] ++ ([.own "NoPlan", .own "BadName", .own "Taken"] ++ ([.own "Full", .own "BadMany", .own "BadWays"] ++ ([.own "BadGap", .own "Same", .own "Held"] ++ ([.own "Tied", .own "BadDeed", .own "Broken"] ++ ([.own "BadText", .own "NoWork", .own "NoStuff"] ++ ([.own "NoTie", .own "NothingLeft"] ++ []))))))))))
def lr__law_kinds : List CR := [.own "YardError", .own "Missing", .ty "ValueError" "ValueError"] ++ [.ty "LookupError" "LookupError", .ty "IndexError" "IndexError"]
def xcts : List CR := lr__law_flags ++ lr__law_kinds
def xbps0 : List (Str × Str) := [("BadBound", "BadBound"), ("BadBound", "YardError"), ("BadBound", "ValueError"), ("BadDay", "BadDay"), ("BadDay", "YardError"), ("BadDay", "ValueError"), ("BadDeed", "BadDeed"), ("BadDeed", "YardError"), ("BadDeed", "ValueError"), ("BadGap", "BadGap"), ("BadGap", "YardError"), ("BadGap", "ValueError"), ("BadKept", "BadKept"), ("BadKept", "YardError"), ("BadKept", "ValueError"), ("BadLog", "BadLog"), ("BadLog", "YardError"), ("BadLog", "ValueError"), ("BadMany", "BadMany"), ("BadMany", "YardError")]
def xbps1 : List (Str × Str) := [("BadMany", "ValueError"), ("BadMost", "BadMost"), ("BadMost", "YardError"), ("BadMost", "ValueError"), ("BadName", "BadName"), ("BadName", "YardError"), ("BadName", "ValueError"), ("BadPlan", "BadPlan"), ("BadPlan", "YardError"), ("BadPlan", "ValueError"), ("BadSaying", "BadSaying"), ("BadSaying", "YardError"), ("BadSaying", "ValueError"), ("BadStuff", "BadStuff"), ("BadStuff", "YardError"), ("BadStuff", "ValueError"), ("BadText", "BadText"), ("BadText", "YardError"), ("BadText", "ValueError"), ("BadWay", "BadWay")]
def xbps2 : List (Str × Str) := [("BadWay", "YardError"), ("BadWay", "ValueError"), ("BadWays", "BadWays"), ("BadWays", "YardError"), ("BadWays", "ValueError"), ("BadWork", "BadWork"), ("BadWork", "YardError"), ("BadWork", "ValueError"), ("BadYard", "BadYard"), ("BadYard", "YardError"), ("BadYard", "ValueError"), ("Broken", "Broken"), ("Broken", "YardError"), ("Broken", "ValueError"), ("Full", "Full"), ("Full", "YardError"), ("Full", "ValueError"), ("Held", "Held"), ("Held", "YardError"), ("Held", "ValueError")]
def xbps3 : List (Str × Str) := [("NoLine", "NoLine"), ("NoLine", "YardError"), ("NoLine", "ValueError"), ("NoPlan", "NoPlan"), ("NoPlan", "YardError"), ("NoPlan", "ValueError"), ("NoStuff", "NoStuff"), ("NoStuff", "Missing"), ("NoStuff", "LookupError"), ("NoTie", "NoTie"), ("NoTie", "Missing"), ("NoTie", "LookupError"), ("NoWork", "NoWork"), ("NoWork", "Missing"), ("NoWork", "LookupError"), ("NothingLeft", "NothingLeft"), ("NothingLeft", "LookupError"), ("NothingLeft", "IndexError"), ("Same", "Same"), ("Same", "YardError")]
def xbps4 : List (Str × Str) := [("Same", "ValueError"), ("Taken", "Taken"), ("Taken", "YardError"), ("Taken", "ValueError"), ("Tied", "Tied"), ("Tied", "YardError"), ("Tied", "ValueError")]
def xbps : List (Str × Str) := xbps0 ++ xbps1 ++ xbps2 ++ xbps3 ++ xbps4
def xsb : Str → CR → Bool := fun c t => decide ((c, t.nm) ∈ xbps)
theorem xl__law_flags : ∀ t ∈ lr__law_flags, t ∈ xcts := fun t h => List.mem_append_left _ h
theorem xl__law_kinds : ∀ t ∈ lr__law_kinds, t ∈ xcts := fun t h => List.mem_append_right _ h
structure Fx (G : Gs) : Prop where
  g__law_early : G.mg "_law_early" = some (.ref (He.ga G.K "_law_early"))
  g__law_flags : G.mg "_law_flags" = some (.ref (He.ga G.K "_law_flags"))
  g__law_kinds : G.mg "_law_kinds" = some (.ref (He.ga G.K "_law_kinds"))
  g__law_late : G.mg "_law_late" = some (.ref (He.ga G.K "_law_late"))
  g__law_num : G.mg "_law_num" = some (.ref (He.ga G.K "_law_num"))
  g__law_like : G.mg "_law_like" = some (.ref (He.ga G.K "_law_like"))
  g__law_open : G.mg "_law_open" = some (.ref (He.ga G.K "_law_open"))
  g__law_pull : G.mg "_law_pull" = some (.ref (He.ga G.K "_law_pull"))
  g__law_words : G.mg "_law_words" = some (.ref (He.ga G.K "_law_words"))
  g_law : G.mg "law" = some (.ref (He.ga G.K "law"))
  d__law_early : ∃ fd, FunD G.K "_law_early" "_law_early" (defArgs (top 39)) (defBody (top 39)) (defScope (top 39)) [] [] (He.ga G.K "_law_early") fd
  d__law_flags : ∃ fd, FunD G.K "_law_flags" "_law_flags" (defArgs (top 37)) (defBody (top 37)) (defScope (top 37)) [] [] (He.ga G.K "_law_flags") fd
  d__law_kinds : ∃ fd, FunD G.K "_law_kinds" "_law_kinds" (defArgs (top 41)) (defBody (top 41)) (defScope (top 41)) [] [] (He.ga G.K "_law_kinds") fd
  d__law_late : ∃ fd, FunD G.K "_law_late" "_law_late" (defArgs (top 40)) (defBody (top 40)) (defScope (top 40)) [] [] (He.ga G.K "_law_late") fd
  d__law_num : ∃ fd, FunD G.K "_law_num" "_law_num" (defArgs (top 35)) (defBody (top 35)) (defScope (top 35)) [] [] (He.ga G.K "_law_num") fd
  d__law_like : ∃ fd, FunD G.K "_law_like" "_law_like" (defArgs (top 36)) (defBody (top 36)) (defScope (top 36)) [] [] (He.ga G.K "_law_like") fd
  d__law_open : ∃ fd, FunD G.K "_law_open" "_law_open" (defArgs (top 33)) (defBody (top 33)) (defScope (top 33)) [] [] (He.ga G.K "_law_open") fd
  d__law_pull : ∃ fd, FunD G.K "_law_pull" "_law_pull" (defArgs (top 34)) (defBody (top 34)) (defScope (top 34)) [] [] (He.ga G.K "_law_pull") fd
  d__law_words : ∃ fd, FunD G.K "_law_words" "_law_words" (defArgs (top 38)) (defBody (top 38)) (defScope (top 38)) [] [] (He.ga G.K "_law_words") fd
  d_law : ∃ fd, FunD G.K "law" "law" (defArgs (top 42)) (defBody (top 42)) (defScope (top 42)) [] [] (He.ga G.K "law") fd
  b_IndexError : G.mg "IndexError" = none
  b_LookupError : G.mg "LookupError" = none
  b_ValueError : G.mg "ValueError" = none
  b_all : G.mg "all" = none
  b_bool : G.mg "bool" = none
  b_int : G.mg "int" = none
  b_isinstance : G.mg "isinstance" = none
  b_len : G.mg "len" = none
  b_list : G.mg "list" = none
  b_range : G.mg "range" = none
  b_str : G.mg "str" = none
  b_tuple : G.mg "tuple" = none
  gx_BadBound : G.mg "BadBound" = some (.ref (He.ga G.K "BadBound"))
  gx_BadDay : G.mg "BadDay" = some (.ref (He.ga G.K "BadDay"))
  gx_BadDeed : G.mg "BadDeed" = some (.ref (He.ga G.K "BadDeed"))
  gx_BadGap : G.mg "BadGap" = some (.ref (He.ga G.K "BadGap"))
  gx_BadKept : G.mg "BadKept" = some (.ref (He.ga G.K "BadKept"))
  gx_BadLog : G.mg "BadLog" = some (.ref (He.ga G.K "BadLog"))
  gx_BadMany : G.mg "BadMany" = some (.ref (He.ga G.K "BadMany"))
  gx_BadMost : G.mg "BadMost" = some (.ref (He.ga G.K "BadMost"))
  gx_BadName : G.mg "BadName" = some (.ref (He.ga G.K "BadName"))
  gx_BadPlan : G.mg "BadPlan" = some (.ref (He.ga G.K "BadPlan"))
  gx_BadSaying : G.mg "BadSaying" = some (.ref (He.ga G.K "BadSaying"))
  gx_BadStuff : G.mg "BadStuff" = some (.ref (He.ga G.K "BadStuff"))
  gx_BadText : G.mg "BadText" = some (.ref (He.ga G.K "BadText"))
  gx_BadWay : G.mg "BadWay" = some (.ref (He.ga G.K "BadWay"))
  gx_BadWays : G.mg "BadWays" = some (.ref (He.ga G.K "BadWays"))
  gx_BadWork : G.mg "BadWork" = some (.ref (He.ga G.K "BadWork"))
  gx_BadYard : G.mg "BadYard" = some (.ref (He.ga G.K "BadYard"))
  gx_Broken : G.mg "Broken" = some (.ref (He.ga G.K "Broken"))
  gx_Full : G.mg "Full" = some (.ref (He.ga G.K "Full"))
  gx_Held : G.mg "Held" = some (.ref (He.ga G.K "Held"))
  gx_NoLine : G.mg "NoLine" = some (.ref (He.ga G.K "NoLine"))
  gx_NoPlan : G.mg "NoPlan" = some (.ref (He.ga G.K "NoPlan"))
  gx_NoStuff : G.mg "NoStuff" = some (.ref (He.ga G.K "NoStuff"))
  gx_NoTie : G.mg "NoTie" = some (.ref (He.ga G.K "NoTie"))
  gx_NoWork : G.mg "NoWork" = some (.ref (He.ga G.K "NoWork"))
  gx_NothingLeft : G.mg "NothingLeft" = some (.ref (He.ga G.K "NothingLeft"))
  gx_Same : G.mg "Same" = some (.ref (He.ga G.K "Same"))
  gx_Taken : G.mg "Taken" = some (.ref (He.ga G.K "Taken"))
  gx_Tied : G.mg "Tied" = some (.ref (He.ga G.K "Tied"))
  xc_BadBound : xclB G.K .ve "BadBound" ["at", "bound", "part", "word"] = true
  xc_BadDay : xclB G.K .ve "BadDay" ["at", "day", "part", "word"] = true
  xc_BadDeed : xclB G.K .ve "BadDeed" ["at", "part", "word"] = true
  xc_BadGap : xclB G.K .ve "BadGap" ["at", "part", "word"] = true
  xc_BadKept : xclB G.K .ve "BadKept" ["at", "part", "word"] = true
  xc_BadLog : xclB G.K .ve "BadLog" ["at", "part", "row", "word"] = true
  xc_BadMany : xclB G.K .ve "BadMany" ["at", "part", "word"] = true
  xc_BadMost : xclB G.K .ve "BadMost" ["at", "most", "part", "word"] = true
  xc_BadName : xclB G.K .ve "BadName" ["at", "part", "word"] = true
  xc_BadPlan : xclB G.K .ve "BadPlan" ["at", "part", "word"] = true
  xc_BadSaying : xclB G.K .ve "BadSaying" ["at", "part", "word"] = true
  xc_BadStuff : xclB G.K .ve "BadStuff" ["at", "part", "stuff", "word"] = true
  xc_BadText : xclB G.K .ve "BadText" ["at", "part", "row", "word"] = true
  xc_BadWay : xclB G.K .ve "BadWay" ["at", "part", "way", "word"] = true
  xc_BadWays : xclB G.K .ve "BadWays" ["at", "part", "word"] = true
  xc_BadWork : xclB G.K .ve "BadWork" ["at", "part", "word", "work"] = true
  xc_BadYard : xclB G.K .ve "BadYard" ["at", "part", "word"] = true
  xc_Broken : xclB G.K .ve "Broken" ["at", "part", "word"] = true
  xc_Full : xclB G.K .ve "Full" ["at", "most", "part", "word"] = true
  xc_Held : xclB G.K .ve "Held" ["at", "name", "part", "word"] = true
  xc_NoLine : xclB G.K .ve "NoLine" ["at", "part", "word"] = true
  xc_NoPlan : xclB G.K .ve "NoPlan" ["at", "log", "part", "word"] = true
  xc_NoStuff : xclB G.K .le "NoStuff" ["at", "name", "part", "word"] = true
  xc_NoTie : xclB G.K .le "NoTie" ["at", "name", "part", "word"] = true
  xc_NoWork : xclB G.K .le "NoWork" ["at", "name", "part", "word"] = true
  xc_NothingLeft : xclB G.K .ie "NothingLeft" ["at", "part", "word"] = true
  xc_Same : xclB G.K .ve "Same" ["at", "part", "word"] = true
  xc_Taken : xclB G.K .ve "Taken" ["at", "name", "part", "word"] = true
  xc_Tied : xclB G.K .ve "Tied" ["at", "number", "part", "word"] = true
  dx_BadBound : ∃ fd, FunD G.K "__init__" "BadBound.__init__" (defArgs sx_BadBound) (defBody sx_BadBound) (defScope sx_BadBound) [] [] (He.ma G.K (He.ga G.K "BadBound") "__init__") fd
  dx_BadDay : ∃ fd, FunD G.K "__init__" "BadDay.__init__" (defArgs sx_BadDay) (defBody sx_BadDay) (defScope sx_BadDay) [] [] (He.ma G.K (He.ga G.K "BadDay") "__init__") fd
  dx_BadDeed : ∃ fd, FunD G.K "__init__" "BadDeed.__init__" (defArgs sx_BadDeed) (defBody sx_BadDeed) (defScope sx_BadDeed) [] [] (He.ma G.K (He.ga G.K "BadDeed") "__init__") fd
  dx_BadGap : ∃ fd, FunD G.K "__init__" "BadGap.__init__" (defArgs sx_BadGap) (defBody sx_BadGap) (defScope sx_BadGap) [] [] (He.ma G.K (He.ga G.K "BadGap") "__init__") fd
  dx_BadKept : ∃ fd, FunD G.K "__init__" "BadKept.__init__" (defArgs sx_BadKept) (defBody sx_BadKept) (defScope sx_BadKept) [] [] (He.ma G.K (He.ga G.K "BadKept") "__init__") fd
  dx_BadLog : ∃ fd, FunD G.K "__init__" "BadLog.__init__" (defArgs sx_BadLog) (defBody sx_BadLog) (defScope sx_BadLog) [] [] (He.ma G.K (He.ga G.K "BadLog") "__init__") fd
  dx_BadMany : ∃ fd, FunD G.K "__init__" "BadMany.__init__" (defArgs sx_BadMany) (defBody sx_BadMany) (defScope sx_BadMany) [] [] (He.ma G.K (He.ga G.K "BadMany") "__init__") fd
  dx_BadMost : ∃ fd, FunD G.K "__init__" "BadMost.__init__" (defArgs sx_BadMost) (defBody sx_BadMost) (defScope sx_BadMost) [] [] (He.ma G.K (He.ga G.K "BadMost") "__init__") fd
  dx_BadName : ∃ fd, FunD G.K "__init__" "BadName.__init__" (defArgs sx_BadName) (defBody sx_BadName) (defScope sx_BadName) [] [] (He.ma G.K (He.ga G.K "BadName") "__init__") fd
  dx_BadPlan : ∃ fd, FunD G.K "__init__" "BadPlan.__init__" (defArgs sx_BadPlan) (defBody sx_BadPlan) (defScope sx_BadPlan) [] [] (He.ma G.K (He.ga G.K "BadPlan") "__init__") fd
  dx_BadSaying : ∃ fd, FunD G.K "__init__" "BadSaying.__init__" (defArgs sx_BadSaying) (defBody sx_BadSaying) (defScope sx_BadSaying) [] [] (He.ma G.K (He.ga G.K "BadSaying") "__init__") fd
  dx_BadStuff : ∃ fd, FunD G.K "__init__" "BadStuff.__init__" (defArgs sx_BadStuff) (defBody sx_BadStuff) (defScope sx_BadStuff) [] [] (He.ma G.K (He.ga G.K "BadStuff") "__init__") fd
  dx_BadText : ∃ fd, FunD G.K "__init__" "BadText.__init__" (defArgs sx_BadText) (defBody sx_BadText) (defScope sx_BadText) [.int 0] [] (He.ma G.K (He.ga G.K "BadText") "__init__") fd
  dx_BadWay : ∃ fd, FunD G.K "__init__" "BadWay.__init__" (defArgs sx_BadWay) (defBody sx_BadWay) (defScope sx_BadWay) [] [] (He.ma G.K (He.ga G.K "BadWay") "__init__") fd
  dx_BadWays : ∃ fd, FunD G.K "__init__" "BadWays.__init__" (defArgs sx_BadWays) (defBody sx_BadWays) (defScope sx_BadWays) [] [] (He.ma G.K (He.ga G.K "BadWays") "__init__") fd
  dx_BadWork : ∃ fd, FunD G.K "__init__" "BadWork.__init__" (defArgs sx_BadWork) (defBody sx_BadWork) (defScope sx_BadWork) [] [] (He.ma G.K (He.ga G.K "BadWork") "__init__") fd
  dx_BadYard : ∃ fd, FunD G.K "__init__" "BadYard.__init__" (defArgs sx_BadYard) (defBody sx_BadYard) (defScope sx_BadYard) [] [] (He.ma G.K (He.ga G.K "BadYard") "__init__") fd
  dx_Broken : ∃ fd, FunD G.K "__init__" "Broken.__init__" (defArgs sx_Broken) (defBody sx_Broken) (defScope sx_Broken) [] [] (He.ma G.K (He.ga G.K "Broken") "__init__") fd
  dx_Full : ∃ fd, FunD G.K "__init__" "Full.__init__" (defArgs sx_Full) (defBody sx_Full) (defScope sx_Full) [] [] (He.ma G.K (He.ga G.K "Full") "__init__") fd
  dx_Held : ∃ fd, FunD G.K "__init__" "Held.__init__" (defArgs sx_Held) (defBody sx_Held) (defScope sx_Held) [] [] (He.ma G.K (He.ga G.K "Held") "__init__") fd
  dx_NoLine : ∃ fd, FunD G.K "__init__" "NoLine.__init__" (defArgs sx_NoLine) (defBody sx_NoLine) (defScope sx_NoLine) [] [] (He.ma G.K (He.ga G.K "NoLine") "__init__") fd
  dx_NoPlan : ∃ fd, FunD G.K "__init__" "NoPlan.__init__" (defArgs sx_NoPlan) (defBody sx_NoPlan) (defScope sx_NoPlan) [] [] (He.ma G.K (He.ga G.K "NoPlan") "__init__") fd
  dx_NoStuff : ∃ fd, FunD G.K "__init__" "NoStuff.__init__" (defArgs sx_NoStuff) (defBody sx_NoStuff) (defScope sx_NoStuff) [] [] (He.ma G.K (He.ga G.K "NoStuff") "__init__") fd
  dx_NoTie : ∃ fd, FunD G.K "__init__" "NoTie.__init__" (defArgs sx_NoTie) (defBody sx_NoTie) (defScope sx_NoTie) [] [] (He.ma G.K (He.ga G.K "NoTie") "__init__") fd
  dx_NoWork : ∃ fd, FunD G.K "__init__" "NoWork.__init__" (defArgs sx_NoWork) (defBody sx_NoWork) (defScope sx_NoWork) [] [] (He.ma G.K (He.ga G.K "NoWork") "__init__") fd
  dx_NothingLeft : ∃ fd, FunD G.K "__init__" "NothingLeft.__init__" (defArgs sx_NothingLeft) (defBody sx_NothingLeft) (defScope sx_NothingLeft) [] [] (He.ma G.K (He.ga G.K "NothingLeft") "__init__") fd
  dx_Same : ∃ fd, FunD G.K "__init__" "Same.__init__" (defArgs sx_Same) (defBody sx_Same) (defScope sx_Same) [] [] (He.ma G.K (He.ga G.K "Same") "__init__") fd
  dx_Taken : ∃ fd, FunD G.K "__init__" "Taken.__init__" (defArgs sx_Taken) (defBody sx_Taken) (defScope sx_Taken) [] [] (He.ma G.K (He.ga G.K "Taken") "__init__") fd
  dx_Tied : ∃ fd, FunD G.K "__init__" "Tied.__init__" (defArgs sx_Tied) (defBody sx_Tied) (defScope sx_Tied) [] [] (He.ma G.K (He.ga G.K "Tied") "__init__") fd
  gx_YardError : G.mg "YardError" = some (.ref (He.ga G.K "YardError"))
  gx_Missing : G.mg "Missing" = some (.ref (He.ga G.K "Missing"))
  em : emB G.K xcs xks xsub = true
  xe : excsB G.K xcs = true
  ki : kitB G.K xcs xcts xsb = true
variable {G : Gs}
theorem xcl_BadBound (X : Fx G) : XCl G.K .ve "BadBound" ["at", "bound", "part", "word"] := xcl_of X.xc_BadBound
theorem xcl_BadDay (X : Fx G) : XCl G.K .ve "BadDay" ["at", "day", "part", "word"] := xcl_of X.xc_BadDay
theorem xcl_BadDeed (X : Fx G) : XCl G.K .ve "BadDeed" ["at", "part", "word"] := xcl_of X.xc_BadDeed
theorem xcl_BadGap (X : Fx G) : XCl G.K .ve "BadGap" ["at", "part", "word"] := xcl_of X.xc_BadGap
theorem xcl_BadKept (X : Fx G) : XCl G.K .ve "BadKept" ["at", "part", "word"] := xcl_of X.xc_BadKept
theorem xcl_BadLog (X : Fx G) : XCl G.K .ve "BadLog" ["at", "part", "row", "word"] := xcl_of X.xc_BadLog
theorem xcl_BadMany (X : Fx G) : XCl G.K .ve "BadMany" ["at", "part", "word"] := xcl_of X.xc_BadMany
theorem xcl_BadMost (X : Fx G) : XCl G.K .ve "BadMost" ["at", "most", "part", "word"] := xcl_of X.xc_BadMost
theorem xcl_BadName (X : Fx G) : XCl G.K .ve "BadName" ["at", "part", "word"] := xcl_of X.xc_BadName
theorem xcl_BadPlan (X : Fx G) : XCl G.K .ve "BadPlan" ["at", "part", "word"] := xcl_of X.xc_BadPlan
theorem xcl_BadSaying (X : Fx G) : XCl G.K .ve "BadSaying" ["at", "part", "word"] := xcl_of X.xc_BadSaying
theorem xcl_BadStuff (X : Fx G) : XCl G.K .ve "BadStuff" ["at", "part", "stuff", "word"] := xcl_of X.xc_BadStuff
theorem xcl_BadText (X : Fx G) : XCl G.K .ve "BadText" ["at", "part", "row", "word"] := xcl_of X.xc_BadText
theorem xcl_BadWay (X : Fx G) : XCl G.K .ve "BadWay" ["at", "part", "way", "word"] := xcl_of X.xc_BadWay
theorem xcl_BadWays (X : Fx G) : XCl G.K .ve "BadWays" ["at", "part", "word"] := xcl_of X.xc_BadWays
theorem xcl_BadWork (X : Fx G) : XCl G.K .ve "BadWork" ["at", "part", "word", "work"] := xcl_of X.xc_BadWork
theorem xcl_BadYard (X : Fx G) : XCl G.K .ve "BadYard" ["at", "part", "word"] := xcl_of X.xc_BadYard
theorem xcl_Broken (X : Fx G) : XCl G.K .ve "Broken" ["at", "part", "word"] := xcl_of X.xc_Broken
theorem xcl_Full (X : Fx G) : XCl G.K .ve "Full" ["at", "most", "part", "word"] := xcl_of X.xc_Full
theorem xcl_Held (X : Fx G) : XCl G.K .ve "Held" ["at", "name", "part", "word"] := xcl_of X.xc_Held
theorem xcl_NoLine (X : Fx G) : XCl G.K .ve "NoLine" ["at", "part", "word"] := xcl_of X.xc_NoLine
theorem xcl_NoPlan (X : Fx G) : XCl G.K .ve "NoPlan" ["at", "log", "part", "word"] := xcl_of X.xc_NoPlan
theorem xcl_NoStuff (X : Fx G) : XCl G.K .le "NoStuff" ["at", "name", "part", "word"] := xcl_of X.xc_NoStuff
theorem xcl_NoTie (X : Fx G) : XCl G.K .le "NoTie" ["at", "name", "part", "word"] := xcl_of X.xc_NoTie
theorem xcl_NoWork (X : Fx G) : XCl G.K .le "NoWork" ["at", "name", "part", "word"] := xcl_of X.xc_NoWork
theorem xcl_NothingLeft (X : Fx G) : XCl G.K .ie "NothingLeft" ["at", "part", "word"] := xcl_of X.xc_NothingLeft
theorem xcl_Same (X : Fx G) : XCl G.K .ve "Same" ["at", "part", "word"] := xcl_of X.xc_Same
theorem xcl_Taken (X : Fx G) : XCl G.K .ve "Taken" ["at", "name", "part", "word"] := xcl_of X.xc_Taken
theorem xcl_Tied (X : Fx G) : XCl G.K .ve "Tied" ["at", "number", "part", "word"] := xcl_of X.xc_Tied
theorem ini_BadBound : IniB Nx_BadBound (defScope sx_BadBound) (defBody sx_BadBound) [("word", .txt "badbound"), ("bound", .arg 0)] :=
  (.txt (fun _ => rfl) (.arg rfl (by first | exact Or.inl rfl | exact Or.inr (Or.inl rfl) | exact Or.inr (Or.inr rfl)) (by decide) (by decide) (fun _ => rfl) IniB.nil))
theorem ini_BadDay : IniB Nx_BadDay (defScope sx_BadDay) (defBody sx_BadDay) [("word", .txt "badday"), ("day", .arg 0)] :=
  (.txt (fun _ => rfl) (.arg rfl (by first | exact Or.inl rfl | exact Or.inr (Or.inl rfl) | exact Or.inr (Or.inr rfl)) (by decide) (by decide) (fun _ => rfl) IniB.nil))
theorem ini_BadDeed : IniB Nx_BadDeed (defScope sx_BadDeed) (defBody sx_BadDeed) [("word", .txt "baddeed")] :=
  (.txt (fun _ => rfl) IniB.nil)
theorem ini_BadGap : IniB Nx_BadGap (defScope sx_BadGap) (defBody sx_BadGap) [("word", .txt "badgap")] :=
  (.txt (fun _ => rfl) IniB.nil)
theorem ini_BadKept : IniB Nx_BadKept (defScope sx_BadKept) (defBody sx_BadKept) [("word", .txt "badkept"), ("at", .arg 0)] :=
  (.txt (fun _ => rfl) (.arg rfl (by first | exact Or.inl rfl | exact Or.inr (Or.inl rfl) | exact Or.inr (Or.inr rfl)) (by decide) (by decide) (fun _ => rfl) IniB.nil))
theorem ini_BadLog : IniB Nx_BadLog (defScope sx_BadLog) (defBody sx_BadLog) [("word", .txt "badlog"), ("row", .arg 0)] :=
  (.txt (fun _ => rfl) (.arg rfl (by first | exact Or.inl rfl | exact Or.inr (Or.inl rfl) | exact Or.inr (Or.inr rfl)) (by decide) (by decide) (fun _ => rfl) IniB.nil))
theorem ini_BadMany : IniB Nx_BadMany (defScope sx_BadMany) (defBody sx_BadMany) [("word", .txt "badmany")] :=
  (.txt (fun _ => rfl) IniB.nil)
theorem ini_BadMost : IniB Nx_BadMost (defScope sx_BadMost) (defBody sx_BadMost) [("word", .txt "badmost"), ("most", .arg 0)] :=
  (.txt (fun _ => rfl) (.arg rfl (by first | exact Or.inl rfl | exact Or.inr (Or.inl rfl) | exact Or.inr (Or.inr rfl)) (by decide) (by decide) (fun _ => rfl) IniB.nil))
theorem ini_BadName : IniB Nx_BadName (defScope sx_BadName) (defBody sx_BadName) [("word", .txt "badname")] :=
  (.txt (fun _ => rfl) IniB.nil)
theorem ini_BadPlan : IniB Nx_BadPlan (defScope sx_BadPlan) (defBody sx_BadPlan) [("word", .txt "badplan"), ("at", .arg 0)] :=
  (.txt (fun _ => rfl) (.arg rfl (by first | exact Or.inl rfl | exact Or.inr (Or.inl rfl) | exact Or.inr (Or.inr rfl)) (by decide) (by decide) (fun _ => rfl) IniB.nil))
theorem ini_BadSaying : IniB Nx_BadSaying (defScope sx_BadSaying) (defBody sx_BadSaying) [("word", .txt "badsaying"), ("at", .arg 0)] :=
  (.txt (fun _ => rfl) (.arg rfl (by first | exact Or.inl rfl | exact Or.inr (Or.inl rfl) | exact Or.inr (Or.inr rfl)) (by decide) (by decide) (fun _ => rfl) IniB.nil))
theorem ini_BadStuff : IniB Nx_BadStuff (defScope sx_BadStuff) (defBody sx_BadStuff) [("word", .txt "badstuff"), ("stuff", .arg 0)] :=
  (.txt (fun _ => rfl) (.arg rfl (by first | exact Or.inl rfl | exact Or.inr (Or.inl rfl) | exact Or.inr (Or.inr rfl)) (by decide) (by decide) (fun _ => rfl) IniB.nil))
theorem ini_BadText : IniB Nx_BadText (defScope sx_BadText) (defBody sx_BadText) [("word", .txt "badtext"), ("row", .arg 0)] :=
  (.txt (fun _ => rfl) (.arg rfl (by first | exact Or.inl rfl | exact Or.inr (Or.inl rfl) | exact Or.inr (Or.inr rfl)) (by decide) (by decide) (fun _ => rfl) IniB.nil))
theorem ini_BadWay : IniB Nx_BadWay (defScope sx_BadWay) (defBody sx_BadWay) [("word", .txt "badway"), ("way", .arg 0)] :=
  (.txt (fun _ => rfl) (.arg rfl (by first | exact Or.inl rfl | exact Or.inr (Or.inl rfl) | exact Or.inr (Or.inr rfl)) (by decide) (by decide) (fun _ => rfl) IniB.nil))
theorem ini_BadWays : IniB Nx_BadWays (defScope sx_BadWays) (defBody sx_BadWays) [("word", .txt "badways"), ("at", .arg 0)] :=
  (.txt (fun _ => rfl) (.arg rfl (by first | exact Or.inl rfl | exact Or.inr (Or.inl rfl) | exact Or.inr (Or.inr rfl)) (by decide) (by decide) (fun _ => rfl) IniB.nil))
theorem ini_BadWork : IniB Nx_BadWork (defScope sx_BadWork) (defBody sx_BadWork) [("word", .txt "badwork"), ("work", .arg 0)] :=
  (.txt (fun _ => rfl) (.arg rfl (by first | exact Or.inl rfl | exact Or.inr (Or.inl rfl) | exact Or.inr (Or.inr rfl)) (by decide) (by decide) (fun _ => rfl) IniB.nil))
theorem ini_BadYard : IniB Nx_BadYard (defScope sx_BadYard) (defBody sx_BadYard) [("word", .txt "badyard"), ("part", .arg 0), ("at", .arg 1)] :=
  (.txt (fun _ => rfl) (.arg rfl (by first | exact Or.inl rfl | exact Or.inr (Or.inl rfl) | exact Or.inr (Or.inr rfl)) (by decide) (by decide) (fun _ => rfl) (.arg rfl (by first | exact Or.inl rfl | exact Or.inr (Or.inl rfl) | exact Or.inr (Or.inr rfl)) (by decide) (by decide) (fun _ => rfl) IniB.nil)))
theorem ini_Broken : IniB Nx_Broken (defScope sx_Broken) (defBody sx_Broken) [("word", .txt "broken"), ("at", .arg 0)] :=
  (.txt (fun _ => rfl) (.arg rfl (by first | exact Or.inl rfl | exact Or.inr (Or.inl rfl) | exact Or.inr (Or.inr rfl)) (by decide) (by decide) (fun _ => rfl) IniB.nil))
theorem ini_Full : IniB Nx_Full (defScope sx_Full) (defBody sx_Full) [("word", .txt "full"), ("most", .arg 0)] :=
  (.txt (fun _ => rfl) (.arg rfl (by first | exact Or.inl rfl | exact Or.inr (Or.inl rfl) | exact Or.inr (Or.inr rfl)) (by decide) (by decide) (fun _ => rfl) IniB.nil))
theorem ini_Held : IniB Nx_Held (defScope sx_Held) (defBody sx_Held) [("word", .txt "held"), ("name", .arg 0)] :=
  (.txt (fun _ => rfl) (.arg rfl (by first | exact Or.inl rfl | exact Or.inr (Or.inl rfl) | exact Or.inr (Or.inr rfl)) (by decide) (by decide) (fun _ => rfl) IniB.nil))
theorem ini_NoLine : IniB Nx_NoLine (defScope sx_NoLine) (defBody sx_NoLine) [("word", .txt "noline")] :=
  (.txt (fun _ => rfl) IniB.nil)
theorem ini_NoPlan : IniB Nx_NoPlan (defScope sx_NoPlan) (defBody sx_NoPlan) [("word", .txt "noplan"), ("log", .arg 0)] :=
  (.txt (fun _ => rfl) (.arg rfl (by first | exact Or.inl rfl | exact Or.inr (Or.inl rfl) | exact Or.inr (Or.inr rfl)) (by decide) (by decide) (fun _ => rfl) IniB.nil))
theorem ini_NoStuff : IniB Nx_NoStuff (defScope sx_NoStuff) (defBody sx_NoStuff) [("word", .txt "nostuff"), ("name", .arg 0)] :=
  (.txt (fun _ => rfl) (.arg rfl (by first | exact Or.inl rfl | exact Or.inr (Or.inl rfl) | exact Or.inr (Or.inr rfl)) (by decide) (by decide) (fun _ => rfl) IniB.nil))
theorem ini_NoTie : IniB Nx_NoTie (defScope sx_NoTie) (defBody sx_NoTie) [("word", .txt "notie"), ("name", .arg 0)] :=
  (.txt (fun _ => rfl) (.arg rfl (by first | exact Or.inl rfl | exact Or.inr (Or.inl rfl) | exact Or.inr (Or.inr rfl)) (by decide) (by decide) (fun _ => rfl) IniB.nil))
theorem ini_NoWork : IniB Nx_NoWork (defScope sx_NoWork) (defBody sx_NoWork) [("word", .txt "nowork"), ("name", .arg 0)] :=
  (.txt (fun _ => rfl) (.arg rfl (by first | exact Or.inl rfl | exact Or.inr (Or.inl rfl) | exact Or.inr (Or.inr rfl)) (by decide) (by decide) (fun _ => rfl) IniB.nil))
theorem ini_NothingLeft : IniB Nx_NothingLeft (defScope sx_NothingLeft) (defBody sx_NothingLeft) [("word", .txt "nothingleft")] :=
  (.txt (fun _ => rfl) IniB.nil)
theorem ini_Same : IniB Nx_Same (defScope sx_Same) (defBody sx_Same) [("word", .txt "same")] :=
  (.txt (fun _ => rfl) IniB.nil)
theorem ini_Taken : IniB Nx_Taken (defScope sx_Taken) (defBody sx_Taken) [("word", .txt "taken"), ("name", .arg 0)] :=
  (.txt (fun _ => rfl) (.arg rfl (by first | exact Or.inl rfl | exact Or.inr (Or.inl rfl) | exact Or.inr (Or.inr rfl)) (by decide) (by decide) (fun _ => rfl) IniB.nil))
theorem ini_Tied : IniB Nx_Tied (defScope sx_Tied) (defBody sx_Tied) [("word", .txt "tied"), ("number", .arg 0)] :=
  (.txt (fun _ => rfl) (.arg rfl (by first | exact Or.inl rfl | exact Or.inr (Or.inl rfl) | exact Or.inr (Or.inr rfl)) (by decide) (by decide) (fun _ => rfl) IniB.nil))
theorem mk_BadBound_1 (X : Fx G) : XMk G "BadBound" 1 [] [("word", .txt "badbound"), ("bound", .arg 0)] := by
  obtain ⟨fd, Fn⟩ := X.dx_BadBound
  exact xmk_of (vs := []) X.gx_BadBound (xcl_BadBound X) Fn scx_BadBound ini_BadBound ⟨_, .nil, Fn.bindsN (fun _ _ _ _ _ _ us hl => match us, hl with | [_, _], _ => rfl)⟩ (fun _ _ => .nil) rfl (by decide) (by decide) (by simp) (by decide) rfl (by first | exact Or.inl rfl | exact Or.inr (Or.inl rfl) | exact Or.inr (Or.inr rfl))
theorem mk_BadDay_1 (X : Fx G) : XMk G "BadDay" 1 [] [("word", .txt "badday"), ("day", .arg 0)] := by
  obtain ⟨fd, Fn⟩ := X.dx_BadDay
  exact xmk_of (vs := []) X.gx_BadDay (xcl_BadDay X) Fn scx_BadDay ini_BadDay ⟨_, .nil, Fn.bindsN (fun _ _ _ _ _ _ us hl => match us, hl with | [_, _], _ => rfl)⟩ (fun _ _ => .nil) rfl (by decide) (by decide) (by simp) (by decide) rfl (by first | exact Or.inl rfl | exact Or.inr (Or.inl rfl) | exact Or.inr (Or.inr rfl))
theorem mk_BadDeed_0 (X : Fx G) : XMk G "BadDeed" 0 [] [("word", .txt "baddeed")] := by
  obtain ⟨fd, Fn⟩ := X.dx_BadDeed
  exact xmk_of (vs := []) X.gx_BadDeed (xcl_BadDeed X) Fn scx_BadDeed ini_BadDeed ⟨_, .nil, Fn.bindsN (fun _ _ _ _ _ _ us hl => match us, hl with | [_], _ => rfl)⟩ (fun _ _ => .nil) rfl (by decide) (by decide) (by simp) (by decide) rfl (by first | exact Or.inl rfl | exact Or.inr (Or.inl rfl) | exact Or.inr (Or.inr rfl))
theorem mk_BadGap_0 (X : Fx G) : XMk G "BadGap" 0 [] [("word", .txt "badgap")] := by
  obtain ⟨fd, Fn⟩ := X.dx_BadGap
  exact xmk_of (vs := []) X.gx_BadGap (xcl_BadGap X) Fn scx_BadGap ini_BadGap ⟨_, .nil, Fn.bindsN (fun _ _ _ _ _ _ us hl => match us, hl with | [_], _ => rfl)⟩ (fun _ _ => .nil) rfl (by decide) (by decide) (by simp) (by decide) rfl (by first | exact Or.inl rfl | exact Or.inr (Or.inl rfl) | exact Or.inr (Or.inr rfl))
theorem mk_BadKept_1 (X : Fx G) : XMk G "BadKept" 1 [] [("word", .txt "badkept"), ("at", .arg 0)] := by
  obtain ⟨fd, Fn⟩ := X.dx_BadKept
  exact xmk_of (vs := []) X.gx_BadKept (xcl_BadKept X) Fn scx_BadKept ini_BadKept ⟨_, .nil, Fn.bindsN (fun _ _ _ _ _ _ us hl => match us, hl with | [_, _], _ => rfl)⟩ (fun _ _ => .nil) rfl (by decide) (by decide) (by simp) (by decide) rfl (by first | exact Or.inl rfl | exact Or.inr (Or.inl rfl) | exact Or.inr (Or.inr rfl))
theorem mk_BadLog_1 (X : Fx G) : XMk G "BadLog" 1 [] [("word", .txt "badlog"), ("row", .arg 0)] := by
  obtain ⟨fd, Fn⟩ := X.dx_BadLog
  exact xmk_of (vs := []) X.gx_BadLog (xcl_BadLog X) Fn scx_BadLog ini_BadLog ⟨_, .nil, Fn.bindsN (fun _ _ _ _ _ _ us hl => match us, hl with | [_, _], _ => rfl)⟩ (fun _ _ => .nil) rfl (by decide) (by decide) (by simp) (by decide) rfl (by first | exact Or.inl rfl | exact Or.inr (Or.inl rfl) | exact Or.inr (Or.inr rfl))
theorem mk_BadMany_0 (X : Fx G) : XMk G "BadMany" 0 [] [("word", .txt "badmany")] := by
  obtain ⟨fd, Fn⟩ := X.dx_BadMany
  exact xmk_of (vs := []) X.gx_BadMany (xcl_BadMany X) Fn scx_BadMany ini_BadMany ⟨_, .nil, Fn.bindsN (fun _ _ _ _ _ _ us hl => match us, hl with | [_], _ => rfl)⟩ (fun _ _ => .nil) rfl (by decide) (by decide) (by simp) (by decide) rfl (by first | exact Or.inl rfl | exact Or.inr (Or.inl rfl) | exact Or.inr (Or.inr rfl))
theorem mk_BadMost_1 (X : Fx G) : XMk G "BadMost" 1 [] [("word", .txt "badmost"), ("most", .arg 0)] := by
  obtain ⟨fd, Fn⟩ := X.dx_BadMost
  exact xmk_of (vs := []) X.gx_BadMost (xcl_BadMost X) Fn scx_BadMost ini_BadMost ⟨_, .nil, Fn.bindsN (fun _ _ _ _ _ _ us hl => match us, hl with | [_, _], _ => rfl)⟩ (fun _ _ => .nil) rfl (by decide) (by decide) (by simp) (by decide) rfl (by first | exact Or.inl rfl | exact Or.inr (Or.inl rfl) | exact Or.inr (Or.inr rfl))
theorem mk_BadName_0 (X : Fx G) : XMk G "BadName" 0 [] [("word", .txt "badname")] := by
  obtain ⟨fd, Fn⟩ := X.dx_BadName
  exact xmk_of (vs := []) X.gx_BadName (xcl_BadName X) Fn scx_BadName ini_BadName ⟨_, .nil, Fn.bindsN (fun _ _ _ _ _ _ us hl => match us, hl with | [_], _ => rfl)⟩ (fun _ _ => .nil) rfl (by decide) (by decide) (by simp) (by decide) rfl (by first | exact Or.inl rfl | exact Or.inr (Or.inl rfl) | exact Or.inr (Or.inr rfl))
theorem mk_BadPlan_1 (X : Fx G) : XMk G "BadPlan" 1 [] [("word", .txt "badplan"), ("at", .arg 0)] := by
  obtain ⟨fd, Fn⟩ := X.dx_BadPlan
  exact xmk_of (vs := []) X.gx_BadPlan (xcl_BadPlan X) Fn scx_BadPlan ini_BadPlan ⟨_, .nil, Fn.bindsN (fun _ _ _ _ _ _ us hl => match us, hl with | [_, _], _ => rfl)⟩ (fun _ _ => .nil) rfl (by decide) (by decide) (by simp) (by decide) rfl (by first | exact Or.inl rfl | exact Or.inr (Or.inl rfl) | exact Or.inr (Or.inr rfl))
theorem mk_BadSaying_1 (X : Fx G) : XMk G "BadSaying" 1 [] [("word", .txt "badsaying"), ("at", .arg 0)] := by
  obtain ⟨fd, Fn⟩ := X.dx_BadSaying
  exact xmk_of (vs := []) X.gx_BadSaying (xcl_BadSaying X) Fn scx_BadSaying ini_BadSaying ⟨_, .nil, Fn.bindsN (fun _ _ _ _ _ _ us hl => match us, hl with | [_, _], _ => rfl)⟩ (fun _ _ => .nil) rfl (by decide) (by decide) (by simp) (by decide) rfl (by first | exact Or.inl rfl | exact Or.inr (Or.inl rfl) | exact Or.inr (Or.inr rfl))
theorem mk_BadStuff_1 (X : Fx G) : XMk G "BadStuff" 1 [] [("word", .txt "badstuff"), ("stuff", .arg 0)] := by
  obtain ⟨fd, Fn⟩ := X.dx_BadStuff
  exact xmk_of (vs := []) X.gx_BadStuff (xcl_BadStuff X) Fn scx_BadStuff ini_BadStuff ⟨_, .nil, Fn.bindsN (fun _ _ _ _ _ _ us hl => match us, hl with | [_, _], _ => rfl)⟩ (fun _ _ => .nil) rfl (by decide) (by decide) (by simp) (by decide) rfl (by first | exact Or.inl rfl | exact Or.inr (Or.inl rfl) | exact Or.inr (Or.inr rfl))
theorem mk_BadText_1 (X : Fx G) : XMk G "BadText" 1 [] [("word", .txt "badtext"), ("row", .arg 0)] := by
  obtain ⟨fd, Fn⟩ := X.dx_BadText
  exact xmk_of (vs := []) X.gx_BadText (xcl_BadText X) Fn scx_BadText ini_BadText (Fn.binds1 (n := 2) (j := 1) (by simp) rfl (fun _ _ _ _ _ _ _ us its hu hi => match us, its, hu, hi with | [_, _], [_], _, _ => ⟨_, rfl, rfl⟩)) (fun _ _ => .nil) rfl (by decide) (by decide) (by simp) (by decide) rfl (by first | exact Or.inl rfl | exact Or.inr (Or.inl rfl) | exact Or.inr (Or.inr rfl))
theorem mk_BadWay_1 (X : Fx G) : XMk G "BadWay" 1 [] [("word", .txt "badway"), ("way", .arg 0)] := by
  obtain ⟨fd, Fn⟩ := X.dx_BadWay
  exact xmk_of (vs := []) X.gx_BadWay (xcl_BadWay X) Fn scx_BadWay ini_BadWay ⟨_, .nil, Fn.bindsN (fun _ _ _ _ _ _ us hl => match us, hl with | [_, _], _ => rfl)⟩ (fun _ _ => .nil) rfl (by decide) (by decide) (by simp) (by decide) rfl (by first | exact Or.inl rfl | exact Or.inr (Or.inl rfl) | exact Or.inr (Or.inr rfl))
theorem mk_BadWays_1 (X : Fx G) : XMk G "BadWays" 1 [] [("word", .txt "badways"), ("at", .arg 0)] := by
  obtain ⟨fd, Fn⟩ := X.dx_BadWays
  exact xmk_of (vs := []) X.gx_BadWays (xcl_BadWays X) Fn scx_BadWays ini_BadWays ⟨_, .nil, Fn.bindsN (fun _ _ _ _ _ _ us hl => match us, hl with | [_, _], _ => rfl)⟩ (fun _ _ => .nil) rfl (by decide) (by decide) (by simp) (by decide) rfl (by first | exact Or.inl rfl | exact Or.inr (Or.inl rfl) | exact Or.inr (Or.inr rfl))
theorem mk_BadWork_1 (X : Fx G) : XMk G "BadWork" 1 [] [("word", .txt "badwork"), ("work", .arg 0)] := by
  obtain ⟨fd, Fn⟩ := X.dx_BadWork
  exact xmk_of (vs := []) X.gx_BadWork (xcl_BadWork X) Fn scx_BadWork ini_BadWork ⟨_, .nil, Fn.bindsN (fun _ _ _ _ _ _ us hl => match us, hl with | [_, _], _ => rfl)⟩ (fun _ _ => .nil) rfl (by decide) (by decide) (by simp) (by decide) rfl (by first | exact Or.inl rfl | exact Or.inr (Or.inl rfl) | exact Or.inr (Or.inr rfl))
theorem mk_BadYard_2 (X : Fx G) : XMk G "BadYard" 2 [] [("word", .txt "badyard"), ("part", .arg 0), ("at", .arg 1)] := by
  obtain ⟨fd, Fn⟩ := X.dx_BadYard
  exact xmk_of (vs := []) X.gx_BadYard (xcl_BadYard X) Fn scx_BadYard ini_BadYard ⟨_, .nil, Fn.bindsN (fun _ _ _ _ _ _ us hl => match us, hl with | [_, _, _], _ => rfl)⟩ (fun _ _ => .nil) rfl (by decide) (by decide) (by simp) (by decide) rfl (by first | exact Or.inl rfl | exact Or.inr (Or.inl rfl) | exact Or.inr (Or.inr rfl))
theorem mk_Broken_1 (X : Fx G) : XMk G "Broken" 1 [] [("word", .txt "broken"), ("at", .arg 0)] := by
  obtain ⟨fd, Fn⟩ := X.dx_Broken
  exact xmk_of (vs := []) X.gx_Broken (xcl_Broken X) Fn scx_Broken ini_Broken ⟨_, .nil, Fn.bindsN (fun _ _ _ _ _ _ us hl => match us, hl with | [_, _], _ => rfl)⟩ (fun _ _ => .nil) rfl (by decide) (by decide) (by simp) (by decide) rfl (by first | exact Or.inl rfl | exact Or.inr (Or.inl rfl) | exact Or.inr (Or.inr rfl))
theorem mk_Full_1 (X : Fx G) : XMk G "Full" 1 [] [("word", .txt "full"), ("most", .arg 0)] := by
  obtain ⟨fd, Fn⟩ := X.dx_Full
  exact xmk_of (vs := []) X.gx_Full (xcl_Full X) Fn scx_Full ini_Full ⟨_, .nil, Fn.bindsN (fun _ _ _ _ _ _ us hl => match us, hl with | [_, _], _ => rfl)⟩ (fun _ _ => .nil) rfl (by decide) (by decide) (by simp) (by decide) rfl (by first | exact Or.inl rfl | exact Or.inr (Or.inl rfl) | exact Or.inr (Or.inr rfl))
theorem mk_Held_1 (X : Fx G) : XMk G "Held" 1 [] [("word", .txt "held"), ("name", .arg 0)] := by
  obtain ⟨fd, Fn⟩ := X.dx_Held
  exact xmk_of (vs := []) X.gx_Held (xcl_Held X) Fn scx_Held ini_Held ⟨_, .nil, Fn.bindsN (fun _ _ _ _ _ _ us hl => match us, hl with | [_, _], _ => rfl)⟩ (fun _ _ => .nil) rfl (by decide) (by decide) (by simp) (by decide) rfl (by first | exact Or.inl rfl | exact Or.inr (Or.inl rfl) | exact Or.inr (Or.inr rfl))
theorem mk_NoLine_0 (X : Fx G) : XMk G "NoLine" 0 [] [("word", .txt "noline")] := by
  obtain ⟨fd, Fn⟩ := X.dx_NoLine
  exact xmk_of (vs := []) X.gx_NoLine (xcl_NoLine X) Fn scx_NoLine ini_NoLine ⟨_, .nil, Fn.bindsN (fun _ _ _ _ _ _ us hl => match us, hl with | [_], _ => rfl)⟩ (fun _ _ => .nil) rfl (by decide) (by decide) (by simp) (by decide) rfl (by first | exact Or.inl rfl | exact Or.inr (Or.inl rfl) | exact Or.inr (Or.inr rfl))
theorem mk_NoPlan_1 (X : Fx G) : XMk G "NoPlan" 1 [] [("word", .txt "noplan"), ("log", .arg 0)] := by
  obtain ⟨fd, Fn⟩ := X.dx_NoPlan
  exact xmk_of (vs := []) X.gx_NoPlan (xcl_NoPlan X) Fn scx_NoPlan ini_NoPlan ⟨_, .nil, Fn.bindsN (fun _ _ _ _ _ _ us hl => match us, hl with | [_, _], _ => rfl)⟩ (fun _ _ => .nil) rfl (by decide) (by decide) (by simp) (by decide) rfl (by first | exact Or.inl rfl | exact Or.inr (Or.inl rfl) | exact Or.inr (Or.inr rfl))
theorem mk_NoStuff_1 (X : Fx G) : XMk G "NoStuff" 1 [] [("word", .txt "nostuff"), ("name", .arg 0)] := by
  obtain ⟨fd, Fn⟩ := X.dx_NoStuff
  exact xmk_of (vs := []) X.gx_NoStuff (xcl_NoStuff X) Fn scx_NoStuff ini_NoStuff ⟨_, .nil, Fn.bindsN (fun _ _ _ _ _ _ us hl => match us, hl with | [_, _], _ => rfl)⟩ (fun _ _ => .nil) rfl (by decide) (by decide) (by simp) (by decide) rfl (by first | exact Or.inl rfl | exact Or.inr (Or.inl rfl) | exact Or.inr (Or.inr rfl))
theorem mk_NoTie_1 (X : Fx G) : XMk G "NoTie" 1 [] [("word", .txt "notie"), ("name", .arg 0)] := by
  obtain ⟨fd, Fn⟩ := X.dx_NoTie
  exact xmk_of (vs := []) X.gx_NoTie (xcl_NoTie X) Fn scx_NoTie ini_NoTie ⟨_, .nil, Fn.bindsN (fun _ _ _ _ _ _ us hl => match us, hl with | [_, _], _ => rfl)⟩ (fun _ _ => .nil) rfl (by decide) (by decide) (by simp) (by decide) rfl (by first | exact Or.inl rfl | exact Or.inr (Or.inl rfl) | exact Or.inr (Or.inr rfl))
theorem mk_NoWork_1 (X : Fx G) : XMk G "NoWork" 1 [] [("word", .txt "nowork"), ("name", .arg 0)] := by
  obtain ⟨fd, Fn⟩ := X.dx_NoWork
  exact xmk_of (vs := []) X.gx_NoWork (xcl_NoWork X) Fn scx_NoWork ini_NoWork ⟨_, .nil, Fn.bindsN (fun _ _ _ _ _ _ us hl => match us, hl with | [_, _], _ => rfl)⟩ (fun _ _ => .nil) rfl (by decide) (by decide) (by simp) (by decide) rfl (by first | exact Or.inl rfl | exact Or.inr (Or.inl rfl) | exact Or.inr (Or.inr rfl))
theorem mk_NothingLeft_0 (X : Fx G) : XMk G "NothingLeft" 0 [] [("word", .txt "nothingleft")] := by
  obtain ⟨fd, Fn⟩ := X.dx_NothingLeft
  exact xmk_of (vs := []) X.gx_NothingLeft (xcl_NothingLeft X) Fn scx_NothingLeft ini_NothingLeft ⟨_, .nil, Fn.bindsN (fun _ _ _ _ _ _ us hl => match us, hl with | [_], _ => rfl)⟩ (fun _ _ => .nil) rfl (by decide) (by decide) (by simp) (by decide) rfl (by first | exact Or.inl rfl | exact Or.inr (Or.inl rfl) | exact Or.inr (Or.inr rfl))
theorem mk_Same_0 (X : Fx G) : XMk G "Same" 0 [] [("word", .txt "same")] := by
  obtain ⟨fd, Fn⟩ := X.dx_Same
  exact xmk_of (vs := []) X.gx_Same (xcl_Same X) Fn scx_Same ini_Same ⟨_, .nil, Fn.bindsN (fun _ _ _ _ _ _ us hl => match us, hl with | [_], _ => rfl)⟩ (fun _ _ => .nil) rfl (by decide) (by decide) (by simp) (by decide) rfl (by first | exact Or.inl rfl | exact Or.inr (Or.inl rfl) | exact Or.inr (Or.inr rfl))
theorem mk_Taken_1 (X : Fx G) : XMk G "Taken" 1 [] [("word", .txt "taken"), ("name", .arg 0)] := by
  obtain ⟨fd, Fn⟩ := X.dx_Taken
  exact xmk_of (vs := []) X.gx_Taken (xcl_Taken X) Fn scx_Taken ini_Taken ⟨_, .nil, Fn.bindsN (fun _ _ _ _ _ _ us hl => match us, hl with | [_, _], _ => rfl)⟩ (fun _ _ => .nil) rfl (by decide) (by decide) (by simp) (by decide) rfl (by first | exact Or.inl rfl | exact Or.inr (Or.inl rfl) | exact Or.inr (Or.inr rfl))
theorem mk_Tied_1 (X : Fx G) : XMk G "Tied" 1 [] [("word", .txt "tied"), ("number", .arg 0)] := by
  obtain ⟨fd, Fn⟩ := X.dx_Tied
  exact xmk_of (vs := []) X.gx_Tied (xcl_Tied X) Fn scx_Tied ini_Tied ⟨_, .nil, Fn.bindsN (fun _ _ _ _ _ _ us hl => match us, hl with | [_, _], _ => rfl)⟩ (fun _ _ => .nil) rfl (by decide) (by decide) (by simp) (by decide) rfl (by first | exact Or.inl rfl | exact Or.inr (Or.inl rfl) | exact Or.inr (Or.inr rfl))
theorem xt (X : Fx G) : XTab G xcs xsub xks ["word", "part", "at"] where
  mg := fun k hk => by
    simp only [xks, List.mem_cons, List.not_mem_nil, or_false] at hk
    rcases hk with rfl | rfl | rfl
    · exact X.gx_YardError
    · exact X.gx_Missing
    · exact X.gx_NothingLeft
  xf := fun c hc => by
    simp only [xcs, List.mem_cons, List.not_mem_nil, or_false] at hc
    rcases hc with rfl | rfl | rfl | rfl | rfl | rfl | rfl | rfl | rfl | rfl | rfl | rfl | rfl | rfl | rfl | rfl | rfl | rfl | rfl | rfl | rfl | rfl | rfl | rfl | rfl | rfl | rfl | rfl | rfl
    · exact (xcl_BadBound X).ox.xf
    · exact (xcl_BadDay X).ox.xf
    · exact (xcl_BadDeed X).ox.xf
    · exact (xcl_BadGap X).ox.xf
    · exact (xcl_BadKept X).ox.xf
    · exact (xcl_BadLog X).ox.xf
    · exact (xcl_BadMany X).ox.xf
    · exact (xcl_BadMost X).ox.xf
    · exact (xcl_BadName X).ox.xf
    · exact (xcl_BadPlan X).ox.xf
    · exact (xcl_BadSaying X).ox.xf
    · exact (xcl_BadStuff X).ox.xf
    · exact (xcl_BadText X).ox.xf
    · exact (xcl_BadWay X).ox.xf
    · exact (xcl_BadWays X).ox.xf
    · exact (xcl_BadWork X).ox.xf
    · exact (xcl_BadYard X).ox.xf
    · exact (xcl_Broken X).ox.xf
    · exact (xcl_Full X).ox.xf
    · exact (xcl_Held X).ox.xf
    · exact (xcl_NoLine X).ox.xf
    · exact (xcl_NoPlan X).ox.xf
    · exact (xcl_NoStuff X).ox.xf
    · exact (xcl_NoTie X).ox.xf
    · exact (xcl_NoWork X).ox.xf
    · exact (xcl_NothingLeft X).ox.xf
    · exact (xcl_Same X).ox.xf
    · exact (xcl_Taken X).ox.xf
    · exact (xcl_Tied X).ox.xf
  no := fun c hc f hf => by
    simp only [xcs, List.mem_cons, List.not_mem_nil, or_false] at hc
    simp only [List.mem_cons, List.not_mem_nil, or_false] at hf
    rcases hc with rfl | rfl | rfl | rfl | rfl | rfl | rfl | rfl | rfl | rfl | rfl | rfl | rfl | rfl | rfl | rfl | rfl | rfl | rfl | rfl | rfl | rfl | rfl | rfl | rfl | rfl | rfl | rfl | rfl
    · exact (xcl_BadBound X).no _ (by rcases hf with rfl | rfl | rfl <;> simp)
    · exact (xcl_BadDay X).no _ (by rcases hf with rfl | rfl | rfl <;> simp)
    · exact (xcl_BadDeed X).no _ (by rcases hf with rfl | rfl | rfl <;> simp)
    · exact (xcl_BadGap X).no _ (by rcases hf with rfl | rfl | rfl <;> simp)
    · exact (xcl_BadKept X).no _ (by rcases hf with rfl | rfl | rfl <;> simp)
    · exact (xcl_BadLog X).no _ (by rcases hf with rfl | rfl | rfl <;> simp)
    · exact (xcl_BadMany X).no _ (by rcases hf with rfl | rfl | rfl <;> simp)
    · exact (xcl_BadMost X).no _ (by rcases hf with rfl | rfl | rfl <;> simp)
    · exact (xcl_BadName X).no _ (by rcases hf with rfl | rfl | rfl <;> simp)
    · exact (xcl_BadPlan X).no _ (by rcases hf with rfl | rfl | rfl <;> simp)
    · exact (xcl_BadSaying X).no _ (by rcases hf with rfl | rfl | rfl <;> simp)
    · exact (xcl_BadStuff X).no _ (by rcases hf with rfl | rfl | rfl <;> simp)
    · exact (xcl_BadText X).no _ (by rcases hf with rfl | rfl | rfl <;> simp)
    · exact (xcl_BadWay X).no _ (by rcases hf with rfl | rfl | rfl <;> simp)
    · exact (xcl_BadWays X).no _ (by rcases hf with rfl | rfl | rfl <;> simp)
    · exact (xcl_BadWork X).no _ (by rcases hf with rfl | rfl | rfl <;> simp)
    · exact (xcl_BadYard X).no _ (by rcases hf with rfl | rfl | rfl <;> simp)
    · exact (xcl_Broken X).no _ (by rcases hf with rfl | rfl | rfl <;> simp)
    · exact (xcl_Full X).no _ (by rcases hf with rfl | rfl | rfl <;> simp)
    · exact (xcl_Held X).no _ (by rcases hf with rfl | rfl | rfl <;> simp)
    · exact (xcl_NoLine X).no _ (by rcases hf with rfl | rfl | rfl <;> simp)
    · exact (xcl_NoPlan X).no _ (by rcases hf with rfl | rfl | rfl <;> simp)
    · exact (xcl_NoStuff X).no _ (by rcases hf with rfl | rfl | rfl <;> simp)
    · exact (xcl_NoTie X).no _ (by rcases hf with rfl | rfl | rfl <;> simp)
    · exact (xcl_NoWork X).no _ (by rcases hf with rfl | rfl | rfl <;> simp)
    · exact (xcl_NothingLeft X).no _ (by rcases hf with rfl | rfl | rfl <;> simp)
    · exact (xcl_Same X).no _ (by rcases hf with rfl | rfl | rfl <;> simp)
    · exact (xcl_Taken X).no _ (by rcases hf with rfl | rfl | rfl <;> simp)
    · exact (xcl_Tied X).no _ (by rcases hf with rfl | rfl | rfl <;> simp)
  em := em_of X.em
theorem xis (X : Fx G) : XIs G.K G.mg xcs xcts xsb := xis_of X.xe X.ki (fun t ht => by
  simp only [xcts, lr__law_flags, lr__law_kinds, List.append_nil, List.cons_append, List.nil_append, List.mem_cons, List.not_mem_nil, or_false] at ht
  rcases ht with rfl | rfl | rfl | rfl | rfl | rfl | rfl | rfl | rfl | rfl | rfl | rfl | rfl | rfl | rfl | rfl | rfl | rfl | rfl | rfl | rfl | rfl | rfl | rfl | rfl | rfl | rfl | rfl | rfl | rfl | rfl | rfl | rfl | rfl
  · exact X.gx_BadYard
  · exact X.gx_BadWork
  · exact X.gx_BadWay
  · exact X.gx_BadDay
  · exact X.gx_BadStuff
  · exact X.gx_BadPlan
  · exact X.gx_BadSaying
  · exact X.gx_BadBound
  · exact X.gx_BadKept
  · exact X.gx_BadMost
  · exact X.gx_NoLine
  · exact X.gx_BadLog
  · exact X.gx_NoPlan
  · exact X.gx_BadName
  · exact X.gx_Taken
  · exact X.gx_Full
  · exact X.gx_BadMany
  · exact X.gx_BadWays
  · exact X.gx_BadGap
  · exact X.gx_Same
  · exact X.gx_Held
  · exact X.gx_Tied
  · exact X.gx_BadDeed
  · exact X.gx_Broken
  · exact X.gx_BadText
  · exact X.gx_NoWork
  · exact X.gx_NoStuff
  · exact X.gx_NoTie
  · exact X.gx_NothingLeft
  · exact X.gx_YardError
  · exact X.gx_Missing
  · exact ⟨X.b_ValueError, rfl, by decide⟩
  · exact ⟨X.b_LookupError, rfl, by decide⟩
  · exact ⟨X.b_IndexError, rfl, by decide⟩) X.b_isinstance
abbrev s__law_early : Stmt := top 39
def N__law_early : List Str := ["_law_at", "_law_a", "_law_b"]
theorem sc__law_early : FnScope N__law_early ["_law_at", "_law_a", "_law_b"] (defScope s__law_early) := ⟨rfl, rfl, rfl, by decide +kernel, rfl, by decide +kernel, by decide +kernel⟩
noncomputable def m__law_early : MS := (seqS (ifS (mTst (mBin eqD (mVar 0) (mK (.int 0)))) (raiseS "BadYard" 2 [] [("word", .txt "badyard"), ("part", .arg 0), ("at", .arg 1)] (mCons (mVar 1) (mCons (mVar 2) mNil))) nextS) (seqS (ifS (mTst (mBin eqD (mVar 0) (mK (.int 1)))) (raiseS "BadWork" 1 [] [("word", .txt "badwork"), ("work", .arg 0)] (mCons (mVar 1) mNil)) nextS) (seqS (ifS (mTst (mBin eqD (mVar 0) (mK (.int 2)))) (raiseS "BadWay" 1 [] [("word", .txt "badway"), ("way", .arg 0)] (mCons (mVar 1) mNil)) nextS) (seqS (ifS (mTst (mBin eqD (mVar 0) (mK (.int 3)))) (raiseS "BadDay" 1 [] [("word", .txt "badday"), ("day", .arg 0)] (mCons (mVar 1) mNil)) nextS) (seqS (ifS (mTst (mBin eqD (mVar 0) (mK (.int 4)))) (raiseS "BadStuff" 1 [] [("word", .txt "badstuff"), ("stuff", .arg 0)] (mCons (mVar 1) mNil)) nextS) (seqS (ifS (mTst (mBin eqD (mVar 0) (mK (.int 5)))) (raiseS "BadPlan" 1 [] [("word", .txt "badplan"), ("at", .arg 0)] (mCons (mVar 1) mNil)) nextS) (seqS (ifS (mTst (mBin eqD (mVar 0) (mK (.int 6)))) (raiseS "BadSaying" 1 [] [("word", .txt "badsaying"), ("at", .arg 0)] (mCons (mVar 1) mNil)) nextS) (seqS (ifS (mTst (mBin eqD (mVar 0) (mK (.int 7)))) (raiseS "BadBound" 1 [] [("word", .txt "badbound"), ("bound", .arg 0)] (mCons (mVar 1) mNil)) nextS) (seqS (ifS (mTst (mBin eqD (mVar 0) (mK (.int 8)))) (raiseS "BadKept" 1 [] [("word", .txt "badkept"), ("at", .arg 0)] (mCons (mVar 1) mNil)) nextS) (seqS (ifS (mTst (mBin eqD (mVar 0) (mK (.int 9)))) (raiseS "BadMost" 1 [] [("word", .txt "badmost"), ("most", .arg 0)] (mCons (mVar 1) mNil)) nextS) (seqS (ifS (mTst (mBin eqD (mVar 0) (mK (.int 10)))) (raiseS "NoLine" 0 [] [("word", .txt "noline")] mNil) nextS) (seqS (ifS (mTst (mBin eqD (mVar 0) (mK (.int 11)))) (raiseS "BadLog" 1 [] [("word", .txt "badlog"), ("row", .arg 0)] (mCons (mVar 1) mNil)) nextS) (seqS (ifS (mTst (mBin eqD (mVar 0) (mK (.int 12)))) (raiseS "NoPlan" 1 [] [("word", .txt "noplan"), ("log", .arg 0)] (mCons (mLst (mCons (mVar 1) mNil)) mNil)) nextS) (seqS (ifS (mTst (mBin eqD (mVar 0) (mK (.int 13)))) (raiseS "BadName" 0 [] [("word", .txt "badname")] mNil) nextS) (raiseS "Taken" 1 [] [("word", .txt "taken"), ("name", .arg 0)] (mCons (mVar 1) mNil))))))))))))))))
noncomputable def F__law_early : FD := runB N__law_early.length m__law_early
theorem k__law_early (X : Fx G) : DSs G 2 N__law_early (defScope s__law_early) (defBody s__law_early) m__law_early :=
  (dss_cons (ds_if (dt_cmpR cr_eq (de_name 0) de_int) (dss_one (ds_raise (mk_BadYard_2 X) (da_cons (de_name 1) (da_cons (de_name 2) da_nil)) (hj := by omega))) dss_nil) (dss_cons (ds_if (dt_cmpR cr_eq (de_name 0) de_int) (dss_one (ds_raise (mk_BadWork_1 X) (da_cons (de_name 1) da_nil) (hj := by omega))) dss_nil) (dss_cons (ds_if (dt_cmpR cr_eq (de_name 0) de_int) (dss_one (ds_raise (mk_BadWay_1 X) (da_cons (de_name 1) da_nil) (hj := by omega))) dss_nil) (dss_cons (ds_if (dt_cmpR cr_eq (de_name 0) de_int) (dss_one (ds_raise (mk_BadDay_1 X) (da_cons (de_name 1) da_nil) (hj := by omega))) dss_nil) (dss_cons (ds_if (dt_cmpR cr_eq (de_name 0) de_int) (dss_one (ds_raise (mk_BadStuff_1 X) (da_cons (de_name 1) da_nil) (hj := by omega))) dss_nil) (dss_cons (ds_if (dt_cmpR cr_eq (de_name 0) de_int) (dss_one (ds_raise (mk_BadPlan_1 X) (da_cons (de_name 1) da_nil) (hj := by omega))) dss_nil) (dss_cons (ds_if (dt_cmpR cr_eq (de_name 0) de_int) (dss_one (ds_raise (mk_BadSaying_1 X) (da_cons (de_name 1) da_nil) (hj := by omega))) dss_nil) (dss_cons (ds_if (dt_cmpR cr_eq (de_name 0) de_int) (dss_one (ds_raise (mk_BadBound_1 X) (da_cons (de_name 1) da_nil) (hj := by omega))) dss_nil) (dss_cons (ds_if (dt_cmpR cr_eq (de_name 0) de_int) (dss_one (ds_raise (mk_BadKept_1 X) (da_cons (de_name 1) da_nil) (hj := by omega))) dss_nil) (dss_cons (ds_if (dt_cmpR cr_eq (de_name 0) de_int) (dss_one (ds_raise (mk_BadMost_1 X) (da_cons (de_name 1) da_nil) (hj := by omega))) dss_nil) (dss_cons (ds_if (dt_cmpR cr_eq (de_name 0) de_int) (dss_one (ds_raise0 (mk_NoLine_0 X) (hj := by omega))) dss_nil) (dss_cons (ds_if (dt_cmpR cr_eq (de_name 0) de_int) (dss_one (ds_raise (mk_BadLog_1 X) (da_cons (de_name 1) da_nil) (hj := by omega))) dss_nil) (dss_cons (ds_if (dt_cmpR cr_eq (de_name 0) de_int) (dss_one (ds_raise (mk_NoPlan_1 X) (da_cons (de_lst (da_cons (de_name 1) da_nil)) da_nil) (hj := by omega))) dss_nil) (dss_cons (ds_if (dt_cmpR cr_eq (de_name 0) de_int) (dss_one (ds_raise0 (mk_BadName_0 X) (hj := by omega))) dss_nil) (dss_one (ds_raise (mk_Taken_1 X) (da_cons (de_name 1) da_nil) (hj := by omega)))))))))))))))))
theorem ok__law_early (X : Fx G) : FOk G 3 (He.ga G.K "_law_early") ["_law_at", "_law_a", "_law_b"] F__law_early := by
  obtain ⟨fd, Fn⟩ := X.d__law_early
  exact fok Fn sc__law_early (fun _ _ _ _ _ _ us hl => match us, hl with | [_, _, _], _ => rfl) (k__law_early X)
abbrev s__law_flags : Stmt := top 37
def N__law_flags : List Str := ["_law_e", "_law_row"]
theorem sc__law_flags : FnScope N__law_flags ["_law_e"] (defScope s__law_flags) := ⟨rfl, rfl, rfl, by decide +kernel, rfl, by decide +kernel, by decide +kernel⟩
abbrev s__law_kinds : Stmt := top 41
def N__law_kinds : List Str := ["_law_e", "_law_row"]
theorem sc__law_kinds : FnScope N__law_kinds ["_law_e"] (defScope s__law_kinds) := ⟨rfl, rfl, rfl, by decide +kernel, rfl, by decide +kernel, by decide +kernel⟩
theorem hot__law_flags (X : Fx G) : ∃ fd, FnE G.P G.w G.K G.mg G.base (L2.CX G.P G.w) 1 (He.ga G.K "_law_flags") fd ["_law_e"] (spRow G.K xcs xsb lr__law_flags) ∧ Binds G.K fd ["_law_e"] [] ∧ PySem.W.keepIn G.K (.ref (He.ga G.K "_law_flags")) = true := by
  obtain ⟨fd, Fn⟩ := X.d__law_flags
  exact ⟨fd, fn_flags Fn sc__law_flags (xis X) (l := lr__law_flags) ((.ext (.cons (t := .own "BadYard") rfl (by decide) (.cons (t := .own "BadWork") rfl (by decide) (.cons (t := .own "BadWay") rfl (by decide) .nil))) (fun _ => rfl) (fun _ => rfl) (fun _ => rfl) rfl (.ext (.cons (t := .own "BadDay") rfl (by decide) (.cons (t := .own "BadStuff") rfl (by decide) (.cons (t := .own "BadPlan") rfl (by decide) .nil))) (fun _ => rfl) (fun _ => rfl) (fun _ => rfl) rfl (.ext (.cons (t := .own "BadSaying") rfl (by decide) (.cons (t := .own "BadBound") rfl (by decide) (.cons (t := .own "BadKept") rfl (by decide) .nil))) (fun _ => rfl) (fun _ => rfl) (fun _ => rfl) rfl (.ext (.cons (t := .own "BadMost") rfl (by decide) (.cons (t := .own "NoLine") rfl (by decide) (.cons (t := .own "BadLog") rfl (by decide) .nil))) (fun _ => rfl) (fun _ => rfl) (fun _ => rfl) rfl (.ext (.cons (t := .own "NoPlan") rfl (by decide) (.cons (t := .own "BadName") rfl (by decide) (.cons (t := .own "Taken") rfl (by decide) .nil))) (fun _ => rfl) (fun _ => rfl) (fun _ => rfl) rfl (.ext (.cons (t := .own "Full") rfl (by decide) (.cons (t := .own "BadMany") rfl (by decide) (.cons (t := .own "BadWays") rfl (by decide) .nil))) (fun _ => rfl) (fun _ => rfl) (fun _ => rfl) rfl (.ext (.cons (t := .own "BadGap") rfl (by decide) (.cons (t := .own "Same") rfl (by decide) (.cons (t := .own "Held") rfl (by decide) .nil))) (fun _ => rfl) (fun _ => rfl) (fun _ => rfl) rfl (.ext (.cons (t := .own "Tied") rfl (by decide) (.cons (t := .own "BadDeed") rfl (by decide) (.cons (t := .own "Broken") rfl (by decide) .nil))) (fun _ => rfl) (fun _ => rfl) (fun _ => rfl) rfl (.ext (.cons (t := .own "BadText") rfl (by decide) (.cons (t := .own "NoWork") rfl (by decide) (.cons (t := .own "NoStuff") rfl (by decide) .nil))) (fun _ => rfl) (fun _ => rfl) (fun _ => rfl) rfl (.ext (.cons (t := .own "NoTie") rfl (by decide) (.cons (t := .own "NothingLeft") rfl (by decide) .nil)) (fun _ => rfl) (fun _ => rfl) (fun _ => rfl) rfl .ret)))))))))) : FlB _ _ _ _ _) xl__law_flags (by decide) (by first | exact Or.inl rfl | exact Or.inr (Or.inl rfl) | exact Or.inr (Or.inr rfl)) rfl (by first | exact Or.inl rfl | exact Or.inr (Or.inl rfl) | exact Or.inr (Or.inr rfl)) (by first | exact .inl rfl | exact .inr rfl) (fun _ => rfl), Fn.bindsN (fun _ _ _ _ _ _ us hl => match us, hl with | [_], _ => rfl), Fn.kp⟩
theorem hot__law_kinds (X : Fx G) : ∃ fd, FnE G.P G.w G.K G.mg G.base (L2.CX G.P G.w) 1 (He.ga G.K "_law_kinds") fd ["_law_e"] (spRow G.K xcs xsb lr__law_kinds) ∧ Binds G.K fd ["_law_e"] [] ∧ PySem.W.keepIn G.K (.ref (He.ga G.K "_law_kinds")) = true := by
  obtain ⟨fd, Fn⟩ := X.d__law_kinds
  exact ⟨fd, fn_kinds Fn sc__law_kinds (xis X) (l := [.own "YardError", .own "Missing", .ty "ValueError" "ValueError"]) (l2 := [.ty "LookupError" "LookupError", .ty "IndexError" "IndexError"]) (.cons (t := .own "YardError") rfl (by decide) (.cons (t := .own "Missing") rfl (by decide) (.cons (t := .ty "ValueError" "ValueError") rfl (by decide) .nil))) (.cons (t := .ty "LookupError" "LookupError") rfl (by decide) (.cons (t := .ty "IndexError" "IndexError") rfl (by decide) .nil)) (fun t h => xl__law_kinds t (List.mem_append_left _ h)) (fun t h => xl__law_kinds t (List.mem_append_right _ h)) (by decide) (by first | exact Or.inl rfl | exact Or.inr (Or.inl rfl) | exact Or.inr (Or.inr rfl)) rfl (by first | exact Or.inl rfl | exact Or.inr (Or.inl rfl) | exact Or.inr (Or.inr rfl)) (by first | exact .inl rfl | exact .inr rfl) (fun _ => rfl), Fn.bindsN (fun _ _ _ _ _ _ us hl => match us, hl with | [_], _ => rfl), Fn.kp⟩
abbrev s__law_late : Stmt := top 40
def N__law_late : List Str := ["_law_at", "_law_a"]
theorem sc__law_late : FnScope N__law_late ["_law_at", "_law_a"] (defScope s__law_late) := ⟨rfl, rfl, rfl, by decide +kernel, rfl, by decide +kernel, by decide +kernel⟩
noncomputable def m__law_late : MS := (seqS (ifS (mTst (mBin eqD (mVar 0) (mK (.int 15)))) (raiseS "Full" 1 [] [("word", .txt "full"), ("most", .arg 0)] (mCons (mVar 1) mNil)) nextS) (seqS (ifS (mTst (mBin eqD (mVar 0) (mK (.int 16)))) (raiseS "BadMany" 0 [] [("word", .txt "badmany")] mNil) nextS) (seqS (ifS (mTst (mBin eqD (mVar 0) (mK (.int 17)))) (raiseS "BadWays" 1 [] [("word", .txt "badways"), ("at", .arg 0)] (mCons (mVar 1) mNil)) nextS) (seqS (ifS (mTst (mBin eqD (mVar 0) (mK (.int 18)))) (raiseS "BadGap" 0 [] [("word", .txt "badgap")] mNil) nextS) (seqS (ifS (mTst (mBin eqD (mVar 0) (mK (.int 19)))) (raiseS "Same" 0 [] [("word", .txt "same")] mNil) nextS) (seqS (ifS (mTst (mBin eqD (mVar 0) (mK (.int 20)))) (raiseS "Held" 1 [] [("word", .txt "held"), ("name", .arg 0)] (mCons (mVar 1) mNil)) nextS) (seqS (ifS (mTst (mBin eqD (mVar 0) (mK (.int 21)))) (raiseS "Tied" 1 [] [("word", .txt "tied"), ("number", .arg 0)] (mCons (mVar 1) mNil)) nextS) (seqS (ifS (mTst (mBin eqD (mVar 0) (mK (.int 22)))) (raiseS "BadDeed" 0 [] [("word", .txt "baddeed")] mNil) nextS) (seqS (ifS (mTst (mBin eqD (mVar 0) (mK (.int 23)))) (raiseS "Broken" 1 [] [("word", .txt "broken"), ("at", .arg 0)] (mCons (mVar 1) mNil)) nextS) (seqS (ifS (mTst (mBin eqD (mVar 0) (mK (.int 24)))) (raiseS "BadText" 1 [] [("word", .txt "badtext"), ("row", .arg 0)] (mCons (mVar 1) mNil)) nextS) (seqS (ifS (mTst (mBin eqD (mVar 0) (mK (.int 25)))) (raiseS "NoWork" 1 [] [("word", .txt "nowork"), ("name", .arg 0)] (mCons (mVar 1) mNil)) nextS) (seqS (ifS (mTst (mBin eqD (mVar 0) (mK (.int 26)))) (raiseS "NoStuff" 1 [] [("word", .txt "nostuff"), ("name", .arg 0)] (mCons (mVar 1) mNil)) nextS) (seqS (ifS (mTst (mBin eqD (mVar 0) (mK (.int 27)))) (raiseS "NoTie" 1 [] [("word", .txt "notie"), ("name", .arg 0)] (mCons (mVar 1) mNil)) nextS) (raiseS "NothingLeft" 0 [] [("word", .txt "nothingleft")] mNil))))))))))))))
noncomputable def F__law_late : FD := runB N__law_late.length m__law_late
theorem k__law_late (X : Fx G) : DSs G 2 N__law_late (defScope s__law_late) (defBody s__law_late) m__law_late :=
  (dss_cons (ds_if (dt_cmpR cr_eq (de_name 0) de_int) (dss_one (ds_raise (mk_Full_1 X) (da_cons (de_name 1) da_nil) (hj := by omega))) dss_nil) (dss_cons (ds_if (dt_cmpR cr_eq (de_name 0) de_int) (dss_one (ds_raise0 (mk_BadMany_0 X) (hj := by omega))) dss_nil) (dss_cons (ds_if (dt_cmpR cr_eq (de_name 0) de_int) (dss_one (ds_raise (mk_BadWays_1 X) (da_cons (de_name 1) da_nil) (hj := by omega))) dss_nil) (dss_cons (ds_if (dt_cmpR cr_eq (de_name 0) de_int) (dss_one (ds_raise0 (mk_BadGap_0 X) (hj := by omega))) dss_nil) (dss_cons (ds_if (dt_cmpR cr_eq (de_name 0) de_int) (dss_one (ds_raise0 (mk_Same_0 X) (hj := by omega))) dss_nil) (dss_cons (ds_if (dt_cmpR cr_eq (de_name 0) de_int) (dss_one (ds_raise (mk_Held_1 X) (da_cons (de_name 1) da_nil) (hj := by omega))) dss_nil) (dss_cons (ds_if (dt_cmpR cr_eq (de_name 0) de_int) (dss_one (ds_raise (mk_Tied_1 X) (da_cons (de_name 1) da_nil) (hj := by omega))) dss_nil) (dss_cons (ds_if (dt_cmpR cr_eq (de_name 0) de_int) (dss_one (ds_raise0 (mk_BadDeed_0 X) (hj := by omega))) dss_nil) (dss_cons (ds_if (dt_cmpR cr_eq (de_name 0) de_int) (dss_one (ds_raise (mk_Broken_1 X) (da_cons (de_name 1) da_nil) (hj := by omega))) dss_nil) (dss_cons (ds_if (dt_cmpR cr_eq (de_name 0) de_int) (dss_one (ds_raise (mk_BadText_1 X) (da_cons (de_name 1) da_nil) (hj := by omega))) dss_nil) (dss_cons (ds_if (dt_cmpR cr_eq (de_name 0) de_int) (dss_one (ds_raise (mk_NoWork_1 X) (da_cons (de_name 1) da_nil) (hj := by omega))) dss_nil) (dss_cons (ds_if (dt_cmpR cr_eq (de_name 0) de_int) (dss_one (ds_raise (mk_NoStuff_1 X) (da_cons (de_name 1) da_nil) (hj := by omega))) dss_nil) (dss_cons (ds_if (dt_cmpR cr_eq (de_name 0) de_int) (dss_one (ds_raise (mk_NoTie_1 X) (da_cons (de_name 1) da_nil) (hj := by omega))) dss_nil) (dss_one (ds_raise0 (mk_NothingLeft_0 X) (hj := by omega))))))))))))))))
theorem ok__law_late (X : Fx G) : FOk G 3 (He.ga G.K "_law_late") ["_law_at", "_law_a"] F__law_late := by
  obtain ⟨fd, Fn⟩ := X.d__law_late
  exact fok Fn sc__law_late (fun _ _ _ _ _ _ us hl => match us, hl with | [_, _], _ => rfl) (k__law_late X)
abbrev s__law_num : Stmt := top 35
def N__law_num : List Str := ["_law_found"]
theorem sc__law_num : FnScope N__law_num ["_law_found"] (defScope s__law_num) := ⟨rfl, rfl, rfl, by decide +kernel, rfl, by decide +kernel, by decide +kernel⟩
noncomputable def m__law_num : MS := (retS (mAndV (mF isiT (mCons (mVar 0) (mCons (mK (.ty "int")) mNil))) (mNotV (mF isiT (mCons (mVar 0) (mCons (mK (.ty "bool")) mNil))))))
noncomputable def F__law_num : FD := runB N__law_num.length m__law_num
theorem k__law_num (X : Fx G) : DSs G 0 N__law_num (defScope s__law_num) (defBody s__law_num) m__law_num :=
  (dss_one (ds_ret (de_and (de_isi X.b_isinstance (da_cons (de_name 0) (da_cons (de_bty X.b_int) da_nil))) (de_one (de_not (de_isi X.b_isinstance (da_cons (de_name 0) (da_cons (de_bty X.b_bool) da_nil))))))))
theorem ok__law_num (X : Fx G) : FOk G 1 (He.ga G.K "_law_num") ["_law_found"] F__law_num := by
  obtain ⟨fd, Fn⟩ := X.d__law_num
  exact fok Fn sc__law_num (fun _ _ _ _ _ _ us hl => match us, hl with | [_], _ => rfl) (k__law_num X)
abbrev s__law_like : Stmt := top 36
def N__law_like : List Str := ["_law_found", "_law_due", "_law_k"]
theorem sc__law_like : FnScope N__law_like ["_law_found", "_law_due"] (defScope s__law_like) := ⟨rfl, rfl, rfl, by decide +kernel, rfl, by decide +kernel, by decide +kernel⟩
noncomputable def m__law_like (r : FD) : MS := (seqS (ifS (mTst (mBin isND (mVar 1) (mK .non))) (retS (mBin isND (mVar 0) (mK .non))) nextS) (seqS (ifS (mTru (mF isiT (mCons (mVar 1) (mCons (mK (.ty "bool")) mNil)))) (retS (mAndV (mF isiT (mCons (mVar 0) (mCons (mK (.ty "bool")) mNil))) (mBin eqD (mVar 0) (mVar 1)))) nextS) (seqS (ifS (mTru (mF isiT (mCons (mVar 1) (mCons (mK (.ty "int")) mNil)))) (retS (mAndV (mCall F__law_num 1 (mCons (mVar 0) mNil)) (mBin eqD (mVar 0) (mVar 1)))) nextS) (seqS (ifS (mTru (mF isiT (mCons (mVar 1) (mCons (mK (.ty "str")) mNil)))) (retS (mAndV (mF isiT (mCons (mVar 0) (mCons (mK (.ty "str")) mNil))) (mBin eqD (mVar 0) (mVar 1)))) nextS) (seqS (ifS (mOr (mTst (mBin neD (mF isiT (mCons (mVar 1) (mCons (mK (.ty "tuple")) mNil))) (mF isiT (mCons (mVar 0) (mCons (mK (.ty "tuple")) mNil))))) (mTst (mBin neD (mF isiT (mCons (mVar 1) (mCons (mK (.ty "list")) mNil))) (mF isiT (mCons (mVar 0) (mCons (mK (.ty "list")) mNil)))))) (retS (mK (.bl false))) nextS) (seqS (ifS (mTst (mBin neD (mF lenD (mCons (mVar 0) mNil)) (mF lenD (mCons (mVar 1) mNil)))) (retS (mK (.bl false))) nextS) (retS (mF allD (mCons (mLc (mR1 (mCons (mF lenD (mCons (mVar 1) mNil)) mNil)) (gN 2) mYes (mCall r 2 (mCons (mBin ixD (mVar 0) (mVar 2)) (mCons (mBin ixD (mVar 1) (mVar 2)) mNil))) [("_law_k", 2)]) mNil)))))))))
noncomputable def F__law_like : Nat → FD
  | 0 => runB N__law_like.length neverS
  | n + 1 => runB N__law_like.length (m__law_like (F__law_like n))
theorem k__law_like (X : Fx G) {j : Nat} {r : FD} (ih : FOk G (j + 2) (He.ga G.K "_law_like") ["_law_found", "_law_due"] r) : DSs G (j + 2) N__law_like (defScope s__law_like) (defBody s__law_like) (m__law_like r) :=
  (dss_cons (ds_if (dt_cmpR cr_isN (de_name 1) de_non) (dss_one (ds_ret (de_cmpR cr_isN (de_name 0) de_non))) dss_nil) (dss_cons (ds_if (dt_tru (de_isi X.b_isinstance (da_cons (de_name 1) (da_cons (de_bty X.b_bool) da_nil)))) (dss_one (ds_ret (de_and (de_isi X.b_isinstance (da_cons (de_name 0) (da_cons (de_bty X.b_bool) da_nil))) (de_one (de_cmpR cr_eq (de_name 0) (de_name 1)))))) dss_nil) (dss_cons (ds_if (dt_tru (de_isi X.b_isinstance (da_cons (de_name 1) (da_cons (de_bty X.b_int) da_nil)))) (dss_one (ds_ret (de_and (de_call (ok__law_num X) X.g__law_num (da_cons (de_name 0) da_nil) (hj := by omega)) (de_one (de_cmpR cr_eq (de_name 0) (de_name 1)))))) dss_nil) (dss_cons (ds_if (dt_tru (de_isi X.b_isinstance (da_cons (de_name 1) (da_cons (de_bty X.b_str) da_nil)))) (dss_one (ds_ret (de_and (de_isi X.b_isinstance (da_cons (de_name 0) (da_cons (de_bty X.b_str) da_nil))) (de_one (de_cmpR cr_eq (de_name 0) (de_name 1)))))) dss_nil) (dss_cons (ds_if (dt_bool (dw_or (dt_cmpR cr_ne (de_isi X.b_isinstance (da_cons (de_name 1) (da_cons (de_bty X.b_tuple) da_nil))) (de_isi X.b_isinstance (da_cons (de_name 0) (da_cons (de_bty X.b_tuple) da_nil)))) (dw_or1 (dt_cmpR cr_ne (de_isi X.b_isinstance (da_cons (de_name 1) (da_cons (de_bty X.b_list) da_nil))) (de_isi X.b_isinstance (da_cons (de_name 0) (da_cons (de_bty X.b_list) da_nil))))))) (dss_one (ds_ret de_bl)) dss_nil) (dss_cons (ds_if (dt_cmpR cr_ne (de_cB (fun X c => c.cK ▸ cl_len) snd_len X.b_len (da_cons (de_name 0) da_nil)) (de_cB (fun X c => c.cK ▸ cl_len) snd_len X.b_len (da_cons (de_name 1) da_nil))) (dss_one (ds_ret de_bl)) dss_nil) (dss_one (ds_ret (de_cB (fun X c => c.cK ▸ cr_all c.ccalm) snd_all X.b_all (da_cons (de_lc (di_rng1 X.b_range (da_cons (de_cB (fun X c => c.cK ▸ cl_len) snd_len X.b_len (da_cons (de_name 1) da_nil)) da_nil)) (dg_name 2) dts_nil (de_call ih X.g__law_like (da_cons (de_ix (de_name 0) (de_name 2)) (da_cons (de_ix (de_name 1) (de_name 2)) da_nil)) (hj := by omega))) da_nil))))))))))
theorem ok__law_like (X : Fx G) : ∀ n, FOk G (n + 2) (He.ga G.K "_law_like") ["_law_found", "_law_due"] (F__law_like n)
  | 0 => by
    obtain ⟨fd, Fn⟩ := X.d__law_like
    exact (fok (k := 1) Fn sc__law_like (fun _ _ _ _ _ _ us hl => match us, hl with | [_, _], _ => rfl) dss_never).mono (by omega)
  | n + 1 => by
    obtain ⟨fd, Fn⟩ := X.d__law_like
    exact (fok (k := n + 2) Fn sc__law_like (fun _ _ _ _ _ _ us hl => match us, hl with | [_, _], _ => rfl) (k__law_like X (ok__law_like X n))).mono (by omega)
abbrev s__law_open : Stmt := top 33
def N__law_open : List Str := ["_law_script", "_law_seed", "_law_cell"]
theorem sc__law_open : FnScope N__law_open ["_law_script"] (defScope s__law_open) := ⟨rfl, rfl, rfl, by decide +kernel, rfl, by decide +kernel, by decide +kernel⟩
noncomputable def m__law_open : MS := (seqS (setS 1 (mK (.int 7717))) (seqS (forS (mWk itV (mSl (mVar 0) mNo (mPart (mK (.int 63))))) (gN 2) (setS 1 (mBin modD (mBin addD (mBin addD (mBin mulD (mVar 1) (mK (.int 48271))) (mBin modD (mVar 2) (mK (.int 2147483629)))) (mK (.int 5))) (mK (.int 2147483647))))) (retS (mLst (mCons (mF lstD (mCons (mSl (mVar 0) mNo (mPart (mK (.int 63)))) mNil)) (mCons (mK (.int 0)) (mCons (mK (.int 0)) (mCons (mVar 1) mNil))))))))
noncomputable def F__law_open : FD := runB N__law_open.length m__law_open
theorem k__law_open (X : Fx G) : DSs G 0 N__law_open (defScope s__law_open) (defBody s__law_open) m__law_open :=
  (dss_cons (ds_set 1 de_int) (dss_cons (ds_for (di_val (de_sl (de_name 0) do_none (do_some de_int))) (dg_name 2) (dss_one (ds_set 1 (de_mod (de_add (de_add (de_mul (de_name 1) de_int) (de_mod (de_name 2) de_int)) de_int) de_int)))) (dss_one (ds_ret (de_lst (da_cons (de_cT (fun X c => c.cK ▸ call_list_of) snd_lst X.b_list (da_cons (de_sl (de_name 0) do_none (do_some de_int)) da_nil)) (da_cons de_int (da_cons de_int (da_cons (de_name 1) da_nil)))))))))
theorem ok__law_open (X : Fx G) : FOk G 1 (He.ga G.K "_law_open") ["_law_script"] F__law_open := by
  obtain ⟨fd, Fn⟩ := X.d__law_open
  exact fok Fn sc__law_open (fun _ _ _ _ _ _ us hl => match us, hl with | [_], _ => rfl) (k__law_open X)
abbrev s__law_pull : Stmt := top 34
def N__law_pull : List Str := ["_law_draw", "_law_total_of", "_law_seed", "_law_cell", "_law_got"]
theorem sc__law_pull : FnScope N__law_pull ["_law_draw", "_law_total_of"] (defScope s__law_pull) := ⟨rfl, rfl, rfl, by decide +kernel, rfl, by decide +kernel, by decide +kernel⟩
noncomputable def m__law_pull : MS := (seqS (ifS (mAnd (mTst (mBin ltD (mBin ixD (mVar 0) (mK (.int 2))) (mVar 1))) (mTst (mBin ltD (mBin ixD (mVar 0) (mK (.int 1))) (mF lenD (mCons (mBin ixD (mVar 0) (mK (.int 0))) mNil))))) (seqS (setS 3 (mBin ixD (mBin ixD (mVar 0) (mK (.int 0))) (mBin ixD (mVar 0) (mK (.int 1))))) (seqS (setIxS (mBin addD (mBin ixD (mVar 0) (mK (.int 1))) (mK (.int 1))) (mPv 0) (mK (.int 1))) (seqS (setIxS (mK (.int 0)) (mPv 0) (mK (.int 2))) (ifS (mTst (mBin geD (mVar 3) (mBin powD (mK (.int 10)) (mK (.int 18))))) (setIxS (mVar 3) (mPv 0) (mK (.int 2))) (setIxS (mBin modD (mBin addD (mBin addD (mBin mulD (mBin ixD (mVar 0) (mK (.int 3))) (mK (.int 40692))) (mBin mulD (mBin modD (mVar 3) (mK (.int 2147483629))) (mK (.int 69621)))) (mK (.int 104729))) (mK (.int 2147483647))) (mPv 0) (mK (.int 3))))))) nextS) (seqS (ifS (mTst (mBin geD (mBin ixD (mVar 0) (mK (.int 2))) (mVar 1))) (seqS (setS 4 (mBin modD (mBin ixD (mVar 0) (mK (.int 2))) (mVar 1))) (seqS (setIxS (mBin fdivD (mBin ixD (mVar 0) (mK (.int 2))) (mVar 1)) (mPv 0) (mK (.int 2))) (retVarS 4))) nextS) (seqS (setS 2 (mBin ixD (mVar 0) (mK (.int 3)))) (seqS (setIxS (mBin modD (mBin addD (mBin addD (mBin mulD (mBin modD (mBin mulD (mVar 2) (mVar 2)) (mK (.int 2147483587))) (mK (.int 5))) (mBin mulD (mVar 2) (mK (.int 16807)))) (mK (.int 1013904229))) (mK (.int 2147483647))) (mPv 0) (mK (.int 3))) (retS (mBin modD (mBin addD (mBin fdivD (mBin ixD (mVar 0) (mK (.int 3))) (mK (.int 53))) (mBin mulD (mBin modD (mBin ixD (mVar 0) (mK (.int 3))) (mK (.int 8191))) (mK (.int 31)))) (mVar 1)))))))
noncomputable def F__law_pull : FD := runB N__law_pull.length m__law_pull
theorem k__law_pull (X : Fx G) : DSs G 0 N__law_pull (defScope s__law_pull) (defBody s__law_pull) m__law_pull :=
  (dss_cons (ds_if (dt_bool (dw_and (dt_cmpR cr_lt (de_ix (de_name 0) de_int) (de_name 1)) (dw_and1 (dt_cmpR cr_lt (de_ix (de_name 0) de_int) (de_cB (fun X c => c.cK ▸ cl_len) snd_len X.b_len (da_cons (de_ix (de_name 0) de_int) da_nil)))))) (dss_cons (ds_set 3 (de_ix (de_ix (de_name 0) de_int) (de_ix (de_name 0) de_int))) (dss_cons (ds_setIx (de_add (de_ix (de_name 0) de_int) de_int) (dp_name 0) de_int) (dss_cons (ds_setIx de_int (dp_name 0) de_int) (dss_one (ds_if (dt_cmpR cr_ge (de_name 3) (de_pow de_int de_int)) (dss_one (ds_setIx (de_name 3) (dp_name 0) de_int)) (dss_one (ds_setIx (de_mod (de_add (de_add (de_mul (de_ix (de_name 0) de_int) de_int) (de_mul (de_mod (de_name 3) de_int) de_int)) de_int) de_int) (dp_name 0) de_int))))))) dss_nil) (dss_cons (ds_if (dt_cmpR cr_ge (de_ix (de_name 0) de_int) (de_name 1)) (dss_cons (ds_set 4 (de_mod (de_ix (de_name 0) de_int) (de_name 1))) (dss_cons (ds_setIx (de_fdiv (de_ix (de_name 0) de_int) (de_name 1)) (dp_name 0) de_int) (dss_one (ds_retVar 4)))) dss_nil) (dss_cons (ds_set 2 (de_ix (de_name 0) de_int)) (dss_cons (ds_setIx (de_mod (de_add (de_add (de_mul (de_mod (de_mul (de_name 2) (de_name 2)) de_int) de_int) (de_mul (de_name 2) de_int)) de_int) de_int) (dp_name 0) de_int) (dss_one (ds_ret (de_mod (de_add (de_fdiv (de_ix (de_name 0) de_int) de_int) (de_mul (de_mod (de_ix (de_name 0) de_int) de_int) de_int)) (de_name 1))))))))
theorem ok__law_pull (X : Fx G) : FOk G 1 (He.ga G.K "_law_pull") ["_law_draw", "_law_total_of"] F__law_pull := by
  obtain ⟨fd, Fn⟩ := X.d__law_pull
  exact fok Fn sc__law_pull (fun _ _ _ _ _ _ us hl => match us, hl with | [_, _], _ => rfl) (k__law_pull X)
abbrev s__law_words : Stmt := top 38
def N__law_words : List Str := ["_law_words_here"]
theorem sc__law_words : FnScope N__law_words [] (defScope s__law_words) := ⟨rfl, rfl, rfl, by decide +kernel, rfl, by decide +kernel, by decide +kernel⟩
noncomputable def m__law_words : MS := (seqS (setS 0 (mK (.str "badyard badwork badway badday badstuff badplan badsaying badbound badkept badmost"))) (seqS (frzS 0 (setS 0 (mBin addD (mVar 0) (mK (.str " noline badlog noplan badname taken full badmany badways badgap same held"))))) (frzS 0 (retS (mM1 splitD (mBin addD (mVar 0) (mK (.str " tied baddeed broken badtext nowork nostuff notie nothingleft"))) (mK (.str " ")))))))
noncomputable def F__law_words : FD := runB N__law_words.length m__law_words
theorem k__law_words (X : Fx G) : DSs G 0 N__law_words (defScope s__law_words) (defBody s__law_words) m__law_words :=
  (dss_cons (ds_set 0 de_str) (dss_cons (ds_frz 0 (ds_set 0 (de_add (de_name 0) de_str))) (dss_one (ds_frz 0 (ds_ret (de_split (de_add (de_name 0) de_str) de_str))))))
theorem ok__law_words (X : Fx G) : FOk G 1 (He.ga G.K "_law_words") [] F__law_words := by
  obtain ⟨fd, Fn⟩ := X.d__law_words
  exact fok Fn sc__law_words (fun _ _ _ _ _ _ us hl => match us, hl with | [], _ => rfl) (k__law_words X)
abbrev s_law : Stmt := top 42
def N_law : List Str := ["_law_script", "_law_draw", "_law_begin", "_law_step", "_law_one", "_law_some", "_law_more", "_law_a", "_law_b", "_law_at", "_law_found", "_law_e", "_law_due", "_law_k"]
theorem sc_law : FnScope N_law ["_law_script"] (defScope s_law) := ⟨rfl, rfl, rfl, by decide +kernel, rfl, by decide +kernel, by decide +kernel⟩
noncomputable def m_law : MS := (seqS (setS 1 (mCall F__law_open 1 (mCons (mVar 0) mNil))) (seqS (celS 1 (parS 7 8 (mCons (mCall F__law_pull 2 (mCons (mVar 1) (mCons (mBin powD (mK (.int 10)) (mK (.int 9))) mNil))) (mCons (mCall F__law_pull 2 (mCons (mVar 1) (mCons (mBin powD (mK (.int 10)) (mK (.int 9))) mNil))) mNil)))) (seqS (celS 1 (setS 2 (mCall F__law_pull 2 (mCons (mVar 1) (mCons (mK (.int 29)) mNil))))) (seqS (forS (mR1 (mCons (mK (.int 29)) mNil)) (gN 3) (seqS (setS 9 (mBin modD (mBin addD (mVar 2) (mBin mulD (mK (.int 7)) (mVar 3))) (mK (.int 29)))) (seqS (setS 10 (mLst mNil)) (seqS (tryMS xcs xsub [("YardError", 11, (wordH 10 "word" (fun c => lr__law_flags.map fun t => xsb c t) (fun c => lr__law_kinds.map fun t => xsb c t))), ("Missing", 11, (wordH 10 "word" (fun c => lr__law_flags.map fun t => xsb c t) (fun c => lr__law_kinds.map fun t => xsb c t))), ("NothingLeft", 11, (wordH 10 "word" (fun c => lr__law_flags.map fun t => xsb c t) (fun c => lr__law_kinds.map fun t => xsb c t)))] (seqS (ifS (mTst (mBin ltD (mVar 9) (mK (.int 15)))) (exprS (mCall F__law_early 3 (mCons (mVar 9) (mCons (mVar 7) (mCons (mVar 8) mNil))))) nextS) (exprS (mCall F__law_late 2 (mCons (mVar 9) (mCons (mVar 7) mNil)))))) (seqS (setS 12 (mLst (mCons (mBin ltD (mVar 9) (mK (.int 25))) (mCons (mCh ltD ltD (mK (.int 24)) (mVar 9) (mK (.int 28))) (mCons (mBin ltD (mVar 9) (mK (.int 25))) (mCons (mBin gtD (mVar 9) (mK (.int 24))) (mCons (mBin eqD (mVar 9) (mK (.int 28))) mNil))))))) (frzS 12 (frzS 10 (ifS (mNot (mTru (mCall (F__law_like 6) 2 (mCons (mVar 10) (mCons (mBin addD (mLst (mCons (mLc (mR1 (mCons (mK (.int 29)) mNil)) (gN 13) mYes (mBin eqD (mVar 13) (mVar 9)) [("_law_k", 13)]) (mCons (mBin ixD (mCall F__law_words 0 mNil) (mVar 9)) mNil))) (mVar 12)) mNil))))) (retS (mK (.bl false))) nextS)))))))) (seqS (mkXS 4 "BadYard" 2 [] [("word", .txt "badyard"), ("part", .arg 0), ("at", .arg 1)] (mCons (mVar 7) (mCons (mVar 8) mNil))) (seqS (setS 5 (mLst (mCons (mExF xcs 4 "part") (mCons (mMkF 1 [] [("word", .txt "badwork"), ("work", .arg 0)] "work" (mCons (mVar 7) mNil)) (mCons (mMkF 1 [] [("word", .txt "badway"), ("way", .arg 0)] "way" (mCons (mVar 7) mNil)) (mCons (mMkF 1 [] [("word", .txt "badstuff"), ("stuff", .arg 0)] "stuff" (mCons (mVar 7) mNil)) mNil)))))) (seqS (frzS 5 (setS 5 (mBin addD (mVar 5) (mLst (mCons (mMkF 1 [] [("word", .txt "badmost"), ("most", .arg 0)] "most" (mCons (mVar 7) mNil)) (mCons (mMkF 1 [] [("word", .txt "taken"), ("name", .arg 0)] "name" (mCons (mVar 7) mNil)) (mCons (mMkF 1 [] [("word", .txt "tied"), ("number", .arg 0)] "number" (mCons (mVar 7) mNil)) mNil))))))) (seqS (frzS 5 (setS 5 (mBin addD (mVar 5) (mLst (mCons (mMkF 1 [] [("word", .txt "held"), ("name", .arg 0)] "name" (mCons (mVar 7) mNil)) (mCons (mMkF 1 [] [("word", .txt "broken"), ("at", .arg 0)] "at" (mCons (mVar 7) mNil)) (mCons (mMkF 1 [] [("word", .txt "nostuff"), ("name", .arg 0)] "name" (mCons (mVar 7) mNil)) mNil))))))) (seqS (setS 6 (mLst (mCons (mExF xcs 4 "at") (mCons (mMkF 1 [] [("word", .txt "badday"), ("day", .arg 0)] "day" (mCons (mVar 8) mNil)) (mCons (mMkF 1 [] [("word", .txt "badbound"), ("bound", .arg 0)] "bound" (mCons (mVar 8) mNil)) (mCons (mMkF 1 [] [("word", .txt "badlog"), ("row", .arg 0)] "row" (mCons (mVar 8) mNil)) mNil)))))) (seqS (frzS 6 (setS 6 (mBin addD (mVar 6) (mLst (mCons (mMkF 1 [] [("word", .txt "full"), ("most", .arg 0)] "most" (mCons (mVar 8) mNil)) (mCons (mMkF 1 [] [("word", .txt "nowork"), ("name", .arg 0)] "name" (mCons (mVar 8) mNil)) (mCons (mMkF 1 [] [("word", .txt "notie"), ("name", .arg 0)] "name" (mCons (mVar 8) mNil)) mNil))))))) (frzS 6 (frzS 5 (retS (mAndV (mBin eqD (mVar 5) (mBin mulD (mLst (mCons (mVar 7) mNil)) (mK (.int 10)))) (mAndV (mBin eqD (mVar 6) (mBin mulD (mLst (mCons (mVar 8) mNil)) (mK (.int 7)))) (mBin eqD (mMkF 1 [] [("word", .txt "noplan"), ("log", .arg 0)] "log" (mCons (mLst (mCons (mVar 8) mNil)) mNil)) (mLst (mCons (mVar 8) mNil))))))))))))))))))
noncomputable def F_law : FD := runB N_law.length m_law
theorem k_law (X : Fx G) : DSs G 8 N_law (defScope s_law) (defBody s_law) m_law :=
  (dss_cons (ds_set 1 (de_call (ok__law_open X) X.g__law_open (da_cons (de_name 0) da_nil))) (dss_cons (ds_cel 1 (ds_par 7 8 (da_cons (de_call (ok__law_pull X) X.g__law_pull (da_cons (de_name 1) (da_cons (de_pow de_int de_int) da_nil))) (da_cons (de_call (ok__law_pull X) X.g__law_pull (da_cons (de_name 1) (da_cons (de_pow de_int de_int) da_nil))) da_nil)) (hw := swap2 rfl rfl rfl))) (dss_cons (ds_cel 1 (ds_set 2 (de_call (ok__law_pull X) X.g__law_pull (da_cons (de_name 1) (da_cons de_int da_nil))))) (dss_cons (ds_for (di_rng1 X.b_range (da_cons de_int da_nil)) (dg_name 3) (dss_cons (ds_set 9 (de_mod (de_add (de_name 2) (de_mul de_int (de_name 3))) de_int)) (dss_cons (ds_set 10 (de_lst da_nil)) (dss_cons (ds_tryMany (xt X) (dss_cons (ds_if (dt_cmpR cr_lt (de_name 9) de_int) (dss_one (ds_expr (de_call (ok__law_early X) X.g__law_early (da_cons (de_name 9) (da_cons (de_name 7) (da_cons (de_name 8) da_nil)))))) dss_nil) (dss_one (ds_expr (de_call (ok__law_late X) X.g__law_late (da_cons (de_name 9) (da_cons (de_name 7) da_nil)))))) (.cons (Exists.elim (hot__law_flags X) fun _ h1 => Exists.elim (hot__law_kinds X) fun _ h2 => dh_word (xt X) 10 h1.1 h2.1 h1.2.1 h2.2.1 h1.2.2 h2.2.2 X.g__law_flags X.g__law_kinds (by decide) (by simp) (by omega) rfl (by first | exact .inl rfl | exact .inr rfl) rfl (by first | exact Or.inl rfl | exact Or.inr (Or.inl rfl) | exact Or.inr (Or.inr rfl)) rfl rfl (fun _ => rfl) (hs2 := fun _ => rfl)) wordH_no (by simp [xks]) rfl rfl rfl (by decide) (.cons (Exists.elim (hot__law_flags X) fun _ h1 => Exists.elim (hot__law_kinds X) fun _ h2 => dh_word (xt X) 10 h1.1 h2.1 h1.2.1 h2.2.1 h1.2.2 h2.2.2 X.g__law_flags X.g__law_kinds (by decide) (by simp) (by omega) rfl (by first | exact .inl rfl | exact .inr rfl) rfl (by first | exact Or.inl rfl | exact Or.inr (Or.inl rfl) | exact Or.inr (Or.inr rfl)) rfl rfl (fun _ => rfl) (hs2 := fun _ => rfl)) wordH_no (by simp [xks]) rfl rfl rfl (by decide) (.cons (Exists.elim (hot__law_flags X) fun _ h1 => Exists.elim (hot__law_kinds X) fun _ h2 => dh_word (xt X) 10 h1.1 h2.1 h1.2.1 h2.2.1 h1.2.2 h2.2.2 X.g__law_flags X.g__law_kinds (by decide) (by simp) (by omega) rfl (by first | exact .inl rfl | exact .inr rfl) rfl (by first | exact Or.inl rfl | exact Or.inr (Or.inl rfl) | exact Or.inr (Or.inr rfl)) rfl rfl (fun _ => rfl) (hs2 := fun _ => rfl)) wordH_no (by simp [xks]) rfl rfl rfl (by decide) .nil)))) (dss_cons (ds_set 12 (de_lst (da_cons (de_cmpR cr_lt (de_name 9) de_int) (da_cons (de_ch cr_lt cr_lt de_int (de_name 9) de_int) (da_cons (de_cmpR cr_lt (de_name 9) de_int) (da_cons (de_cmpR cr_gt (de_name 9) de_int) (da_cons (de_cmpR cr_eq (de_name 9) de_int) da_nil))))))) (dss_one (ds_frz 12 (ds_frz 10 (ds_if (dt_not (dt_tru (de_call (ok__law_like X 6) X.g__law_like (da_cons (de_name 10) (da_cons (de_add (de_lst (da_cons (de_lc (di_rng1 X.b_range (da_cons de_int da_nil)) (dg_name 13) dts_nil (de_cmpR cr_eq (de_name 13) (de_name 9))) (da_cons (de_ix (de_call0 (ok__law_words X) X.g__law_words) (de_name 9)) da_nil))) (de_name 12)) da_nil))))) (dss_one (ds_ret de_bl)) dss_nil))))))))) (dss_cons (ds_mkX (mk_BadYard_2 X) 4 (da_cons (de_name 7) (da_cons (de_name 8) da_nil)) (hj := by omega)) (dss_cons (ds_set 5 (de_lst (da_cons (de_exF (xt X) 4) (da_cons (de_mkF (mk_BadWork_1 X) ((xcl_BadWork X).no _ (by simp)) (da_cons (de_name 7) da_nil) (hj := by omega)) (da_cons (de_mkF (mk_BadWay_1 X) ((xcl_BadWay X).no _ (by simp)) (da_cons (de_name 7) da_nil) (hj := by omega)) (da_cons (de_mkF (mk_BadStuff_1 X) ((xcl_BadStuff X).no _ (by simp)) (da_cons (de_name 7) da_nil) (hj := by omega)) da_nil)))))) (dss_cons (ds_frz 5 (ds_set 5 (de_add (de_name 5) (de_lst (da_cons (de_mkF (mk_BadMost_1 X) ((xcl_BadMost X).no _ (by simp)) (da_cons (de_name 7) da_nil) (hj := by omega)) (da_cons (de_mkF (mk_Taken_1 X) ((xcl_Taken X).no _ (by simp)) (da_cons (de_name 7) da_nil) (hj := by omega)) (da_cons (de_mkF (mk_Tied_1 X) ((xcl_Tied X).no _ (by simp)) (da_cons (de_name 7) da_nil) (hj := by omega)) da_nil))))))) (dss_cons (ds_frz 5 (ds_set 5 (de_add (de_name 5) (de_lst (da_cons (de_mkF (mk_Held_1 X) ((xcl_Held X).no _ (by simp)) (da_cons (de_name 7) da_nil) (hj := by omega)) (da_cons (de_mkF (mk_Broken_1 X) ((xcl_Broken X).no _ (by simp)) (da_cons (de_name 7) da_nil) (hj := by omega)) (da_cons (de_mkF (mk_NoStuff_1 X) ((xcl_NoStuff X).no _ (by simp)) (da_cons (de_name 7) da_nil) (hj := by omega)) da_nil))))))) (dss_cons (ds_set 6 (de_lst (da_cons (de_exF (xt X) 4) (da_cons (de_mkF (mk_BadDay_1 X) ((xcl_BadDay X).no _ (by simp)) (da_cons (de_name 8) da_nil) (hj := by omega)) (da_cons (de_mkF (mk_BadBound_1 X) ((xcl_BadBound X).no _ (by simp)) (da_cons (de_name 8) da_nil) (hj := by omega)) (da_cons (de_mkF (mk_BadLog_1 X) ((xcl_BadLog X).no _ (by simp)) (da_cons (de_name 8) da_nil) (hj := by omega)) da_nil)))))) (dss_cons (ds_frz 6 (ds_set 6 (de_add (de_name 6) (de_lst (da_cons (de_mkF (mk_Full_1 X) ((xcl_Full X).no _ (by simp)) (da_cons (de_name 8) da_nil) (hj := by omega)) (da_cons (de_mkF (mk_NoWork_1 X) ((xcl_NoWork X).no _ (by simp)) (da_cons (de_name 8) da_nil) (hj := by omega)) (da_cons (de_mkF (mk_NoTie_1 X) ((xcl_NoTie X).no _ (by simp)) (da_cons (de_name 8) da_nil) (hj := by omega)) da_nil))))))) (dss_one (ds_frz 6 (ds_frz 5 (ds_ret (de_and (de_cmpR cr_eq (de_name 5) (de_mul (de_lst (da_cons (de_name 7) da_nil)) de_int)) (de_and (de_cmpR cr_eq (de_name 6) (de_mul (de_lst (da_cons (de_name 8) da_nil)) de_int)) (de_one (de_cmpR cr_eq (de_mkF (mk_NoPlan_1 X) ((xcl_NoPlan X).no _ (by simp)) (da_cons (de_lst (da_cons (de_name 8) da_nil)) da_nil) (hj := by omega)) (de_lst (da_cons (de_name 8) da_nil))))))))))))))))))))
theorem ok_law (X : Fx G) : FOk G 9 (He.ga G.K "law") ["_law_script"] F_law := by
  obtain ⟨fd, Fn⟩ := X.d_law
  exact fok Fn sc_law (fun _ _ _ _ _ _ us hl => match us, hl with | [_], _ => rfl) (k_law X)
end Wk64
set_option Elab.async false
set_option linter.all false
set_option maxRecDepth 100000
set_option maxHeartbeats 4000000
namespace Wk64
open PySem PySem.Spec L2 Hm

/-- the draw's cell -/
def Dr (cs : List Int) (p t s : Int) : Store := [.lst [.lst (cs.map .int), .int p, .int t, .int s]]
def DrOk (S : Store) : Prop := ∃ cs p t s, S = Dr cs p t s ∧ 0 ≤ p ∧ 0 ≤ s ∧ s < 2147483647
section
variable {E : Ev} {S S1 S2 : Store} {cs : List Int} {p t s n i j : Int} {m a b : M DV}
theorem ix0 (h : E[0]? = some (some (.val (.ref 0)))) : mBin ixD (mVar 0) (mK (.int 0)) E (Dr cs p t s) = .ok (.val (.lst (cs.map .int))) (Dr cs p t s) := by
  unfold mBin
  rw [bnd_ok (var_ok h)]
  rfl
theorem ix1 (h : E[0]? = some (some (.val (.ref 0)))) : mBin ixD (mVar 0) (mK (.int 1)) E (Dr cs p t s) = .ok (.val (.int p)) (Dr cs p t s) := by
  unfold mBin
  rw [bnd_ok (var_ok h)]
  rfl
theorem ix2 (h : E[0]? = some (some (.val (.ref 0)))) : mBin ixD (mVar 0) (mK (.int 2)) E (Dr cs p t s) = .ok (.val (.int t)) (Dr cs p t s) := by
  unfold mBin
  rw [bnd_ok (var_ok h)]
  rfl
theorem ix3 (h : E[0]? = some (some (.val (.ref 0)))) : mBin ixD (mVar 0) (mK (.int 3)) E (Dr cs p t s) = .ok (.val (.int s)) (Dr cs p t s) := by
  unfold mBin
  rw [bnd_ok (var_ok h)]
  rfl
theorem put1 {x : D} {me : M DV} (h : E[0]? = some (some (.val (.ref 0)))) (hm : me E (Dr cs p t s) = .ok (.val (.int i)) (Dr cs p t s)) : setIxS me (mPv 0) (mK (.int 1)) E (Dr cs p t s) = .nx E (Dr cs i t s) := by
  unfold setIxS withE
  rw [hm]
  dsimp only
  have e : mPv 0 E (Dr cs p t s) = .ok (.ce 0) (Dr cs p t s) := by unfold mPv; rw [h]
  rw [e]
  rfl
theorem put2 {me : M DV} (h : E[0]? = some (some (.val (.ref 0)))) (hm : me E (Dr cs p t s) = .ok (.val (.int i)) (Dr cs p t s)) : setIxS me (mPv 0) (mK (.int 2)) E (Dr cs p t s) = .nx E (Dr cs p i s) := by
  unfold setIxS withE
  rw [hm]
  dsimp only
  have e : mPv 0 E (Dr cs p t s) = .ok (.ce 0) (Dr cs p t s) := by unfold mPv; rw [h]
  rw [e]
  rfl
theorem put3 {me : M DV} (h : E[0]? = some (some (.val (.ref 0)))) (hm : me E (Dr cs p t s) = .ok (.val (.int i)) (Dr cs p t s)) : setIxS me (mPv 0) (mK (.int 3)) E (Dr cs p t s) = .nx E (Dr cs p t i) := by
  unfold setIxS withE
  rw [hm]
  dsimp only
  have e : mPv 0 E (Dr cs p t s) = .ok (.ce 0) (Dr cs p t s) := by unfold mPv; rw [h]
  rw [e]
  rfl
end
theorem map_at {cs : List Int} {p : Int} (h0 : 0 ≤ p) (h1 : p < cs.length) : ∃ c, atI (cs.map D.int) p = some (.int c) := by
  have e : ixN (cs.map D.int).length p = some p.toNat := by
    unfold ixN
    rw [List.length_map, if_pos h0, if_pos h1]
  unfold atI
  rw [e]
  have hl : p.toNat < cs.length := by omega
  exact ⟨cs[p.toNat], by show (cs.map D.int)[p.toNat]? = _; rw [List.getElem?_map, List.getElem?_eq_getElem hl]; rfl⟩
theorem pull_ok {S : Store} {n : Int} (h : DrOk S) (h0 : 0 < n) (h1 : n < 1073741824) : ∃ r S', F__law_pull [.ref 0, .int n] S = .ok (.val (.int r)) S' ∧ 0 ≤ r ∧ r < n ∧ DrOk S' := by
  obtain ⟨cs, p, t, s, rfl, hp, hs0, hs1⟩ := h
  unfold F__law_pull runB
  have e0 : slots0 N__law_pull.length [.ref 0, .int n] = [some (.val (.ref 0)), some (.val (.int n)), none, none, none] := rfl
  rw [e0]
  unfold m__law_pull
  -- what the first statement leaves
  generalize hA : ifS (mAnd (mTst (mBin ltD (mBin ixD (mVar 0) (mK (D.int 2))) (mVar 1))) (mTst (mBin ltD (mBin ixD (mVar 0) (mK (D.int 1))) (mF lenD (mCons (mBin ixD (mVar 0) (mK (D.int 0))) mNil))))) _ nextS = A
  have first : ∃ e3 p' t' s', A [some (.val (.ref 0)), some (.val (.int n)), none, none, none] (Dr cs p t s) = .nx [some (.val (.ref 0)), some (.val (.int n)), none, e3, none] (Dr cs p' t' s') ∧ 0 ≤ p' ∧ 0 ≤ s' ∧ s' < 2147483647 := by
    subst hA
    have t1 : mTst (mBin ltD (mBin ixD (mVar 0) (mK (D.int 2))) (mVar 1)) [some (.val (.ref 0)), some (.val (.int n)), none, none, none] (Dr cs p t s) = .ok (decide (t < n)) (Dr cs p t s) := tst_ok (bin_ok (ix2 rfl) (var_ok rfl) rfl)
    have t2 : mTst (mBin ltD (mBin ixD (mVar 0) (mK (D.int 1))) (mF lenD (mCons (mBin ixD (mVar 0) (mK (D.int 0))) mNil))) [some (.val (.ref 0)), some (.val (.int n)), none, none, none] (Dr cs p t s) = .ok (decide (p < (cs.length : Int))) (Dr cs p t s) := by
      refine tst_ok (bin_ok (y := .val (.int (cs.length : Int))) (ix1 rfl) ?_ rfl)
      unfold mF mCons
      rw [show bnd (bnd (mBin ixD (mVar 0) (mK (D.int 0))) fun x => bnd mNil fun xs _ S => .ok (x.frz :: xs) S) (fun ds _ S => lenD ds S) [some (.val (.ref 0)), some (.val (.int n)), none, none, none] (Dr cs p t s) = lenD [.lst (cs.map .int)] (Dr cs p t s) from bnd_ok (bnd_ok (ix0 rfl))]
      show fine (.int ((cs.map D.int).length : Nat)) _ = _
      rw [List.length_map]
      rfl
    by_cases c1 : t < n
    · by_cases c2 : p < cs.length
      · have tt : mAnd (mTst (mBin ltD (mBin ixD (mVar 0) (mK (D.int 2))) (mVar 1))) (mTst (mBin ltD (mBin ixD (mVar 0) (mK (D.int 1))) (mF lenD (mCons (mBin ixD (mVar 0) (mK (D.int 0))) mNil)))) [some (.val (.ref 0)), some (.val (.int n)), none, none, none] (Dr cs p t s) = .ok true (Dr cs p t s) := by
          rw [and_t (by rw [t1, decide_eq_true c1]), t2, decide_eq_true c2]
        obtain ⟨c, hc⟩ := map_at hp c2
        rw [ifS_t tt]
        rw [seqS_nx (set_ok (x := .val (.int c)) (bin_ok (ix0 rfl) (ix1 rfl) (by
          show (match atI (cs.map D.int) p with | some z => fine z (Dr cs p t s) | none => .bad) = _
          rw [hc]
          rfl)))]
        rw [seqS_nx (put1 (x := .non) rfl (bin_ok (ix1 rfl) k_ok rfl))]
        rw [seqS_nx (put2 rfl k_ok)]
        by_cases c3 : (1000000000000000000 : Int) ≤ c
        · rw [ifS_t (S1 := Dr cs (p + 1) 0 s) (tst_ok (bin_ok (x := .val (.int c)) (y := .val (.int 1000000000000000000)) (var_ok rfl) (bin_ok k_ok k_ok (by rfl)) (ge_t c3)))]
          exact ⟨_, p + 1, c, s, put2 rfl (var_ok rfl), by omega, hs0, hs1⟩
        · rw [ifS_f (S1 := Dr cs (p + 1) 0 s) (tst_ok (bin_ok (x := .val (.int c)) (y := .val (.int 1000000000000000000)) (var_ok rfl) (bin_ok k_ok k_ok (by rfl)) (ge_f c3)))]
          refine ⟨_, p + 1, 0, _, put3 rfl (bin_ok (bin_ok (bin_ok (bin_ok (ix3 rfl) k_ok (mul_ok (mulR (by omega) (by omega)))) (bin_ok (bin_ok (var_ok rfl) k_ok (mod_ok (by omega))) k_ok (mul_ok (mulR (by omega) (by omega)))) add_ok) k_ok add_ok) k_ok (mod_ok (by omega))), by omega, Int.emod_nonneg _ (by omega), Int.emod_lt_of_pos _ (by omega)⟩
      · rw [ifS_f (S1 := Dr cs p t s) (by rw [and_t (by rw [t1, decide_eq_true c1]), t2, decide_eq_false c2])]
        exact ⟨_, p, t, s, rfl, hp, hs0, hs1⟩
    · rw [ifS_f (S1 := Dr cs p t s) (and_f (by rw [t1, decide_eq_false c1]))]
      exact ⟨_, p, t, s, rfl, hp, hs0, hs1⟩
  obtain ⟨e3, p', t', s', q, hp', hs0', hs1'⟩ := first
  rw [seqS_nx q]
  by_cases c : n ≤ t'
  · rw [seqS_rt (S1 := Dr cs p' (t' / n) s') (dv := .val (.int (t' % n))) ?_]
    · exact ⟨_, _, rfl, Int.emod_nonneg _ (by omega), Int.emod_lt_of_pos _ h0, cs, p', t' / n, s', rfl, hp', hs0', hs1'⟩
    · rw [ifS_t (S1 := Dr cs p' t' s') (tst_ok (bin_ok (ix2 rfl) (var_ok rfl) (ge_t c)))]
      rw [seqS_nx (set_ok (bin_ok (ix2 rfl) (var_ok rfl) (mod_ok h0)))]
      rw [seqS_nx (put2 rfl (bin_ok (ix2 rfl) (var_ok rfl) (fdiv_ok h0 h1)))]
      rfl
  · rw [seqS_nx (E1 := [some (.val (.ref 0)), some (.val (.int n)), none, e3, none]) (S1 := Dr cs p' t' s') (by rw [ifS_f (S1 := Dr cs p' t' s') (tst_ok (bin_ok (ix2 rfl) (var_ok rfl) (ge_f c)))]; rfl)]
    rw [seqS_nx (set_ok (ix3 rfl))]
    rw [seqS_nx (put3 rfl (bin_ok (bin_ok (bin_ok (bin_ok (bin_ok (bin_ok (var_ok rfl) (var_ok rfl) (mul_ok (mulR hs0' (by omega)))) k_ok (mod_ok (by omega))) k_ok (mul_ok (mulR (by omega) (by omega)))) (bin_ok (var_ok rfl) k_ok (mul_ok (mulR (by omega) (by omega)))) add_ok) k_ok add_ok) k_ok (mod_ok (by omega))))]
    generalize hs2 : ((s' * s' % 2147483587 * 5 + s' * 16807 + 1013904229) % 2147483647 : Int) = s2
    have b0 : 0 ≤ s2 := by rw [← hs2]; exact Int.emod_nonneg _ (by omega)
    have b1 : s2 < 2147483647 := by rw [← hs2]; exact Int.emod_lt_of_pos _ (by omega)
    have fin : retS (mBin modD (mBin addD (mBin fdivD (mBin ixD (mVar 0) (mK (D.int 3))) (mK (D.int 53))) (mBin mulD (mBin modD (mBin ixD (mVar 0) (mK (D.int 3))) (mK (D.int 8191))) (mK (D.int 31)))) (mVar 1)) ([some (.val (.ref 0)), some (.val (.int n)), none, e3, none].set 2 (some (.val (.int s')))) (Dr cs p' t' s2) = .rt (.val (.int ((s2 / 53 + s2 % 8191 * 31) % n))) (Dr cs p' t' s2) := by
      unfold retS withE
      rw [bin_ok (bin_ok (bin_ok (ix3 rfl) k_ok (fdiv_ok (by omega) (by omega))) (bin_ok (bin_ok (ix3 rfl) k_ok (mod_ok (by omega))) k_ok (mul_ok (mulR (by omega) (by omega)))) add_ok) (var_ok rfl) (mod_ok h0)]
    rw [fin]
    exact ⟨_, _, rfl, Int.emod_nonneg _ (by omega), Int.emod_lt_of_pos _ h0, cs, p', t', s2, rfl, hp', b0, b1⟩
section
variable {E : Ev} {S : Store}
theorem cons_ok {m : M DV} {ms : M (List D)} {S1 S2 : Store} {x : DV} {xs : List D} (h1 : m E S = .ok x S1) (h2 : ms E S1 = .ok xs S2) : mCons m ms E S = .ok (x.frz :: xs) S2 := by
  unfold mCons
  rw [bnd_ok h1, bnd_ok h2]
theorem nil_ok : mNil E S = .ok [] S := rfl
theorem call_ok {f : FD} {n : Nat} {ms : M (List D)} {ds : List D} {S1 : Store} {r : Res DV} (h1 : ms E S = .ok ds S1) (hl : ds.length = n) (h2 : f ds S1 = r) : mCall f n ms E S = r := by
  unfold mCall
  rw [bnd_ok h1]
  show (if ds.length = n then f ds S1 else .bad) = r
  rw [if_pos hl]
  exact h2
theorem f_ok {f : FD} {ms : M (List D)} {ds : List D} {S1 : Store} {r : Res DV} (h1 : ms E S = .ok ds S1) (h2 : f ds S1 = r) : mF f ms E S = r := by
  unfold mF
  rw [bnd_ok h1]
  exact h2
theorem tup_ok {ms : M (List D)} {ds : List D} {S1 : Store} (h1 : ms E S = .ok ds S1) (hz : ds.length ≤ 1000) : mTup ms E S = .ok (.val (.tup ds)) S1 := by
  unfold mTup
  rw [bnd_ok h1]
  show (if small ds.length then fine (.tup ds) S1 else .bad) = _
  rw [if_pos (by unfold small; exact decide_eq_true (by rw [sizeLine_eq]; omega))]
  rfl
theorem lst_ok {ms : M (List D)} {ds : List D} {S1 : Store} (h1 : ms E S = .ok ds S1) (hz : ds.length ≤ 1000) : mLst ms E S = .ok (.ol ds) S1 := by
  unfold mLst
  rw [bnd_ok h1]
  show (if small ds.length then Res.ok (DV.ol ds) S1 else Res.bad) = _
  rw [if_pos (by unfold small; exact decide_eq_true (by rw [sizeLine_eq]; omega))]
theorem pullE {n : Int} (hE : E[0]? = some (some (.val (.ref 0)))) (hS : DrOk S) (h0 : 0 < n) (h1 : n < 1073741824) : ∃ r S', mCall F__law_pull 2 (mCons (mVar 0) (mCons (mK (.int n)) mNil)) E S = .ok (.val (.int r)) S' ∧ 0 ≤ r ∧ r < n ∧ DrOk S' := by
  obtain ⟨r, S', q, a, b, c⟩ := pull_ok hS h0 h1
  exact ⟨r, S', call_ok (cons_ok (var_ok hE) (cons_ok k_ok nil_ok)) rfl q, a, b, c⟩
end
theorem runB_rt {n : Nat} {b : MS} {ds : List D} {S S' : Store} {dv : DV} (h : b (slots0 n ds) S = .rt dv S') : runB n b ds S = .ok dv S' := by
  unfold runB
  rw [h]
theorem cut_map {α : Type} (f : α → D) (xs : List α) (lo hi : Option Int) : ∃ ys : List α, cutD (xs.map f) lo hi = ys.map f := by
  unfold cutD
  rw [← List.map_drop, ← List.map_take]
  exact ⟨_, rfl⟩
theorem open_ok (ns : List Int) : ∃ (cs : List Int) (s : Int), F__law_open [.scr (ns.map .int)] [] = .ok (.ol [.lst (cs.map .int), .int 0, .int 0, .int s]) [] ∧ 0 ≤ s ∧ s < 2147483647 := by
  obtain ⟨cs, hc⟩ := cut_map D.int ns none (some 63)
  have sl : ∀ {E : Ev}, E[0]? = some (some (.val (.scr (ns.map .int)))) → mSl (mVar 0) mNo (mPart (mK (.int 63))) E [] = .ok (.ol (cs.map .int)) [] := fun {E} h => by
    unfold mSl
    rw [bnd_ok (var_ok h)]
    show Res.ok (DV.ol (cutD (ns.map .int) none (some 63))) [] = _
    rw [hc]
  have s1 : setS 1 (mK (.int 7717)) [some (.val (.scr (ns.map .int))), none, none] [] = .nx [some (.val (.scr (ns.map .int))), some (.val (.int 7717)), none] [] := rfl
  have it : mWk itV (mSl (mVar 0) mNo (mPart (mK (.int 63)))) [some (.val (.scr (ns.map .int))), some (.val (.int 7717)), none] [] = .ok ⟨cs.map .int, none⟩ [] := by
    unfold mWk
    rw [bnd_ok (sl rfl)]
    rfl
  obtain ⟨E2, S2, l1, s, e2, rfl, s0, s2, rfl⟩ := loopS_inv (w := cs.map .int) (g := gN 2) (b := setS 1 (mBin modD (mBin addD (mBin addD (mBin mulD (mVar 1) (mK (.int 48271))) (mBin modD (mVar 2) (mK (.int 2147483629)))) (mK (.int 5))) (mK (.int 2147483647))))
    (fun _ E S => ∃ (s : Int) (e2 : Option DV), E = [some (.val (.scr (ns.map .int))), some (.val (.int s)), e2] ∧ 0 ≤ s ∧ s < 2147483647 ∧ S = []) (ds := cs.map .int) (i := 0) (E := [some (.val (.scr (ns.map .int))), some (.val (.int 7717)), none]) (S := []) (fun j d hj E S hI => by
      obtain ⟨s, e2, rfl, h0, h1, rfl⟩ := hI
      rw [List.getElem?_map] at hj
      obtain ⟨c, _, rfl⟩ := Option.map_eq_some_iff.mp hj
      refine ⟨[some (.val (.scr (ns.map .int))), some (.val (.int s)), some (.val (.int c))], _, [], rfl, .inl (set_ok (x := .val (.int ((s * 48271 + c % 2147483629 + 5) % 2147483647))) (bin_ok (bin_ok (bin_ok (bin_ok (x := .val (.int s)) (var_ok rfl) k_ok (mul_ok (mulR (by omega) (by omega)))) (bin_ok (x := .val (.int c)) (var_ok rfl) k_ok (mod_ok (by omega))) add_ok) k_ok add_ok) k_ok (mod_ok (by omega)))), _, _, rfl, Int.emod_nonneg _ (by omega), Int.emod_lt_of_pos _ (by omega), rfl⟩) ⟨7717, none, rfl, by omega, by omega, rfl⟩
  have s2' := forS_of (mi := mWk itV (mSl (mVar 0) mNo (mPart (mK (.int 63))))) it l1
  have s3 : retS (mLst (mCons (mF lstD (mCons (mSl (mVar 0) mNo (mPart (mK (.int 63)))) mNil)) (mCons (mK (.int 0)) (mCons (mK (.int 0)) (mCons (mVar 1) mNil))))) [some (.val (.scr (ns.map .int))), some (.val (.int s)), e2] [] = .rt (.ol [.lst (cs.map .int), .int 0, .int 0, .int s]) [] := by
    unfold retS withE
    rw [lst_ok (cons_ok (x := .ol (cs.map .int)) (f_ok (cons_ok (sl rfl) nil_ok) rfl) (cons_ok k_ok (cons_ok k_ok (cons_ok (x := .val (.int s)) (var_ok rfl) nil_ok)))) (show 4 ≤ 1000 by decide)]
    rfl
  exact ⟨cs, s, runB_rt ((seqS_nx s1).trans ((seqS_nx s2').trans s3)), s0, s2⟩

/-! ### _law_like of a thing and itself -/
inductive Pl : D → Nat → Prop
  | int {i : Int} {n : Nat} : Pl (.int i) (n + 1)
  | str {s : Str} {n : Nat} : PyData.strOk s = true → Pl (.str s) (n + 1)
  | tup {ds : List D} {n : Nat} : (∀ d ∈ ds, Pl d n) → ds.length ≤ 1000 → Pl (.tup ds) (n + 1)
  | lst {ds : List D} {n : Nat} : (∀ d ∈ ds, Pl d n) → ds.length ≤ 1000 → Pl (.lst ds) (n + 1)
end Wk64
set_option Elab.async false
set_option linter.all false
set_option maxRecDepth 100000
set_option maxHeartbeats 4000000
namespace Wk64
open PySem PySem.Spec L2 Hm

/-- the turn behind its first statement -/
noncomputable def restS : MS := (seqS (setS 10 (mLst mNil)) (seqS (tryMS xcs xsub [("YardError", 11, (wordH 10 "word" (fun c => lr__law_flags.map fun t => xsb c t) (fun c => lr__law_kinds.map fun t => xsb c t))), ("Missing", 11, (wordH 10 "word" (fun c => lr__law_flags.map fun t => xsb c t) (fun c => lr__law_kinds.map fun t => xsb c t))), ("NothingLeft", 11, (wordH 10 "word" (fun c => lr__law_flags.map fun t => xsb c t) (fun c => lr__law_kinds.map fun t => xsb c t)))] (seqS (ifS (mTst (mBin ltD (mVar 9) (mK (.int 15)))) (exprS (mCall F__law_early 3 (mCons (mVar 9) (mCons (mVar 7) (mCons (mVar 8) mNil))))) nextS) (exprS (mCall F__law_late 2 (mCons (mVar 9) (mCons (mVar 7) mNil)))))) (seqS (setS 12 (mLst (mCons (mBin ltD (mVar 9) (mK (.int 25))) (mCons (mCh ltD ltD (mK (.int 24)) (mVar 9) (mK (.int 28))) (mCons (mBin ltD (mVar 9) (mK (.int 25))) (mCons (mBin gtD (mVar 9) (mK (.int 24))) (mCons (mBin eqD (mVar 9) (mK (.int 28))) mNil))))))) (frzS 12 (frzS 10 (ifS (mNot (mTru (mCall (F__law_like 6) 2 (mCons (mVar 10) (mCons (mBin addD (mLst (mCons (mLc (mR1 (mCons (mK (.int 29)) mNil)) (gN 13) mYes (mBin eqD (mVar 13) (mVar 9)) [("_law_k", 13)]) (mCons (mBin ixD (mCall F__law_words 0 mNil) (mVar 9)) mNil))) (mVar 12)) mNil))))) (retS (mK (.bl false))) nextS))))))
noncomputable def tailS : MS := (seqS (mkXS 4 "BadYard" 2 [] [("word", .txt "badyard"), ("part", .arg 0), ("at", .arg 1)] (mCons (mVar 7) (mCons (mVar 8) mNil))) (seqS (setS 5 (mLst (mCons (mExF xcs 4 "part") (mCons (mMkF 1 [] [("word", .txt "badwork"), ("work", .arg 0)] "work" (mCons (mVar 7) mNil)) (mCons (mMkF 1 [] [("word", .txt "badway"), ("way", .arg 0)] "way" (mCons (mVar 7) mNil)) (mCons (mMkF 1 [] [("word", .txt "badstuff"), ("stuff", .arg 0)] "stuff" (mCons (mVar 7) mNil)) mNil)))))) (seqS (frzS 5 (setS 5 (mBin addD (mVar 5) (mLst (mCons (mMkF 1 [] [("word", .txt "badmost"), ("most", .arg 0)] "most" (mCons (mVar 7) mNil)) (mCons (mMkF 1 [] [("word", .txt "taken"), ("name", .arg 0)] "name" (mCons (mVar 7) mNil)) (mCons (mMkF 1 [] [("word", .txt "tied"), ("number", .arg 0)] "number" (mCons (mVar 7) mNil)) mNil))))))) (seqS (frzS 5 (setS 5 (mBin addD (mVar 5) (mLst (mCons (mMkF 1 [] [("word", .txt "held"), ("name", .arg 0)] "name" (mCons (mVar 7) mNil)) (mCons (mMkF 1 [] [("word", .txt "broken"), ("at", .arg 0)] "at" (mCons (mVar 7) mNil)) (mCons (mMkF 1 [] [("word", .txt "nostuff"), ("name", .arg 0)] "name" (mCons (mVar 7) mNil)) mNil))))))) (seqS (setS 6 (mLst (mCons (mExF xcs 4 "at") (mCons (mMkF 1 [] [("word", .txt "badday"), ("day", .arg 0)] "day" (mCons (mVar 8) mNil)) (mCons (mMkF 1 [] [("word", .txt "badbound"), ("bound", .arg 0)] "bound" (mCons (mVar 8) mNil)) (mCons (mMkF 1 [] [("word", .txt "badlog"), ("row", .arg 0)] "row" (mCons (mVar 8) mNil)) mNil)))))) (seqS (frzS 6 (setS 6 (mBin addD (mVar 6) (mLst (mCons (mMkF 1 [] [("word", .txt "full"), ("most", .arg 0)] "most" (mCons (mVar 8) mNil)) (mCons (mMkF 1 [] [("word", .txt "nowork"), ("name", .arg 0)] "name" (mCons (mVar 8) mNil)) (mCons (mMkF 1 [] [("word", .txt "notie"), ("name", .arg 0)] "name" (mCons (mVar 8) mNil)) mNil))))))) (frzS 6 (frzS 5 (retS (mAndV (mBin eqD (mVar 5) (mBin mulD (mLst (mCons (mVar 7) mNil)) (mK (.int 10)))) (mAndV (mBin eqD (mVar 6) (mBin mulD (mLst (mCons (mVar 8) mNil)) (mK (.int 7)))) (mBin eqD (mMkF 1 [] [("word", .txt "noplan"), ("log", .arg 0)] "log" (mCons (mLst (mCons (mVar 8) mNil)) mNil)) (mLst (mCons (mVar 8) mNil))))))))))))))
section
variable {x0 x1 x2 x3 e10 e11 e12 e13 : Option DV} {a b : Int} {S : Store}
theorem rest_0 : restS [x0, x1, x2, x3, none, none, none, some (.val (.int a)), some (.val (.int b)), some (.val (.int 0)), e10, e11, e12, e13] S = .nx [x0, x1, x2, x3, none, none, none, some (.val (.int a)), some (.val (.int b)), some (.val (.int 0)), some (.val (.lst [.lst [.bl true, .bl false, .bl false, .bl false, .bl false, .bl false, .bl false, .bl false, .bl false, .bl false, .bl false, .bl false, .bl false, .bl false, .bl false, .bl false, .bl false, .bl false, .bl false, .bl false, .bl false, .bl false, .bl false, .bl false, .bl false, .bl false, .bl false, .bl false, .bl false], .str "badyard", .bl true, .bl false, .bl true, .bl false, .bl false])), none, some (.val (.lst [.bl true, .bl false, .bl true, .bl false, .bl false])), e13] S := by
  kernel_rfl
theorem rest_1 : restS [x0, x1, x2, x3, none, none, none, some (.val (.int a)), some (.val (.int b)), some (.val (.int 1)), e10, e11, e12, e13] S = .nx [x0, x1, x2, x3, none, none, none, some (.val (.int a)), some (.val (.int b)), some (.val (.int 1)), some (.val (.lst [.lst [.bl false, .bl true, .bl false, .bl false, .bl false, .bl false, .bl false, .bl false, .bl false, .bl false, .bl false, .bl false, .bl false, .bl false, .bl false, .bl false, .bl false, .bl false, .bl false, .bl false, .bl false, .bl false, .bl false, .bl false, .bl false, .bl false, .bl false, .bl false, .bl false], .str "badwork", .bl true, .bl false, .bl true, .bl false, .bl false])), none, some (.val (.lst [.bl true, .bl false, .bl true, .bl false, .bl false])), e13] S := by
  kernel_rfl
theorem rest_2 : restS [x0, x1, x2, x3, none, none, none, some (.val (.int a)), some (.val (.int b)), some (.val (.int 2)), e10, e11, e12, e13] S = .nx [x0, x1, x2, x3, none, none, none, some (.val (.int a)), some (.val (.int b)), some (.val (.int 2)), some (.val (.lst [.lst [.bl false, .bl false, .bl true, .bl false, .bl false, .bl false, .bl false, .bl false, .bl false, .bl false, .bl false, .bl false, .bl false, .bl false, .bl false, .bl false, .bl false, .bl false, .bl false, .bl false, .bl false, .bl false, .bl false, .bl false, .bl false, .bl false, .bl false, .bl false, .bl false], .str "badway", .bl true, .bl false, .bl true, .bl false, .bl false])), none, some (.val (.lst [.bl true, .bl false, .bl true, .bl false, .bl false])), e13] S := by
  kernel_rfl
theorem rest_3 : restS [x0, x1, x2, x3, none, none, none, some (.val (.int a)), some (.val (.int b)), some (.val (.int 3)), e10, e11, e12, e13] S = .nx [x0, x1, x2, x3, none, none, none, some (.val (.int a)), some (.val (.int b)), some (.val (.int 3)), some (.val (.lst [.lst [.bl false, .bl false, .bl false, .bl true, .bl false, .bl false, .bl false, .bl false, .bl false, .bl false, .bl false, .bl false, .bl false, .bl false, .bl false, .bl false, .bl false, .bl false, .bl false, .bl false, .bl false, .bl false, .bl false, .bl false, .bl false, .bl false, .bl false, .bl false, .bl false], .str "badday", .bl true, .bl false, .bl true, .bl false, .bl false])), none, some (.val (.lst [.bl true, .bl false, .bl true, .bl false, .bl false])), e13] S := by
  kernel_rfl
theorem rest_4 : restS [x0, x1, x2, x3, none, none, none, some (.val (.int a)), some (.val (.int b)), some (.val (.int 4)), e10, e11, e12, e13] S = .nx [x0, x1, x2, x3, none, none, none, some (.val (.int a)), some (.val (.int b)), some (.val (.int 4)), some (.val (.lst [.lst [.bl false, .bl false, .bl false, .bl false, .bl true, .bl false, .bl false, .bl false, .bl false, .bl false, .bl false, .bl false, .bl false, .bl false, .bl false, .bl false, .bl false, .bl false, .bl false, .bl false, .bl false, .bl false, .bl false, .bl false, .bl false, .bl false, .bl false, .bl false, .bl false], .str "badstuff", .bl true, .bl false, .bl true, .bl false, .bl false])), none, some (.val (.lst [.bl true, .bl false, .bl true, .bl false, .bl false])), e13] S := by
  kernel_rfl
theorem rest_5 : restS [x0, x1, x2, x3, none, none, none, some (.val (.int a)), some (.val (.int b)), some (.val (.int 5)), e10, e11, e12, e13] S = .nx [x0, x1, x2, x3, none, none, none, some (.val (.int a)), some (.val (.int b)), some (.val (.int 5)), some (.val (.lst [.lst [.bl false, .bl false, .bl false, .bl false, .bl false, .bl true, .bl false, .bl false, .bl false, .bl false, .bl false, .bl false, .bl false, .bl false, .bl false, .bl false, .bl false, .bl false, .bl false, .bl false, .bl false, .bl false, .bl false, .bl false, .bl false, .bl false, .bl false, .bl false, .bl false], .str "badplan", .bl true, .bl false, .bl true, .bl false, .bl false])), none, some (.val (.lst [.bl true, .bl false, .bl true, .bl false, .bl false])), e13] S := by
  kernel_rfl
theorem rest_6 : restS [x0, x1, x2, x3, none, none, none, some (.val (.int a)), some (.val (.int b)), some (.val (.int 6)), e10, e11, e12, e13] S = .nx [x0, x1, x2, x3, none, none, none, some (.val (.int a)), some (.val (.int b)), some (.val (.int 6)), some (.val (.lst [.lst [.bl false, .bl false, .bl false, .bl false, .bl false, .bl false, .bl true, .bl false, .bl false, .bl false, .bl false, .bl false, .bl false, .bl false, .bl false, .bl false, .bl false, .bl false, .bl false, .bl false, .bl false, .bl false, .bl false, .bl false, .bl false, .bl false, .bl false, .bl false, .bl false], .str "badsaying", .bl true, .bl false, .bl true, .bl false, .bl false])), none, some (.val (.lst [.bl true, .bl false, .bl true, .bl false, .bl false])), e13] S := by
  kernel_rfl
theorem rest_7 : restS [x0, x1, x2, x3, none, none, none, some (.val (.int a)), some (.val (.int b)), some (.val (.int 7)), e10, e11, e12, e13] S = .nx [x0, x1, x2, x3, none, none, none, some (.val (.int a)), some (.val (.int b)), some (.val (.int 7)), some (.val (.lst [.lst [.bl false, .bl false, .bl false, .bl false, .bl false, .bl false, .bl false, .bl true, .bl false, .bl false, .bl false, .bl false, .bl false, .bl false, .bl false, .bl false, .bl false, .bl false, .bl false, .bl false, .bl false, .bl false, .bl false, .bl false, .bl false, .bl false, .bl false, .bl false, .bl false], .str "badbound", .bl true, .bl false, .bl true, .bl false, .bl false])), none, some (.val (.lst [.bl true, .bl false, .bl true, .bl false, .bl false])), e13] S := by
  kernel_rfl
theorem rest_8 : restS [x0, x1, x2, x3, none, none, none, some (.val (.int a)), some (.val (.int b)), some (.val (.int 8)), e10, e11, e12, e13] S = .nx [x0, x1, x2, x3, none, none, none, some (.val (.int a)), some (.val (.int b)), some (.val (.int 8)), some (.val (.lst [.lst [.bl false, .bl false, .bl false, .bl false, .bl false, .bl false, .bl false, .bl false, .bl true, .bl false, .bl false, .bl false, .bl false, .bl false, .bl false, .bl false, .bl false, .bl false, .bl false, .bl false, .bl false, .bl false, .bl false, .bl false, .bl false, .bl false, .bl false, .bl false, .bl false], .str "badkept", .bl true, .bl false, .bl true, .bl false, .bl false])), none, some (.val (.lst [.bl true, .bl false, .bl true, .bl false, .bl false])), e13] S := by
  kernel_rfl
theorem rest_9 : restS [x0, x1, x2, x3, none, none, none, some (.val (.int a)), some (.val (.int b)), some (.val (.int 9)), e10, e11, e12, e13] S = .nx [x0, x1, x2, x3, none, none, none, some (.val (.int a)), some (.val (.int b)), some (.val (.int 9)), some (.val (.lst [.lst [.bl false, .bl false, .bl false, .bl false, .bl false, .bl false, .bl false, .bl false, .bl false, .bl true, .bl false, .bl false, .bl false, .bl false, .bl false, .bl false, .bl false, .bl false, .bl false, .bl false, .bl false, .bl false, .bl false, .bl false, .bl false, .bl false, .bl false, .bl false, .bl false], .str "badmost", .bl true, .bl false, .bl true, .bl false, .bl false])), none, some (.val (.lst [.bl true, .bl false, .bl true, .bl false, .bl false])), e13] S := by
  kernel_rfl
theorem rest_10 : restS [x0, x1, x2, x3, none, none, none, some (.val (.int a)), some (.val (.int b)), some (.val (.int 10)), e10, e11, e12, e13] S = .nx [x0, x1, x2, x3, none, none, none, some (.val (.int a)), some (.val (.int b)), some (.val (.int 10)), some (.val (.lst [.lst [.bl false, .bl false, .bl false, .bl false, .bl false, .bl false, .bl false, .bl false, .bl false, .bl false, .bl true, .bl false, .bl false, .bl false, .bl false, .bl false, .bl false, .bl false, .bl false, .bl false, .bl false, .bl false, .bl false, .bl false, .bl false, .bl false, .bl false, .bl false, .bl false], .str "noline", .bl true, .bl false, .bl true, .bl false, .bl false])), none, some (.val (.lst [.bl true, .bl false, .bl true, .bl false, .bl false])), e13] S := by
  kernel_rfl
theorem rest_11 : restS [x0, x1, x2, x3, none, none, none, some (.val (.int a)), some (.val (.int b)), some (.val (.int 11)), e10, e11, e12, e13] S = .nx [x0, x1, x2, x3, none, none, none, some (.val (.int a)), some (.val (.int b)), some (.val (.int 11)), some (.val (.lst [.lst [.bl false, .bl false, .bl false, .bl false, .bl false, .bl false, .bl false, .bl false, .bl false, .bl false, .bl false, .bl true, .bl false, .bl false, .bl false, .bl false, .bl false, .bl false, .bl false, .bl false, .bl false, .bl false, .bl false, .bl false, .bl false, .bl false, .bl false, .bl false, .bl false], .str "badlog", .bl true, .bl false, .bl true, .bl false, .bl false])), none, some (.val (.lst [.bl true, .bl false, .bl true, .bl false, .bl false])), e13] S := by
  kernel_rfl
theorem rest_12 : restS [x0, x1, x2, x3, none, none, none, some (.val (.int a)), some (.val (.int b)), some (.val (.int 12)), e10, e11, e12, e13] S = .nx [x0, x1, x2, x3, none, none, none, some (.val (.int a)), some (.val (.int b)), some (.val (.int 12)), some (.val (.lst [.lst [.bl false, .bl false, .bl false, .bl false, .bl false, .bl false, .bl false, .bl false, .bl false, .bl false, .bl false, .bl false, .bl true, .bl false, .bl false, .bl false, .bl false, .bl false, .bl false, .bl false, .bl false, .bl false, .bl false, .bl false, .bl false, .bl false, .bl false, .bl false, .bl false], .str "noplan", .bl true, .bl false, .bl true, .bl false, .bl false])), none, some (.val (.lst [.bl true, .bl false, .bl true, .bl false, .bl false])), e13] S := by
  kernel_rfl
theorem rest_13 : restS [x0, x1, x2, x3, none, none, none, some (.val (.int a)), some (.val (.int b)), some (.val (.int 13)), e10, e11, e12, e13] S = .nx [x0, x1, x2, x3, none, none, none, some (.val (.int a)), some (.val (.int b)), some (.val (.int 13)), some (.val (.lst [.lst [.bl false, .bl false, .bl false, .bl false, .bl false, .bl false, .bl false, .bl false, .bl false, .bl false, .bl false, .bl false, .bl false, .bl true, .bl false, .bl false, .bl false, .bl false, .bl false, .bl false, .bl false, .bl false, .bl false, .bl false, .bl false, .bl false, .bl false, .bl false, .bl false], .str "badname", .bl true, .bl false, .bl true, .bl false, .bl false])), none, some (.val (.lst [.bl true, .bl false, .bl true, .bl false, .bl false])), e13] S := by
  kernel_rfl
theorem rest_14 : restS [x0, x1, x2, x3, none, none, none, some (.val (.int a)), some (.val (.int b)), some (.val (.int 14)), e10, e11, e12, e13] S = .nx [x0, x1, x2, x3, none, none, none, some (.val (.int a)), some (.val (.int b)), some (.val (.int 14)), some (.val (.lst [.lst [.bl false, .bl false, .bl false, .bl false, .bl false, .bl false, .bl false, .bl false, .bl false, .bl false, .bl false, .bl false, .bl false, .bl false, .bl true, .bl false, .bl false, .bl false, .bl false, .bl false, .bl false, .bl false, .bl false, .bl false, .bl false, .bl false, .bl false, .bl false, .bl false], .str "taken", .bl true, .bl false, .bl true, .bl false, .bl false])), none, some (.val (.lst [.bl true, .bl false, .bl true, .bl false, .bl false])), e13] S := by
  kernel_rfl
theorem rest_15 : restS [x0, x1, x2, x3, none, none, none, some (.val (.int a)), some (.val (.int b)), some (.val (.int 15)), e10, e11, e12, e13] S = .nx [x0, x1, x2, x3, none, none, none, some (.val (.int a)), some (.val (.int b)), some (.val (.int 15)), some (.val (.lst [.lst [.bl false, .bl false, .bl false, .bl false, .bl false, .bl false, .bl false, .bl false, .bl false, .bl false, .bl false, .bl false, .bl false, .bl false, .bl false, .bl true, .bl false, .bl false, .bl false, .bl false, .bl false, .bl false, .bl false, .bl false, .bl false, .bl false, .bl false, .bl false, .bl false], .str "full", .bl true, .bl false, .bl true, .bl false, .bl false])), none, some (.val (.lst [.bl true, .bl false, .bl true, .bl false, .bl false])), e13] S := by
  kernel_rfl
theorem rest_16 : restS [x0, x1, x2, x3, none, none, none, some (.val (.int a)), some (.val (.int b)), some (.val (.int 16)), e10, e11, e12, e13] S = .nx [x0, x1, x2, x3, none, none, none, some (.val (.int a)), some (.val (.int b)), some (.val (.int 16)), some (.val (.lst [.lst [.bl false, .bl false, .bl false, .bl false, .bl false, .bl false, .bl false, .bl false, .bl false, .bl false, .bl false, .bl false, .bl false, .bl false, .bl false, .bl false, .bl true, .bl false, .bl false, .bl false, .bl false, .bl false, .bl false, .bl false, .bl false, .bl false, .bl false, .bl false, .bl false], .str "badmany", .bl true, .bl false, .bl true, .bl false, .bl false])), none, some (.val (.lst [.bl true, .bl false, .bl true, .bl false, .bl false])), e13] S := by
  kernel_rfl
theorem rest_17 : restS [x0, x1, x2, x3, none, none, none, some (.val (.int a)), some (.val (.int b)), some (.val (.int 17)), e10, e11, e12, e13] S = .nx [x0, x1, x2, x3, none, none, none, some (.val (.int a)), some (.val (.int b)), some (.val (.int 17)), some (.val (.lst [.lst [.bl false, .bl false, .bl false, .bl false, .bl false, .bl false, .bl false, .bl false, .bl false, .bl false, .bl false, .bl false, .bl false, .bl false, .bl false, .bl false, .bl false, .bl true, .bl false, .bl false, .bl false, .bl false, .bl false, .bl false, .bl false, .bl false, .bl false, .bl false, .bl false], .str "badways", .bl true, .bl false, .bl true, .bl false, .bl false])), none, some (.val (.lst [.bl true, .bl false, .bl true, .bl false, .bl false])), e13] S := by
  kernel_rfl
theorem rest_18 : restS [x0, x1, x2, x3, none, none, none, some (.val (.int a)), some (.val (.int b)), some (.val (.int 18)), e10, e11, e12, e13] S = .nx [x0, x1, x2, x3, none, none, none, some (.val (.int a)), some (.val (.int b)), some (.val (.int 18)), some (.val (.lst [.lst [.bl false, .bl false, .bl false, .bl false, .bl false, .bl false, .bl false, .bl false, .bl false, .bl false, .bl false, .bl false, .bl false, .bl false, .bl false, .bl false, .bl false, .bl false, .bl true, .bl false, .bl false, .bl false, .bl false, .bl false, .bl false, .bl false, .bl false, .bl false, .bl false], .str "badgap", .bl true, .bl false, .bl true, .bl false, .bl false])), none, some (.val (.lst [.bl true, .bl false, .bl true, .bl false, .bl false])), e13] S := by
  kernel_rfl
theorem rest_19 : restS [x0, x1, x2, x3, none, none, none, some (.val (.int a)), some (.val (.int b)), some (.val (.int 19)), e10, e11, e12, e13] S = .nx [x0, x1, x2, x3, none, none, none, some (.val (.int a)), some (.val (.int b)), some (.val (.int 19)), some (.val (.lst [.lst [.bl false, .bl false, .bl false, .bl false, .bl false, .bl false, .bl false, .bl false, .bl false, .bl false, .bl false, .bl false, .bl false, .bl false, .bl false, .bl false, .bl false, .bl false, .bl false, .bl true, .bl false, .bl false, .bl false, .bl false, .bl false, .bl false, .bl false, .bl false, .bl false], .str "same", .bl true, .bl false, .bl true, .bl false, .bl false])), none, some (.val (.lst [.bl true, .bl false, .bl true, .bl false, .bl false])), e13] S := by
  kernel_rfl
theorem rest_20 : restS [x0, x1, x2, x3, none, none, none, some (.val (.int a)), some (.val (.int b)), some (.val (.int 20)), e10, e11, e12, e13] S = .nx [x0, x1, x2, x3, none, none, none, some (.val (.int a)), some (.val (.int b)), some (.val (.int 20)), some (.val (.lst [.lst [.bl false, .bl false, .bl false, .bl false, .bl false, .bl false, .bl false, .bl false, .bl false, .bl false, .bl false, .bl false, .bl false, .bl false, .bl false, .bl false, .bl false, .bl false, .bl false, .bl false, .bl true, .bl false, .bl false, .bl false, .bl false, .bl false, .bl false, .bl false, .bl false], .str "held", .bl true, .bl false, .bl true, .bl false, .bl false])), none, some (.val (.lst [.bl true, .bl false, .bl true, .bl false, .bl false])), e13] S := by
  kernel_rfl
theorem rest_21 : restS [x0, x1, x2, x3, none, none, none, some (.val (.int a)), some (.val (.int b)), some (.val (.int 21)), e10, e11, e12, e13] S = .nx [x0, x1, x2, x3, none, none, none, some (.val (.int a)), some (.val (.int b)), some (.val (.int 21)), some (.val (.lst [.lst [.bl false, .bl false, .bl false, .bl false, .bl false, .bl false, .bl false, .bl false, .bl false, .bl false, .bl false, .bl false, .bl false, .bl false, .bl false, .bl false, .bl false, .bl false, .bl false, .bl false, .bl false, .bl true, .bl false, .bl false, .bl false, .bl false, .bl false, .bl false, .bl false], .str "tied", .bl true, .bl false, .bl true, .bl false, .bl false])), none, some (.val (.lst [.bl true, .bl false, .bl true, .bl false, .bl false])), e13] S := by
  kernel_rfl
theorem rest_22 : restS [x0, x1, x2, x3, none, none, none, some (.val (.int a)), some (.val (.int b)), some (.val (.int 22)), e10, e11, e12, e13] S = .nx [x0, x1, x2, x3, none, none, none, some (.val (.int a)), some (.val (.int b)), some (.val (.int 22)), some (.val (.lst [.lst [.bl false, .bl false, .bl false, .bl false, .bl false, .bl false, .bl false, .bl false, .bl false, .bl false, .bl false, .bl false, .bl false, .bl false, .bl false, .bl false, .bl false, .bl false, .bl false, .bl false, .bl false, .bl false, .bl true, .bl false, .bl false, .bl false, .bl false, .bl false, .bl false], .str "baddeed", .bl true, .bl false, .bl true, .bl false, .bl false])), none, some (.val (.lst [.bl true, .bl false, .bl true, .bl false, .bl false])), e13] S := by
  kernel_rfl
theorem rest_23 : restS [x0, x1, x2, x3, none, none, none, some (.val (.int a)), some (.val (.int b)), some (.val (.int 23)), e10, e11, e12, e13] S = .nx [x0, x1, x2, x3, none, none, none, some (.val (.int a)), some (.val (.int b)), some (.val (.int 23)), some (.val (.lst [.lst [.bl false, .bl false, .bl false, .bl false, .bl false, .bl false, .bl false, .bl false, .bl false, .bl false, .bl false, .bl false, .bl false, .bl false, .bl false, .bl false, .bl false, .bl false, .bl false, .bl false, .bl false, .bl false, .bl false, .bl true, .bl false, .bl false, .bl false, .bl false, .bl false], .str "broken", .bl true, .bl false, .bl true, .bl false, .bl false])), none, some (.val (.lst [.bl true, .bl false, .bl true, .bl false, .bl false])), e13] S := by
  kernel_rfl
theorem rest_24 : restS [x0, x1, x2, x3, none, none, none, some (.val (.int a)), some (.val (.int b)), some (.val (.int 24)), e10, e11, e12, e13] S = .nx [x0, x1, x2, x3, none, none, none, some (.val (.int a)), some (.val (.int b)), some (.val (.int 24)), some (.val (.lst [.lst [.bl false, .bl false, .bl false, .bl false, .bl false, .bl false, .bl false, .bl false, .bl false, .bl false, .bl false, .bl false, .bl false, .bl false, .bl false, .bl false, .bl false, .bl false, .bl false, .bl false, .bl false, .bl false, .bl false, .bl false, .bl true, .bl false, .bl false, .bl false, .bl false], .str "badtext", .bl true, .bl false, .bl true, .bl false, .bl false])), none, some (.val (.lst [.bl true, .bl false, .bl true, .bl false, .bl false])), e13] S := by
  kernel_rfl
theorem rest_25 : restS [x0, x1, x2, x3, none, none, none, some (.val (.int a)), some (.val (.int b)), some (.val (.int 25)), e10, e11, e12, e13] S = .nx [x0, x1, x2, x3, none, none, none, some (.val (.int a)), some (.val (.int b)), some (.val (.int 25)), some (.val (.lst [.lst [.bl false, .bl false, .bl false, .bl false, .bl false, .bl false, .bl false, .bl false, .bl false, .bl false, .bl false, .bl false, .bl false, .bl false, .bl false, .bl false, .bl false, .bl false, .bl false, .bl false, .bl false, .bl false, .bl false, .bl false, .bl false, .bl true, .bl false, .bl false, .bl false], .str "nowork", .bl false, .bl true, .bl false, .bl true, .bl false])), none, some (.val (.lst [.bl false, .bl true, .bl false, .bl true, .bl false])), e13] S := by
  kernel_rfl
theorem rest_26 : restS [x0, x1, x2, x3, none, none, none, some (.val (.int a)), some (.val (.int b)), some (.val (.int 26)), e10, e11, e12, e13] S = .nx [x0, x1, x2, x3, none, none, none, some (.val (.int a)), some (.val (.int b)), some (.val (.int 26)), some (.val (.lst [.lst [.bl false, .bl false, .bl false, .bl false, .bl false, .bl false, .bl false, .bl false, .bl false, .bl false, .bl false, .bl false, .bl false, .bl false, .bl false, .bl false, .bl false, .bl false, .bl false, .bl false, .bl false, .bl false, .bl false, .bl false, .bl false, .bl false, .bl true, .bl false, .bl false], .str "nostuff", .bl false, .bl true, .bl false, .bl true, .bl false])), none, some (.val (.lst [.bl false, .bl true, .bl false, .bl true, .bl false])), e13] S := by
  kernel_rfl
theorem rest_27 : restS [x0, x1, x2, x3, none, none, none, some (.val (.int a)), some (.val (.int b)), some (.val (.int 27)), e10, e11, e12, e13] S = .nx [x0, x1, x2, x3, none, none, none, some (.val (.int a)), some (.val (.int b)), some (.val (.int 27)), some (.val (.lst [.lst [.bl false, .bl false, .bl false, .bl false, .bl false, .bl false, .bl false, .bl false, .bl false, .bl false, .bl false, .bl false, .bl false, .bl false, .bl false, .bl false, .bl false, .bl false, .bl false, .bl false, .bl false, .bl false, .bl false, .bl false, .bl false, .bl false, .bl false, .bl true, .bl false], .str "notie", .bl false, .bl true, .bl false, .bl true, .bl false])), none, some (.val (.lst [.bl false, .bl true, .bl false, .bl true, .bl false])), e13] S := by
  kernel_rfl
theorem rest_28 : restS [x0, x1, x2, x3, none, none, none, some (.val (.int a)), some (.val (.int b)), some (.val (.int 28)), e10, e11, e12, e13] S = .nx [x0, x1, x2, x3, none, none, none, some (.val (.int a)), some (.val (.int b)), some (.val (.int 28)), some (.val (.lst [.lst [.bl false, .bl false, .bl false, .bl false, .bl false, .bl false, .bl false, .bl false, .bl false, .bl false, .bl false, .bl false, .bl false, .bl false, .bl false, .bl false, .bl false, .bl false, .bl false, .bl false, .bl false, .bl false, .bl false, .bl false, .bl false, .bl false, .bl false, .bl false, .bl true], .str "nothingleft", .bl false, .bl false, .bl false, .bl true, .bl true])), none, some (.val (.lst [.bl false, .bl false, .bl false, .bl true, .bl true])), e13] S := by
  kernel_rfl
/-- whatever class comes -/
theorem rest_all (k : Int) (h0 : 0 ≤ k) (h1 : k < 29) : ∃ e10' e11' e12' e13', restS [x0, x1, x2, x3, none, none, none, some (.val (.int a)), some (.val (.int b)), some (.val (.int k)), e10, e11, e12, e13] S = .nx [x0, x1, x2, x3, none, none, none, some (.val (.int a)), some (.val (.int b)), some (.val (.int k)), e10', e11', e12', e13'] S := by
  have c : k = 0 ∨ k = 1 ∨ k = 2 ∨ k = 3 ∨ k = 4 ∨ k = 5 ∨ k = 6 ∨ k = 7 ∨ k = 8 ∨ k = 9 ∨ k = 10 ∨ k = 11 ∨ k = 12 ∨ k = 13 ∨ k = 14 ∨ k = 15 ∨ k = 16 ∨ k = 17 ∨ k = 18 ∨ k = 19 ∨ k = 20 ∨ k = 21 ∨ k = 22 ∨ k = 23 ∨ k = 24 ∨ k = 25 ∨ k = 26 ∨ k = 27 ∨ k = 28 := by omega
  rcases c with rfl | rfl | rfl | rfl | rfl | rfl | rfl | rfl | rfl | rfl | rfl | rfl | rfl | rfl | rfl | rfl | rfl | rfl | rfl | rfl | rfl | rfl | rfl | rfl | rfl | rfl | rfl | rfl | rfl
  · exact ⟨_, _, _, _, rest_0⟩
  · exact ⟨_, _, _, _, rest_1⟩
  · exact ⟨_, _, _, _, rest_2⟩
  · exact ⟨_, _, _, _, rest_3⟩
  · exact ⟨_, _, _, _, rest_4⟩
  · exact ⟨_, _, _, _, rest_5⟩
  · exact ⟨_, _, _, _, rest_6⟩
  · exact ⟨_, _, _, _, rest_7⟩
  · exact ⟨_, _, _, _, rest_8⟩
  · exact ⟨_, _, _, _, rest_9⟩
  · exact ⟨_, _, _, _, rest_10⟩
  · exact ⟨_, _, _, _, rest_11⟩
  · exact ⟨_, _, _, _, rest_12⟩
  · exact ⟨_, _, _, _, rest_13⟩
  · exact ⟨_, _, _, _, rest_14⟩
  · exact ⟨_, _, _, _, rest_15⟩
  · exact ⟨_, _, _, _, rest_16⟩
  · exact ⟨_, _, _, _, rest_17⟩
  · exact ⟨_, _, _, _, rest_18⟩
  · exact ⟨_, _, _, _, rest_19⟩
  · exact ⟨_, _, _, _, rest_20⟩
  · exact ⟨_, _, _, _, rest_21⟩
  · exact ⟨_, _, _, _, rest_22⟩
  · exact ⟨_, _, _, _, rest_23⟩
  · exact ⟨_, _, _, _, rest_24⟩
  · exact ⟨_, _, _, _, rest_25⟩
  · exact ⟨_, _, _, _, rest_26⟩
  · exact ⟨_, _, _, _, rest_27⟩
  · exact ⟨_, _, _, _, rest_28⟩
end
end Wk64
set_option Elab.async false
set_option linter.all false
set_option maxRecDepth 100000
set_option maxHeartbeats 4000000
namespace Wk64
open PySem PySem.Spec L2 Hm

section
variable {S : Store} {a b : Int}
theorem rows_self : ∀ (n : Nat), PyData.eqvAll (List.replicate n (.int a)) (List.replicate n (.int a)) = true
  | 0 => by simp [PyData.eqvAll]
  | n + 1 => by
    rw [List.replicate_succ]
    simp only [PyData.eqvAll, PyData.eqv, rows_self n]
    simp
theorem eq_rows {n : Nat} {ds es : List D} (h1 : pyOf S (.lst ds) = some (.list (List.replicate n (.int a)))) (h2 : pyOf S (.lst es) = some (.list (List.replicate n (.int a)))) : eqD (.lst ds) (.lst es) S = fine (.bl true) S := by
  unfold eqD
  rw [h1, h2]
  show fine (.bl (PyData.eqv (.list _) (.list _))) S = _
  simp only [PyData.eqv, rows_self]
end
noncomputable def endS : MS := frzS 6 (frzS 5 (retS (mAndV (mBin eqD (mVar 5) (mBin mulD (mLst (mCons (mVar 7) mNil)) (mK (.int 10)))) (mAndV (mBin eqD (mVar 6) (mBin mulD (mLst (mCons (mVar 8) mNil)) (mK (.int 7)))) (mBin eqD (mMkF 1 [] [("word", .txt "noplan"), ("log", .arg 0)] "log" (mCons (mLst (mCons (mVar 8) mNil)) mNil)) (mLst (mCons (mVar 8) mNil)))))))
section
variable {x0 x1 x2 x3 e4 e5 e6 e9 e10 e11 e12 e13 : Option DV} {a b p t s : Int} {cs : List Int}
theorem tail_to : tailS [x0, x1, x2, x3, none, none, none, some (.val (.int a)), some (.val (.int b)), e9, e10, e11, e12, e13] (Dr cs p t s) =
    endS [x0, x1, x2, x3, some (.val (.ref 1)), some (.ol (List.replicate 10 (.int a))), some (.ol (List.replicate 7 (.int b))), some (.val (.int a)), some (.val (.int b)), e9, e10, e11, e12, e13] (Dr cs p t s ++ [.exc "BadYard" [("at", .int b), ("part", .int a), ("word", .str "badyard")]]) := by
  kernel_rfl
theorem end_ok {S : Store} : endS [x0, x1, x2, x3, e4, some (.ol (List.replicate 10 (.int a))), some (.ol (List.replicate 7 (.int b))), some (.val (.int a)), some (.val (.int b)), e9, e10, e11, e12, e13] S = .rt (.val (.bl true)) S := by
  have X : mBin eqD (mVar 5) (mBin mulD (mLst (mCons (mVar 7) mNil)) (mK (.int 10))) [x0, x1, x2, x3, e4, some (.val (.lst (List.replicate 10 (.int a)))), some (.val (.lst (List.replicate 7 (.int b)))), some (.val (.int a)), some (.val (.int b)), e9, e10, e11, e12, e13] S = .ok (.val (.bl true)) S := by
    refine bin_ok (S1 := S) (S2 := S) (x := .val (.lst (List.replicate 10 (.int a)))) (y := .ol (List.replicate 10 (.int a))) (var_ok rfl) (bin_ok (x := .ol [.int a]) (y := .val (.int 10)) (lst_ok (cons_ok (var_ok rfl) nil_ok) (by simp)) k_ok (by kernel_rfl)) ?_
    exact eq_rows (n := 10) (a := a) (by kernel_rfl) (by kernel_rfl)
  have Y : mBin eqD (mVar 6) (mBin mulD (mLst (mCons (mVar 8) mNil)) (mK (.int 7))) [x0, x1, x2, x3, e4, some (.val (.lst (List.replicate 10 (.int a)))), some (.val (.lst (List.replicate 7 (.int b)))), some (.val (.int a)), some (.val (.int b)), e9, e10, e11, e12, e13] S = .ok (.val (.bl true)) S := by
    refine bin_ok (S1 := S) (S2 := S) (x := .val (.lst (List.replicate 7 (.int b)))) (y := .ol (List.replicate 7 (.int b))) (var_ok rfl) (bin_ok (x := .ol [.int b]) (y := .val (.int 7)) (lst_ok (cons_ok (var_ok rfl) nil_ok) (by simp)) k_ok (by kernel_rfl)) ?_
    exact eq_rows (n := 7) (a := b) (by kernel_rfl) (by kernel_rfl)
  have Z : mBin eqD (mMkF 1 [] [("word", .txt "noplan"), ("log", .arg 0)] "log" (mCons (mLst (mCons (mVar 8) mNil)) mNil)) (mLst (mCons (mVar 8) mNil)) [x0, x1, x2, x3, e4, some (.val (.lst (List.replicate 10 (.int a)))), some (.val (.lst (List.replicate 7 (.int b)))), some (.val (.int a)), some (.val (.int b)), e9, e10, e11, e12, e13] S = .ok (.val (.bl true)) S := by
    refine bin_ok (S1 := S) (S2 := S) (x := .val (.lst [.int b])) (y := .ol [.int b]) (by kernel_rfl) (lst_ok (cons_ok (var_ok rfl) nil_ok) (by simp)) ?_
    exact eq_rows (n := 1) (a := b) (by kernel_rfl) (by kernel_rfl)
  show retS (mAndV _ (mAndV _ _)) [x0, x1, x2, x3, e4, some (.val (.lst (List.replicate 10 (.int a)))), some (.val (.lst (List.replicate 7 (.int b)))), some (.val (.int a)), some (.val (.int b)), e9, e10, e11, e12, e13] S = _
  have all : mAndV (mBin eqD (mVar 5) (mBin mulD (mLst (mCons (mVar 7) mNil)) (mK (.int 10)))) (mAndV (mBin eqD (mVar 6) (mBin mulD (mLst (mCons (mVar 8) mNil)) (mK (.int 7)))) (mBin eqD (mMkF 1 [] [("word", .txt "noplan"), ("log", .arg 0)] "log" (mCons (mLst (mCons (mVar 8) mNil)) mNil)) (mLst (mCons (mVar 8) mNil)))) [x0, x1, x2, x3, e4, some (.val (.lst (List.replicate 10 (.int a)))), some (.val (.lst (List.replicate 7 (.int b)))), some (.val (.int a)), some (.val (.int b)), e9, e10, e11, e12, e13] S = .ok (.val (.bl true)) S := by
    unfold mAndV
    rw [bnd_ok X]
    show bnd _ _ _ _ = _
    rw [bnd_ok Y]
    exact Z
  unfold retS withE
  rw [all]
end
theorem plain (ns : List Int) (hn : ns.length ≤ 63) : ∃ S, F_law [.scr (ns.map .int)] [] = .ok (.val (.bl true)) S := by
  obtain ⟨cs, s, q1, h0, h1⟩ := open_ok ns
  generalize hsc : D.scr (ns.map .int) = sc at *
  have pw : ∀ {E : Ev} {S : Store}, mBin powD (mK (.int 10)) (mK (.int 9)) E S = .ok (.val (.int 1000000000)) S := fun {E S} => by kernel_rfl
  have d0 : DrOk (Dr cs 0 0 s) := ⟨cs, 0, 0, s, rfl, by omega, h0, h1⟩
  obtain ⟨a, S1, p1, _, _, d1⟩ := pull_ok (n := 1000000000) d0 (by omega) (by omega)
  obtain ⟨b, S2, p2, _, _, d2⟩ := pull_ok (n := 1000000000) d1 (by omega) (by omega)
  obtain ⟨g, S3, p3, g0, g1, d3⟩ := pull_ok (n := 29) d2 (by omega) (by omega)
  have s1 : setS 1 (mCall F__law_open 1 (mCons (mVar 0) mNil)) (slots0 14 [sc]) [] = .nx [some (.val sc), some (.ol [.lst (cs.map .int), .int 0, .int 0, .int s]), none, none, none, none, none, none, none, none, none, none, none, none] [] := set_ok (call_ok (cons_ok (var_ok rfl) nil_ok) rfl q1)
  have pa : ∀ {S S' : Store} {n v : Int} {e2 e7 e8 : Option DV} {m : M DV}, (∀ {E : Ev} {S : Store}, m E S = .ok (.val (.int n)) S) → F__law_pull [.ref 0, .int n] S = .ok (.val (.int v)) S' →
      mCall F__law_pull 2 (mCons (mVar 1) (mCons m mNil)) [some (.val sc), some (.val (.ref 0)), e2, none, none, none, none, e7, e8, none, none, none, none, none] S = .ok (.val (.int v)) S' := fun {S S' n v e2 e7 e8 m} hm h => call_ok (cons_ok (var_ok rfl) (cons_ok hm nil_ok)) rfl h
  have s2 : celS 1 (parS 7 8 (mCons (mCall F__law_pull 2 (mCons (mVar 1) (mCons (mBin powD (mK (.int 10)) (mK (.int 9))) mNil))) (mCons (mCall F__law_pull 2 (mCons (mVar 1) (mCons (mBin powD (mK (.int 10)) (mK (.int 9))) mNil))) mNil)))
      [some (.val sc), some (.ol [.lst (cs.map .int), .int 0, .int 0, .int s]), none, none, none, none, none, none, none, none, none, none, none, none] [] = .nx [some (.val sc), some (.val (.ref 0)), none, none, none, none, none, some (.val (.int a)), some (.val (.int b)), none, none, none, none, none] S2 := by
    show parS 7 8 _ [some (.val sc), some (.val (.ref 0)), none, none, none, none, none, none, none, none, none, none, none, none] (Dr cs 0 0 s) = _
    unfold parS withE
    rw [cons_ok (pa pw p1) (cons_ok (pa pw p2) nil_ok)]
    rfl
  have s3 : celS 1 (setS 2 (mCall F__law_pull 2 (mCons (mVar 1) (mCons (mK (.int 29)) mNil)))) [some (.val sc), some (.val (.ref 0)), none, none, none, none, none, some (.val (.int a)), some (.val (.int b)), none, none, none, none, none] S2 =
      .nx [some (.val sc), some (.val (.ref 0)), some (.val (.int g)), none, none, none, none, some (.val (.int a)), some (.val (.int b)), none, none, none, none, none] S3 := by
    show setS 2 _ _ _ = _
    rw [set_ok (pa k_ok p3)]
    rfl
  have it : mR1 (mCons (mK (.int 29)) mNil) [some (.val sc), some (.val (.ref 0)), some (.val (.int g)), none, none, none, none, some (.val (.int a)), some (.val (.int b)), none, none, none, none, none] S3 = .ok (rngL 0 29) S3 := rfl
  obtain ⟨E2, T, l1, ⟨e3, e9, e10, e11, e12, e13, rfl, rfl⟩⟩ := loopS_inv (w := (rngL 0 29).ds) (g := gN 3) (b := seqS (setS 9 (mBin modD (mBin addD (mVar 2) (mBin mulD (mK (.int 7)) (mVar 3))) (mK (.int 29)))) restS)
    (fun _ E T => ∃ e3 e9 e10 e11 e12 e13, E = [some (.val sc), some (.val (.ref 0)), some (.val (.int g)), e3, none, none, none, some (.val (.int a)), some (.val (.int b)), e9, e10, e11, e12, e13] ∧ T = S3) (ds := (rngL 0 29).ds) (i := 0)
    (E := [some (.val sc), some (.val (.ref 0)), some (.val (.int g)), none, none, none, none, some (.val (.int a)), some (.val (.int b)), none, none, none, none, none]) (S := S3) (fun j d hj E T hI => by
      obtain ⟨e3, e9, e10, e11, e12, e13, rfl, rfl⟩ := hI
      have hd : ∃ k : Int, d = .int k := by
        unfold rngL at hj
        rw [List.getElem?_map] at hj
        obtain ⟨c, _, rfl⟩ := Option.map_eq_some_iff.mp hj
        exact ⟨_, rfl⟩
      obtain ⟨k, rfl⟩ := hd
      obtain ⟨e10', e11', e12', e13', q⟩ := rest_all (x0 := some (.val sc)) (x1 := some (.val (.ref 0))) (x2 := some (.val (.int g))) (x3 := some (.val (.int k))) (e10 := e10) (e11 := e11) (e12 := e12) (e13 := e13) (a := a) (b := b) (S := T) ((g + 7 * k) % 29) (by omega) (by omega)
      have f1 : setS 9 (mBin modD (mBin addD (mVar 2) (mBin mulD (mK (.int 7)) (mVar 3))) (mK (.int 29))) [some (.val sc), some (.val (.ref 0)), some (.val (.int g)), some (.val (.int k)), none, none, none, some (.val (.int a)), some (.val (.int b)), e9, e10, e11, e12, e13] T =
          .nx [some (.val sc), some (.val (.ref 0)), some (.val (.int g)), some (.val (.int k)), none, none, none, some (.val (.int a)), some (.val (.int b)), some (.val (.int ((g + 7 * k) % 29))), e10, e11, e12, e13] T := by kernel_rfl
      exact ⟨_, _, T, rfl, .inl ((seqS_nx f1).trans q), _, _, _, _, _, _, rfl, rfl⟩) ⟨_, _, _, _, _, _, rfl, rfl⟩
  have fo := forS_of it l1
  obtain ⟨cs3, p3', t3, s3', rfl, _⟩ := d3
  refine ⟨_, runB_rt ((seqS_nx s1).trans ((seqS_nx s2).trans ((seqS_nx s3).trans ((seqS_nx fo).trans (tail_to.trans end_ok)))))⟩
end Wk64
set_option Elab.async false
set_option linter.all false
set_option maxRecDepth 100000
set_option maxHeartbeats 0
namespace Wk64
open PySem PySem.W PySem.Calls PySem.Spec PyProof.Rows L2 Hm
def fn_0 : List He.DefD := [⟨("_law_early", none), "_law_early", "_law_early", defArgs (top 39), defBody (top 39), defScope (top 39), [], []⟩, ⟨("_law_flags", none), "_law_flags", "_law_flags", defArgs (top 37), defBody (top 37), defScope (top 37), [], []⟩, ⟨("_law_kinds", none), "_law_kinds", "_law_kinds", defArgs (top 41), defBody (top 41), defScope (top 41), [], []⟩, ⟨("_law_late", none), "_law_late", "_law_late", defArgs (top 40), defBody (top 40), defScope (top 40), [], []⟩, ⟨("_law_num", none), "_law_num", "_law_num", defArgs (top 35), defBody (top 35), defScope (top 35), [], []⟩, ⟨("_law_like", none), "_law_like", "_law_like", defArgs (top 36), defBody (top 36), defScope (top 36), [], []⟩, ⟨("_law_open", none), "_law_open", "_law_open", defArgs (top 33), defBody (top 33), defScope (top 33), [], []⟩, ⟨("_law_pull", none), "_law_pull", "_law_pull", defArgs (top 34), defBody (top 34), defScope (top 34), [], []⟩, ⟨("_law_words", none), "_law_words", "_law_words", defArgs (top 38), defBody (top 38), defScope (top 38), [], []⟩, ⟨("law", none), "law", "law", defArgs (top 42), defBody (top 42), defScope (top 42), [], []⟩, ⟨("BadBound", some "__init__"), "__init__", "BadBound.__init__", defArgs sx_BadBound, defBody sx_BadBound, defScope sx_BadBound, [], []⟩, ⟨("BadDay", some "__init__"), "__init__", "BadDay.__init__", defArgs sx_BadDay, defBody sx_BadDay, defScope sx_BadDay, [], []⟩]
def fn_1 : List He.DefD := [⟨("BadDeed", some "__init__"), "__init__", "BadDeed.__init__", defArgs sx_BadDeed, defBody sx_BadDeed, defScope sx_BadDeed, [], []⟩, ⟨("BadGap", some "__init__"), "__init__", "BadGap.__init__", defArgs sx_BadGap, defBody sx_BadGap, defScope sx_BadGap, [], []⟩, ⟨("BadKept", some "__init__"), "__init__", "BadKept.__init__", defArgs sx_BadKept, defBody sx_BadKept, defScope sx_BadKept, [], []⟩, ⟨("BadLog", some "__init__"), "__init__", "BadLog.__init__", defArgs sx_BadLog, defBody sx_BadLog, defScope sx_BadLog, [], []⟩, ⟨("BadMany", some "__init__"), "__init__", "BadMany.__init__", defArgs sx_BadMany, defBody sx_BadMany, defScope sx_BadMany, [], []⟩, ⟨("BadMost", some "__init__"), "__init__", "BadMost.__init__", defArgs sx_BadMost, defBody sx_BadMost, defScope sx_BadMost, [], []⟩, ⟨("BadName", some "__init__"), "__init__", "BadName.__init__", defArgs sx_BadName, defBody sx_BadName, defScope sx_BadName, [], []⟩, ⟨("BadPlan", some "__init__"), "__init__", "BadPlan.__init__", defArgs sx_BadPlan, defBody sx_BadPlan, defScope sx_BadPlan, [], []⟩, ⟨("BadSaying", some "__init__"), "__init__", "BadSaying.__init__", defArgs sx_BadSaying, defBody sx_BadSaying, defScope sx_BadSaying, [], []⟩, ⟨("BadStuff", some "__init__"), "__init__", "BadStuff.__init__", defArgs sx_BadStuff, defBody sx_BadStuff, defScope sx_BadStuff, [], []⟩, ⟨("BadText", some "__init__"), "__init__", "BadText.__init__", defArgs sx_BadText, defBody sx_BadText, defScope sx_BadText, [.int 0], []⟩, ⟨("BadWay", some "__init__"), "__init__", "BadWay.__init__", defArgs sx_BadWay, defBody sx_BadWay, defScope sx_BadWay, [], []⟩]
def fn_2 : List He.DefD := [⟨("BadWays", some "__init__"), "__init__", "BadWays.__init__", defArgs sx_BadWays, defBody sx_BadWays, defScope sx_BadWays, [], []⟩, ⟨("BadWork", some "__init__"), "__init__", "BadWork.__init__", defArgs sx_BadWork, defBody sx_BadWork, defScope sx_BadWork, [], []⟩, ⟨("BadYard", some "__init__"), "__init__", "BadYard.__init__", defArgs sx_BadYard, defBody sx_BadYard, defScope sx_BadYard, [], []⟩, ⟨("Broken", some "__init__"), "__init__", "Broken.__init__", defArgs sx_Broken, defBody sx_Broken, defScope sx_Broken, [], []⟩, ⟨("Full", some "__init__"), "__init__", "Full.__init__", defArgs sx_Full, defBody sx_Full, defScope sx_Full, [], []⟩, ⟨("Held", some "__init__"), "__init__", "Held.__init__", defArgs sx_Held, defBody sx_Held, defScope sx_Held, [], []⟩, ⟨("NoLine", some "__init__"), "__init__", "NoLine.__init__", defArgs sx_NoLine, defBody sx_NoLine, defScope sx_NoLine, [], []⟩, ⟨("NoPlan", some "__init__"), "__init__", "NoPlan.__init__", defArgs sx_NoPlan, defBody sx_NoPlan, defScope sx_NoPlan, [], []⟩, ⟨("NoStuff", some "__init__"), "__init__", "NoStuff.__init__", defArgs sx_NoStuff, defBody sx_NoStuff, defScope sx_NoStuff, [], []⟩, ⟨("NoTie", some "__init__"), "__init__", "NoTie.__init__", defArgs sx_NoTie, defBody sx_NoTie, defScope sx_NoTie, [], []⟩, ⟨("NoWork", some "__init__"), "__init__", "NoWork.__init__", defArgs sx_NoWork, defBody sx_NoWork, defScope sx_NoWork, [], []⟩, ⟨("NothingLeft", some "__init__"), "__init__", "NothingLeft.__init__", defArgs sx_NothingLeft, defBody sx_NothingLeft, defScope sx_NothingLeft, [], []⟩]
def fn_3 : List He.DefD := [⟨("Same", some "__init__"), "__init__", "Same.__init__", defArgs sx_Same, defBody sx_Same, defScope sx_Same, [], []⟩, ⟨("Taken", some "__init__"), "__init__", "Taken.__init__", defArgs sx_Taken, defBody sx_Taken, defScope sx_Taken, [], []⟩, ⟨("Tied", some "__init__"), "__init__", "Tied.__init__", defArgs sx_Tied, defBody sx_Tied, defScope sx_Tied, [], []⟩]
def fn : List He.DefD := fn_0 ++ fn_1 ++ fn_2 ++ fn_3
def fa_0 : List He.Fa := [.glo "_law_early", .glo "_law_flags", .glo "_law_kinds", .glo "_law_late", .glo "_law_num", .glo "_law_like", .glo "_law_open", .glo "_law_pull", .glo "_law_words", .glo "law", .free "IndexError", .free "LookupError"]
def fa_1 : List He.Fa := [.free "ValueError", .free "all", .free "bool", .free "int", .free "isinstance", .free "len", .free "list", .free "range", .free "str", .free "tuple", .glo "BadBound", .glo "BadDay"]
def fa_2 : List He.Fa := [.glo "BadDeed", .glo "BadGap", .glo "BadKept", .glo "BadLog", .glo "BadMany", .glo "BadMost", .glo "BadName", .glo "BadPlan", .glo "BadSaying", .glo "BadStuff", .glo "BadText", .glo "BadWay"]
def fa_3 : List He.Fa := [.glo "BadWays", .glo "BadWork", .glo "BadYard", .glo "Broken", .glo "Full", .glo "Held", .glo "NoLine", .glo "NoPlan", .glo "NoStuff", .glo "NoTie", .glo "NoWork", .glo "NothingLeft"]
def fa_4 : List He.Fa := [.glo "Same", .glo "Taken", .glo "Tied", .glo "YardError", .glo "Missing"]
def fa : List He.Fa := fa_0 ++ fa_1 ++ fa_2 ++ fa_3 ++ fa_4
def ts : List He.Tab := []
def bs_0 : List (PySem.W.Frag → Bool) := [fun K => xclB K .ve "BadBound" ["at", "bound", "part", "word"], fun K => xclB K .ve "BadDay" ["at", "day", "part", "word"], fun K => xclB K .ve "BadDeed" ["at", "part", "word"], fun K => xclB K .ve "BadGap" ["at", "part", "word"], fun K => xclB K .ve "BadKept" ["at", "part", "word"], fun K => xclB K .ve "BadLog" ["at", "part", "row", "word"], fun K => xclB K .ve "BadMany" ["at", "part", "word"], fun K => xclB K .ve "BadMost" ["at", "most", "part", "word"], fun K => xclB K .ve "BadName" ["at", "part", "word"], fun K => xclB K .ve "BadPlan" ["at", "part", "word"], fun K => xclB K .ve "BadSaying" ["at", "part", "word"], fun K => xclB K .ve "BadStuff" ["at", "part", "stuff", "word"]]
def bs_1 : List (PySem.W.Frag → Bool) := [fun K => xclB K .ve "BadText" ["at", "part", "row", "word"], fun K => xclB K .ve "BadWay" ["at", "part", "way", "word"], fun K => xclB K .ve "BadWays" ["at", "part", "word"], fun K => xclB K .ve "BadWork" ["at", "part", "word", "work"], fun K => xclB K .ve "BadYard" ["at", "part", "word"], fun K => xclB K .ve "Broken" ["at", "part", "word"], fun K => xclB K .ve "Full" ["at", "most", "part", "word"], fun K => xclB K .ve "Held" ["at", "name", "part", "word"], fun K => xclB K .ve "NoLine" ["at", "part", "word"], fun K => xclB K .ve "NoPlan" ["at", "log", "part", "word"], fun K => xclB K .le "NoStuff" ["at", "name", "part", "word"], fun K => xclB K .le "NoTie" ["at", "name", "part", "word"]]
def bs_2 : List (PySem.W.Frag → Bool) := [fun K => xclB K .le "NoWork" ["at", "name", "part", "word"], fun K => xclB K .ie "NothingLeft" ["at", "part", "word"], fun K => xclB K .ve "Same" ["at", "part", "word"], fun K => xclB K .ve "Taken" ["at", "name", "part", "word"], fun K => xclB K .ve "Tied" ["at", "number", "part", "word"], fun K => emB K xcs xks xsub, fun K => excsB K xcs, fun K => kitB K xcs xcts xsb]
def bs : List (PySem.W.Frag → Bool) := bs_0 ++ bs_1 ++ bs_2
abbrev R : PySem.W.OpenRow := PySem.W.OpenLaw.row PySem.Challenge.rw_hodman_k64_refusals_apart
abbrev hk : PySem.W.Hook := hookX 5 fa fn ts bs
def ob (s : PySem.W.SharedT) : AlX := obsXG 5 fa fn ts bs (HandSHeadRun.getT s)
theorem ob_eq (s : PySem.W.SharedT) : ob s = hk.obs s.abs := obsXG_eq (HandSHeadRun.getT_eq s)
def loose0 : List PySem.Str := ["YardError", "BadYard", "BadWork", "BadWay", "BadDay", "BadStuff", "BadPlan", "BadSaying", "BadBound", "BadKept", "BadMost", "NoLine", "BadLog", "NoPlan", "BadName", "Taken", "Full", "BadMany", "BadWays", "BadGap"]
def loose1 : List PySem.Str := ["Same", "Held", "Tied", "BadDeed", "Broken", "BadText", "Missing", "NoWork", "NoStuff", "NoTie", "NothingLeft", "_law_open", "_law_pull", "_law_num", "_law_like", "_law_flags", "_law_words", "_law_early", "_law_late", "_law_kinds"]
def loose : List PySem.Str := loose0 ++ loose1
theorem run0a (w : World) : Part R 16000 (w.withFollow "special-get-raises" false) (fun s => HandSHeadRun.looksF R.prog (boot_heap (w.withFollow "special-get-raises" false).params) s.abs) true := by
  intro os; kernel_rfl
theorem run0b (w : World) : Part R 16000 (w.withFollow "special-get-raises" false) (fun s => HandSHeadRun.seenQ (PySem.W.view R.prog [42]) loose (importedModules R.prog.main.body) (fun s => xlAt (PySem.W.view R.prog [42]) [] s && recOk R.toRowW.records s) s.abs) (openGood (PySem.W.view R.prog [42]) loose) := by
  intro os; kernel_rfl
theorem run0c (w : World) : Part R 16000 (w.withFollow "special-get-raises" false) ob (hk.val (w.withFollow "special-get-raises" false)) := by
  intro os; kernel_rfl
theorem run1a (w : World) : Part R 16000 (w.withFollow "special-get-raises" true) (fun s => HandSHeadRun.looksF R.prog (boot_heap (w.withFollow "special-get-raises" true).params) s.abs) true := by
  intro os; kernel_rfl
theorem run1b (w : World) : Part R 16000 (w.withFollow "special-get-raises" true) (fun s => HandSHeadRun.seenQ (PySem.W.view R.prog [42]) loose (importedModules R.prog.main.body) (fun s => xlAt (PySem.W.view R.prog [42]) [] s && recOk R.toRowW.records s) s.abs) (openGood (PySem.W.view R.prog [42]) loose) := by
  intro os; kernel_rfl
theorem run1c (w : World) : Part R 16000 (w.withFollow "special-get-raises" true) ob (hk.val (w.withFollow "special-get-raises" true)) := by
  intro os; kernel_rfl
theorem run0 (w : World) : HandSHeadRun.RunEq R (PySem.W.view R.prog [42]) hk ob 16000 loose (w.withFollow "special-get-raises" false) :=
  run_parts (r := R) (q := PySem.W.view R.prog [42]) (H := hk) (ob := ob) (M := 16000) (loose := loose) (w := (w.withFollow "special-get-raises" false)) (run0a w) (run0b w) (run0c w)
theorem run1 (w : World) : HandSHeadRun.RunEq R (PySem.W.view R.prog [42]) hk ob 16000 loose (w.withFollow "special-get-raises" true) :=
  run_parts (r := R) (q := PySem.W.view R.prog [42]) (H := hk) (ob := ob) (M := 16000) (loose := loose) (w := (w.withFollow "special-get-raises" true)) (run1a w) (run1b w) (run1c w)
theorem run (w : World) : HandSHeadRun.RunEq R (PySem.W.view R.prog [42]) hk ob 16000 loose w :=
  PySem.W.byRow2 "special-get-raises" (P := fun w => HandSHeadRun.RunEq R (PySem.W.view R.prog [42]) hk ob 16000 loose w) run0 run1 w
theorem facts {P : Program} {w : World} {K : PySem.W.Frag} {h : Heap} {mg : Str → Option Value} (X : K.In h) (Y : h.Ns mainGlobals mg) (c : SaysX fa fn ts bs w K) (base : Heap) : Fx ⟨P, w, K, mg, base⟩ where
    g__law_early := He.glo_ok X Y (c.one.d.fact 0 (f := .glo "_law_early") rfl)
    g__law_flags := He.glo_ok X Y (c.one.d.fact 1 (f := .glo "_law_flags") rfl)
    g__law_kinds := He.glo_ok X Y (c.one.d.fact 2 (f := .glo "_law_kinds") rfl)
    g__law_late := He.glo_ok X Y (c.one.d.fact 3 (f := .glo "_law_late") rfl)
    g__law_num := He.glo_ok X Y (c.one.d.fact 4 (f := .glo "_law_num") rfl)
    g__law_like := He.glo_ok X Y (c.one.d.fact 5 (f := .glo "_law_like") rfl)
    g__law_open := He.glo_ok X Y (c.one.d.fact 6 (f := .glo "_law_open") rfl)
    g__law_pull := He.glo_ok X Y (c.one.d.fact 7 (f := .glo "_law_pull") rfl)
    g__law_words := He.glo_ok X Y (c.one.d.fact 8 (f := .glo "_law_words") rfl)
    g_law := He.glo_ok X Y (c.one.d.fact 9 (f := .glo "law") rfl)
    d__law_early := c.one.d.def_ 0 rfl
    d__law_flags := c.one.d.def_ 1 rfl
    d__law_kinds := c.one.d.def_ 2 rfl
    d__law_late := c.one.d.def_ 3 rfl
    d__law_num := c.one.d.def_ 4 rfl
    d__law_like := c.one.d.def_ 5 rfl
    d__law_open := c.one.d.def_ 6 rfl
    d__law_pull := c.one.d.def_ 7 rfl
    d__law_words := c.one.d.def_ 8 rfl
    d_law := c.one.d.def_ 9 rfl
    b_IndexError := He.free_ok X Y (c.one.d.fact 10 (f := .free "IndexError") rfl)
    b_LookupError := He.free_ok X Y (c.one.d.fact 11 (f := .free "LookupError") rfl)
    b_ValueError := He.free_ok X Y (c.one.d.fact 12 (f := .free "ValueError") rfl)
    b_all := He.free_ok X Y (c.one.d.fact 13 (f := .free "all") rfl)
    b_bool := He.free_ok X Y (c.one.d.fact 14 (f := .free "bool") rfl)
    b_int := He.free_ok X Y (c.one.d.fact 15 (f := .free "int") rfl)
    b_isinstance := He.free_ok X Y (c.one.d.fact 16 (f := .free "isinstance") rfl)
    b_len := He.free_ok X Y (c.one.d.fact 17 (f := .free "len") rfl)
    b_list := He.free_ok X Y (c.one.d.fact 18 (f := .free "list") rfl)
    b_range := He.free_ok X Y (c.one.d.fact 19 (f := .free "range") rfl)
    b_str := He.free_ok X Y (c.one.d.fact 20 (f := .free "str") rfl)
    b_tuple := He.free_ok X Y (c.one.d.fact 21 (f := .free "tuple") rfl)
    gx_BadBound := He.glo_ok X Y (c.one.d.fact 22 (f := .glo "BadBound") rfl)
    gx_BadDay := He.glo_ok X Y (c.one.d.fact 23 (f := .glo "BadDay") rfl)
    gx_BadDeed := He.glo_ok X Y (c.one.d.fact 24 (f := .glo "BadDeed") rfl)
    gx_BadGap := He.glo_ok X Y (c.one.d.fact 25 (f := .glo "BadGap") rfl)
    gx_BadKept := He.glo_ok X Y (c.one.d.fact 26 (f := .glo "BadKept") rfl)
    gx_BadLog := He.glo_ok X Y (c.one.d.fact 27 (f := .glo "BadLog") rfl)
    gx_BadMany := He.glo_ok X Y (c.one.d.fact 28 (f := .glo "BadMany") rfl)
    gx_BadMost := He.glo_ok X Y (c.one.d.fact 29 (f := .glo "BadMost") rfl)
    gx_BadName := He.glo_ok X Y (c.one.d.fact 30 (f := .glo "BadName") rfl)
    gx_BadPlan := He.glo_ok X Y (c.one.d.fact 31 (f := .glo "BadPlan") rfl)
    gx_BadSaying := He.glo_ok X Y (c.one.d.fact 32 (f := .glo "BadSaying") rfl)
    gx_BadStuff := He.glo_ok X Y (c.one.d.fact 33 (f := .glo "BadStuff") rfl)
    gx_BadText := He.glo_ok X Y (c.one.d.fact 34 (f := .glo "BadText") rfl)
    gx_BadWay := He.glo_ok X Y (c.one.d.fact 35 (f := .glo "BadWay") rfl)
    gx_BadWays := He.glo_ok X Y (c.one.d.fact 36 (f := .glo "BadWays") rfl)
    gx_BadWork := He.glo_ok X Y (c.one.d.fact 37 (f := .glo "BadWork") rfl)
    gx_BadYard := He.glo_ok X Y (c.one.d.fact 38 (f := .glo "BadYard") rfl)
    gx_Broken := He.glo_ok X Y (c.one.d.fact 39 (f := .glo "Broken") rfl)
    gx_Full := He.glo_ok X Y (c.one.d.fact 40 (f := .glo "Full") rfl)
    gx_Held := He.glo_ok X Y (c.one.d.fact 41 (f := .glo "Held") rfl)
    gx_NoLine := He.glo_ok X Y (c.one.d.fact 42 (f := .glo "NoLine") rfl)
    gx_NoPlan := He.glo_ok X Y (c.one.d.fact 43 (f := .glo "NoPlan") rfl)
    gx_NoStuff := He.glo_ok X Y (c.one.d.fact 44 (f := .glo "NoStuff") rfl)
    gx_NoTie := He.glo_ok X Y (c.one.d.fact 45 (f := .glo "NoTie") rfl)
    gx_NoWork := He.glo_ok X Y (c.one.d.fact 46 (f := .glo "NoWork") rfl)
    gx_NothingLeft := He.glo_ok X Y (c.one.d.fact 47 (f := .glo "NothingLeft") rfl)
    gx_Same := He.glo_ok X Y (c.one.d.fact 48 (f := .glo "Same") rfl)
    gx_Taken := He.glo_ok X Y (c.one.d.fact 49 (f := .glo "Taken") rfl)
    gx_Tied := He.glo_ok X Y (c.one.d.fact 50 (f := .glo "Tied") rfl)
    gx_YardError := He.glo_ok X Y (c.one.d.fact 51 (f := .glo "YardError") rfl)
    gx_Missing := He.glo_ok X Y (c.one.d.fact 52 (f := .glo "Missing") rfl)
    xc_BadBound := c.bool 0 rfl
    xc_BadDay := c.bool 1 rfl
    xc_BadDeed := c.bool 2 rfl
    xc_BadGap := c.bool 3 rfl
    xc_BadKept := c.bool 4 rfl
    xc_BadLog := c.bool 5 rfl
    xc_BadMany := c.bool 6 rfl
    xc_BadMost := c.bool 7 rfl
    xc_BadName := c.bool 8 rfl
    xc_BadPlan := c.bool 9 rfl
    xc_BadSaying := c.bool 10 rfl
    xc_BadStuff := c.bool 11 rfl
    xc_BadText := c.bool 12 rfl
    xc_BadWay := c.bool 13 rfl
    xc_BadWays := c.bool 14 rfl
    xc_BadWork := c.bool 15 rfl
    xc_BadYard := c.bool 16 rfl
    xc_Broken := c.bool 17 rfl
    xc_Full := c.bool 18 rfl
    xc_Held := c.bool 19 rfl
    xc_NoLine := c.bool 20 rfl
    xc_NoPlan := c.bool 21 rfl
    xc_NoStuff := c.bool 22 rfl
    xc_NoTie := c.bool 23 rfl
    xc_NoWork := c.bool 24 rfl
    xc_NothingLeft := c.bool 25 rfl
    xc_Same := c.bool 26 rfl
    xc_Taken := c.bool 27 rfl
    xc_Tied := c.bool 28 rfl
    dx_BadBound := c.one.d.def_ 10 rfl
    dx_BadDay := c.one.d.def_ 11 rfl
    dx_BadDeed := c.one.d.def_ 12 rfl
    dx_BadGap := c.one.d.def_ 13 rfl
    dx_BadKept := c.one.d.def_ 14 rfl
    dx_BadLog := c.one.d.def_ 15 rfl
    dx_BadMany := c.one.d.def_ 16 rfl
    dx_BadMost := c.one.d.def_ 17 rfl
    dx_BadName := c.one.d.def_ 18 rfl
    dx_BadPlan := c.one.d.def_ 19 rfl
    dx_BadSaying := c.one.d.def_ 20 rfl
    dx_BadStuff := c.one.d.def_ 21 rfl
    dx_BadText := c.one.d.def_ 22 rfl
    dx_BadWay := c.one.d.def_ 23 rfl
    dx_BadWays := c.one.d.def_ 24 rfl
    dx_BadWork := c.one.d.def_ 25 rfl
    dx_BadYard := c.one.d.def_ 26 rfl
    dx_Broken := c.one.d.def_ 27 rfl
    dx_Full := c.one.d.def_ 28 rfl
    dx_Held := c.one.d.def_ 29 rfl
    dx_NoLine := c.one.d.def_ 30 rfl
    dx_NoPlan := c.one.d.def_ 31 rfl
    dx_NoStuff := c.one.d.def_ 32 rfl
    dx_NoTie := c.one.d.def_ 33 rfl
    dx_NoWork := c.one.d.def_ 34 rfl
    dx_NothingLeft := c.one.d.def_ 35 rfl
    dx_Same := c.one.d.def_ 36 rfl
    dx_Taken := c.one.d.def_ 37 rfl
    dx_Tied := c.one.d.def_ 38 rfl
    em := c.bool 29 rfl
    xe := c.bool 30 rfl
    ki := c.bool 31 rfl
end Wk64
open PySem PySem.W PySem.Calls PyProof.Rows
theorem PySem.Challenge.cw_hodman_k64_refusals_apart_holds : PySem.Challenge.rw_hodman_k64_refusals_apart.Holds := by
  w_on; o_law
  refine HandSHeadRun.head_any (r := OpenLaw.row PySem.Challenge.rw_hodman_k64_refusals_apart) (q := view (OpenLaw.row PySem.Challenge.rw_hodman_k64_refusals_apart).prog [42]) (H := Wk64.hk) (ob := Wk64.ob) (M := 16000) (loose := Wk64.loose) (d := HandSHeadRun.topDef (OpenLaw.row PySem.Challenge.rw_hodman_k64_refusals_apart).prog 42) (kwd := []) Wk64.ob_eq
    (by kernel_rfl) (fun s => by kernel_rfl) Wk64.run (by kernel_rfl) (by kernel_rfl) (by kernel_rfl) (by rfl) (by first | assumption | decide +kernel) (by decide +kernel) ⟨rfl, rfl, rfl, rfl, rfl, by decide +kernel⟩ ?hw ?hc
  case hw => w_witness2
  case hc =>
    refine Hm.walkX (l := PySem.Challenge.rw_hodman_k64_refusals_apart) (n := 63) (k := 9) (x := "_law_script") rfl (by decide) (by kernel_rfl) ⟨rfl, by decide, by decide⟩ ?F
    intro w mg fa h Y G hmg0
    obtain ⟨K, KX, c⟩ := Y
    have hmg : mg ("law" : PySem.Str) = some (.ref fa) := by
      have e : (HandSHeadRun.topDef (OpenLaw.row PySem.Challenge.rw_hodman_k64_refusals_apart).prog 42).name = ("law" : PySem.Str) := by kernel_rfl
      rw [← e]
      exact hmg0
    have e := hmg.symm.trans (He.glo_ok KX G (c.one.d.fact 9 (f := .glo "law") rfl))
    cases e
    obtain ⟨fd, Fn⟩ := c.one.d.def_ 9 (d := Wk64.fn[9]) rfl
    exact ⟨K, fd, KX, fun s u => L2.FunD.bindsA (ps := ["_law_script"]) Fn (fun _ _ _ _ _ _ us hl => match us, hl with | [_], _ => rfl) s [u] rfl, Wk64.F_law, fun ns hn => Wk64.plain ns hn, fun base _ _ => Hm.fokFn (G := ⟨_, w, K, mg, base⟩) Fn Wk64.sc_law (Wk64.k_law (Wk64.facts KX G c base))⟩
