import PyProof.Rows.All
import Wide.All
import OpenK.AllK
import Wide.FinOn
import HandS.ForMost
import HandS.ForExc
import HandS.HeadHook1
import HandS.HeadHook2
import HandS.TupAny
import HandS.Flow
import HandS.More
import HandS.Deep
import HandS.Defaults
import HandS.WordsExc
import KE.KUnpackStar
import HandS.TryOnly
import HandS.Walk
import HandS.Zip
import HandS.Text
import HandS.IsInst
import HandS.RaiseMore
import HandS.FStr
import HandS.Small
import HandS.Set
import HandS.IterVal
import HandS.HeadHook3
import HandS.SortKw
import KE.GoesZip
import KE.GoesMore
import KE.GoesEnumKw
import HandS.Head0
import HandS.Head1
import HandS.Head2
import HandS.HeadEnd
import KE.KStateDown
import KE.KExcInit
import HandS.ExcInit
import HandS.ExcField
import HandS.Codes
import PySem.Challenge.RW_hodman_k57_texts_of_no_deed
set_option Elab.async false
set_option linter.all false
set_option maxRecDepth 100000
set_option maxHeartbeats 2000000
/-! Hm: plain data D over the hand layer. -/
namespace Hm
open PySem PySem.Spec L2

/-- plain data: obj is a thing of the top by its name, ref a cell of the store -/
inductive D where
  | non | bl (b : Bool) | int (i : Int) | str (s : Str) | ty (n : String) | obj (x : Str)
  | tup (ds : List D) | lst (ds : List D) | scr (ds : List D) | dct (kvs : List (Key × D)) | ref (k : Nat)

mutual
inductive Rep (K : PySem.W.Frag) (F : Hp) (R : List Addr) : D → V → Prop
  | non : Rep K F R .non .non
  | bl (b : Bool) : Rep K F R (.bl b) (.bl b)
  | int (i : Int) : Rep K F R (.int i) (.int i)
  | str (s : Str) : Rep K F R (.str s) (.str s)
  | ty (n : String) : Rep K F R (.ty n) (.ty n)
  | obj (x : Str) : Rep K F R (.obj x) (.ref (He.ga K x))
  | tup {a : Addr} {vs : List V} {ds : List D} : SqT K F a vs → Reps K F R ds vs → Rep K F R (.tup ds) (.ref a)
  | lst {a : Addr} {vs : List V} {ds : List D} : F a = some (.lst vs) → Reps K F R ds vs → Rep K F R (.lst ds) (.ref a)
  | scr {a : Addr} {vs : List V} {ds : List D} : SqL K F a vs → Reps K F R ds vs → Rep K F R (.scr ds) (.ref a)
  | dct {a : Addr} {ks : List (Key × V)} {ds : List (Key × D)} : Rd F a (.dK ks) → RepK K F R ds ks → Rep K F R (.dct ds) (.ref a)
  | ref {k : Nat} {a : Addr} : R[k]? = some a → Rep K F R (.ref k) (.ref a)
inductive Reps (K : PySem.W.Frag) (F : Hp) (R : List Addr) : List D → List V → Prop
  | nil : Reps K F R [] []
  | cons {d : D} {v : V} {ds : List D} {vs : List V} : Rep K F R d v → Reps K F R ds vs → Reps K F R (d :: ds) (v :: vs)
inductive RepK (K : PySem.W.Frag) (F : Hp) (R : List Addr) : List (Key × D) → List (Key × V) → Prop
  | nil : RepK K F R [] []
  | cons {k : Key} {d : D} {v : V} {ds : List (Key × D)} {vs : List (Key × V)} : Rep K F R d v → RepK K F R ds vs → RepK K F R ((k, d) :: ds) ((k, v) :: vs)
end

/-- the known part grows; a dict in it may be locked -/
structure Le (F : Hp) (R : List Addr) (F' : Hp) (R' : List Addr) : Prop where
  f : ∀ a o, F a = some o → F' a = some o ∨ ∃ ks ob, o = .dK ks ∧ F' a = some (.frz ob (.dK ks))
  r : ∀ (k : Nat) (a : Addr), R[k]? = some a → R'[k]? = some a
theorem Le.refl {F : Hp} {R : List Addr} : Le F R F R := ⟨fun _ _ h => .inl h, fun _ _ h => h⟩
theorem Le.trans {F F1 F2 : Hp} {R R1 R2 : List Addr} (a : Le F R F1 R1) (b : Le F1 R1 F2 R2) : Le F R F2 R2 :=
  ⟨fun x o h => by
    rcases a.f x o h with h1 | ⟨ks, ob, l, h1⟩
    · exact b.f x o h1
    · rcases b.f x _ h1 with h2 | ⟨ls, o2, m, _⟩
      · exact .inr ⟨ks, ob, l, h2⟩
      · exact HO.noConfusion m, fun k x h => b.r k x (a.r k x h)⟩
theorem Le.at_ {F F' : Hp} {R R' : List Addr} (h : Le F R F' R') {a : Addr} {o : HO} (e : F a = some o) (n : ∀ ks, o ≠ .dK ks) : F' a = some o := by
  rcases h.f a o e with q | ⟨ks, _, l, _⟩
  · exact q
  · exact (n ks l).elim
theorem Le.none_of {F F' : Hp} {R R' : List Addr} (h : Le F R F' R') {a : Addr} (e : F' a = none) : F a = none := by
  cases q : F a with
  | none => rfl
  | some o =>
    rcases h.f a o q with z | ⟨_, _, _, z⟩
    · rw [z] at e; cases e
    · rw [z] at e; cases e
theorem lk_lst {xs : List V} : ∀ ks, HO.lst xs ≠ .dK ks := fun ks h => by cases h
theorem lk_tup {xs : List V} : ∀ ks, HO.tup xs ≠ .dK ks := fun ks h => by cases h
theorem lk_frz {ob : Obj} {u : HO} : ∀ ks, HO.frz ob u ≠ .dK ks := fun ks h => by cases h
theorem rd_lst {F F' : Hp} {R R' : List Addr} (h : Le F R F' R') {a : Addr} {xs : List V} (r : Rd F a (.lst xs)) : Rd F' a (.lst xs) := by
  rcases r with r | ⟨o, r⟩
  · exact .inl (h.at_ r lk_lst)
  · exact .inr ⟨o, h.at_ r lk_frz⟩
theorem rd_tup {F F' : Hp} {R R' : List Addr} (h : Le F R F' R') {a : Addr} {xs : List V} (r : Rd F a (.tup xs)) : Rd F' a (.tup xs) := by
  rcases r with r | ⟨o, r⟩
  · exact .inl (h.at_ r lk_tup)
  · exact .inr ⟨o, h.at_ r lk_frz⟩
theorem rd_dk {F F' : Hp} {R R' : List Addr} (h : Le F R F' R') {a : Addr} {ks : List (Key × V)} (r : Rd F a (.dK ks)) : Rd F' a (.dK ks) := by
  rcases r with r | ⟨o, r⟩
  · rcases h.f a _ r with q | ⟨ls, ob, e, q⟩
    · exact .inl q
    · cases e
      exact .inr ⟨ob, q⟩
  · exact .inr ⟨o, h.at_ r lk_frz⟩
theorem sqL_mono {K : PySem.W.Frag} {F F' : Hp} {R R' : List Addr} (h : Le F R F' R') {a : Addr} {xs : List V} (r : SqL K F a xs) : SqL K F' a xs := r.imp (rd_lst h) id
theorem sqT_mono {K : PySem.W.Frag} {F F' : Hp} {R R' : List Addr} (h : Le F R F' R') {a : Addr} {xs : List V} (r : SqT K F a xs) : SqT K F' a xs := r.imp (rd_tup h) id
theorem rd_same {F H : Hp} (h : ∀ a o, F a = some o → H a = some o) {a : Addr} {u : HO} (r : Rd F a u) : Rd H a u := by
  rcases r with r | ⟨o, r⟩
  · exact .inl (h _ _ r)
  · exact .inr ⟨o, h _ _ r⟩
theorem sqL_same {K : PySem.W.Frag} {F H : Hp} (h : ∀ a o, F a = some o → H a = some o) {a : Addr} {xs : List V} (r : SqL K F a xs) : SqL K H a xs := r.imp (rd_same h) id
theorem sqT_same {K : PySem.W.Frag} {F H : Hp} (h : ∀ a o, F a = some o → H a = some o) {a : Addr} {xs : List V} (r : SqT K F a xs) : SqT K H a xs := r.imp (rd_same h) id

section
variable {K : PySem.W.Frag} {F F' : Hp} {R R' : List Addr}
mutual
theorem Rep.mono (h : Le F R F' R') : ∀ (d : D) (v : V), Rep K F R d v → Rep K F' R' d v
  | .non, _, r => by cases r; exact .non
  | .bl b, _, r => by cases r; exact .bl b
  | .int i, _, r => by cases r; exact .int i
  | .str s, _, r => by cases r; exact .str s
  | .ty s, _, r => by cases r; exact .ty s
  | .obj s, _, r => by cases r; exact .obj s
  | .tup ds, _, r => by cases r with | tup h1 h2 => exact .tup (sqT_mono h h1) (Reps.mono h ds _ h2)
  | .lst ds, _, r => by cases r with | lst h1 h2 => exact .lst (h.at_ h1 lk_lst) (Reps.mono h ds _ h2)
  | .scr ds, _, r => by cases r with | scr h1 h2 => exact .scr (sqL_mono h h1) (Reps.mono h ds _ h2)
  | .dct ds, _, r => by cases r with | dct h1 h2 => exact .dct (rd_dk h h1) (RepK.mono h ds _ h2)
  | .ref k, _, r => by cases r with | ref h1 => exact .ref (h.r _ _ h1)
theorem Reps.mono (h : Le F R F' R') : ∀ (ds : List D) (vs : List V), Reps K F R ds vs → Reps K F' R' ds vs
  | [], _, r => by cases r; exact .nil
  | d :: ds, _, r => by cases r with | cons h1 h2 => exact .cons (Rep.mono h d _ h1) (Reps.mono h ds _ h2)
theorem RepK.mono (h : Le F R F' R') : ∀ (ds : List (Key × D)) (vs : List (Key × V)), RepK K F R ds vs → RepK K F' R' ds vs
  | [], _, r => by cases r; exact .nil
  | (k, d) :: ds, _, r => by cases r with | cons h1 h2 => exact .cons (Rep.mono h d _ h1) (RepK.mono h ds _ h2)
end
theorem Reps.length : ∀ {ds : List D} {vs : List V}, Reps K F R ds vs → ds.length = vs.length
  | _, _, .nil => rfl
  | _, _, .cons _ t => congrArg (· + 1) (Reps.length t)
theorem Reps.get : ∀ {ds : List D} {vs : List V} {i : Nat} {v : V}, Reps K F R ds vs → vs[i]? = some v → ∃ d, ds[i]? = some d ∧ Rep K F R d v
  | _, _, _, _, .nil, e => by simp at e
  | _, _, 0, _, .cons r _, e => by simp at e; subst e; exact ⟨_, rfl, r⟩
  | _, _, i + 1, _, .cons _ t, e => by
    obtain ⟨d, h1, h2⟩ := Reps.get (i := i) t (by simpa using e)
    exact ⟨d, by simpa using h1, h2⟩
theorem Reps.getD : ∀ {ds : List D} {vs : List V} {i : Nat} {d : D}, Reps K F R ds vs → ds[i]? = some d → ∃ v, vs[i]? = some v ∧ Rep K F R d v
  | _, _, _, _, .nil, e => by simp at e
  | _, _, 0, _, .cons r _, e => by simp at e; subst e; exact ⟨_, rfl, r⟩
  | _, _, i + 1, _, .cons _ t, e => by
    obtain ⟨d, h1, h2⟩ := Reps.getD (i := i) t (by simpa using e)
    exact ⟨d, by simpa using h1, h2⟩
theorem Reps.append : ∀ {ds es : List D} {vs us : List V}, Reps K F R ds vs → Reps K F R es us → Reps K F R (ds ++ es) (vs ++ us)
  | _, _, _, _, .nil, h => h
  | _, _, _, _, .cons r t, h => .cons r (Reps.append t h)
theorem Reps.take : ∀ {ds : List D} {vs : List V} (n : Nat), Reps K F R ds vs → Reps K F R (ds.take n) (vs.take n)
  | _, _, 0, _ => by simp; exact .nil
  | _, _, _ + 1, .nil => .nil
  | _, _, n + 1, .cons r t => .cons r (Reps.take n t)
theorem Reps.drop : ∀ {ds : List D} {vs : List V} (n : Nat), Reps K F R ds vs → Reps K F R (ds.drop n) (vs.drop n)
  | _, _, 0, h => h
  | _, _, _ + 1, .nil => .nil
  | _, _, n + 1, .cons _ t => Reps.drop n t
theorem Reps.dropLast {ds : List D} {vs : List V} (h : Reps K F R ds vs) : Reps K F R ds.dropLast vs.dropLast := by
  rw [List.dropLast_eq_take, List.dropLast_eq_take, ← h.length]
  exact h.take _
theorem Reps.set : ∀ {ds : List D} {vs : List V} {d : D} {v : V} (i : Nat), Reps K F R ds vs → Rep K F R d v → Reps K F R (ds.set i d) (vs.set i v)
  | _, _, _, _, _, .nil, _ => .nil
  | _, _, _, _, 0, .cons _ t, r => .cons r t
  | _, _, _, _, i + 1, .cons q t, r => .cons q (Reps.set i t r)
theorem Reps.reverse : ∀ {ds : List D} {vs : List V}, Reps K F R ds vs → Reps K F R ds.reverse vs.reverse
  | _, _, .nil => .nil
  | _, _, .cons r t => by
    rw [List.reverse_cons, List.reverse_cons]
    exact (Reps.reverse t).append (.cons r .nil)
theorem Reps.eraseIdx : ∀ {ds : List D} {vs : List V} (i : Nat), Reps K F R ds vs → Reps K F R (ds.eraseIdx i) (vs.eraseIdx i)
  | _, _, _, .nil => .nil
  | _, _, 0, .cons _ t => t
  | _, _, i + 1, .cons q t => .cons q (Reps.eraseIdx i t)
theorem RepK.length : ∀ {ds : List (Key × D)} {vs : List (Key × V)}, RepK K F R ds vs → ds.length = vs.length
  | _, _, .nil => rfl
  | _, _, .cons _ t => congrArg (· + 1) (RepK.length t)
end

/-- fields of an instance, of an exception -/
inductive RepF (K : PySem.W.Frag) (F : Hp) (R : List Addr) : List (Str × D) → List (Str × V) → Prop
  | nil : RepF K F R [] []
  | cons {k : Str} {d : D} {v : V} {ds : List (Str × D)} {vs : List (Str × V)} : Rep K F R d v → RepF K F R ds vs → RepF K F R ((k, d) :: ds) ((k, v) :: vs)
theorem RepF.mono {K : PySem.W.Frag} {F F' : Hp} {R R' : List Addr} (h : Le F R F' R') : ∀ {ds : List (Str × D)} {vs : List (Str × V)}, RepF K F R ds vs → RepF K F' R' ds vs
  | _, _, .nil => .nil
  | _, _, .cons r t => .cons (r.mono h _ _) (RepF.mono h t)

/-- a value that was just made (own) or stands -/
inductive DV where
  | val (d : D) | ol (ds : List D) | od (kvs : List (Key × D))
def DV.frz : DV → D
  | .val d => d
  | .ol ds => .lst ds
  | .od kvs => .dct kvs
inductive Cell where
  | lst (ds : List D) | dct (kvs : List (Key × D)) | ins (c : Str) (fs : List (Str × D))
abbrev Store := List Cell
abbrev Ev := List (Option DV)

def CellAt (K : PySem.W.Frag) (F : Hp) (R : List Addr) (H : Hp) (a : Addr) : Cell → Prop
  | .lst ds => ∃ vs, H a = some (.lst vs) ∧ Reps K F R ds vs
  | .dct kvs => ∃ ks, H a = some (.dK ks) ∧ RepK K F R kvs ks
  | .ins c fs => ∃ dx vfs, H a = some (.ins (He.ga K c) dx vfs) ∧ RepF K F R fs vfs
theorem CellAt.mono {K : PySem.W.Frag} {F F' : Hp} {R R' : List Addr} {H H' : Hp} {a : Addr} (h : Le F R F' R') (e : H' a = H a) : ∀ {c : Cell}, CellAt K F R H a c → CellAt K F' R' H' a c
  | .lst ds, ⟨vs, h1, h2⟩ => ⟨vs, e.trans h1, h2.mono h _ _⟩
  | .dct kvs, ⟨ks, h1, h2⟩ => ⟨ks, e.trans h1, h2.mono h _ _⟩
  | .ins c fs, ⟨dx, vfs, h1, h2⟩ => ⟨dx, vfs, e.trans h1, h2.mono h⟩
theorem CellAt.there {K : PySem.W.Frag} {F : Hp} {R : List Addr} {H : Hp} {a : Addr} : ∀ {c : Cell}, CellAt K F R H a c → ∃ o, H a = some o
  | .lst _, ⟨_, h, _⟩ => ⟨_, h⟩
  | .dct _, ⟨_, h, _⟩ => ⟨_, h⟩
  | .ins _ _, ⟨_, _, h, _⟩ => ⟨_, h⟩
/-- an own thing at a -/
def OwnAt (K : PySem.W.Frag) (F : Hp) (R : List Addr) (H : Hp) (a : Addr) : DV → Prop
  | .val _ => False
  | .ol ds => ∃ vs, H a = some (.lst vs) ∧ Reps K F R ds vs
  | .od kvs => ∃ ks, H a = some (.dK ks) ∧ RepK K F R kvs ks
theorem OwnAt.mono {K : PySem.W.Frag} {F F' : Hp} {R R' : List Addr} {H H' : Hp} {a : Addr} (h : Le F R F' R') (e : H' a = H a) : ∀ {c : DV}, OwnAt K F R H a c → OwnAt K F' R' H' a c
  | .val _, z => z
  | .ol ds, ⟨vs, h1, h2⟩ => ⟨vs, e.trans h1, h2.mono h _ _⟩
  | .od kvs, ⟨ks, h1, h2⟩ => ⟨ks, e.trans h1, h2.mono h _ _⟩
def DV.isOwn : DV → Bool
  | .val _ => false
  | _ => true
/-- the entry: its heap, what stood for ever, the cells -/
structure Ent where
  H : Hp
  F : Hp
  R : List Addr
/-- what a slot holds -/
def SlotAt (K : PySem.W.Frag) (En : Ent) (F : Hp) (R : List Addr) (H : Hp) (x : Option (Option V)) (dv : DV) : Prop := match dv with
  | .val d => ∃ v, x = some (some v) ∧ Rep K F R d v
  | dv => ∃ a, x = some (some (.ref a)) ∧ OwnAt K F R H a dv ∧ F a = none ∧ a ∉ R ∧ En.H a = none

/-- the address of an own slot -/
def OwnSlot (E : Ev) (σ : L2.St) (a : Addr) : Prop := ∃ (i : Nat) (dv : DV), E[i]? = some (some dv) ∧ dv.isOwn = true ∧ σ[i]? = some (some (.ref a))

/-- the state as plain data: En the entry, F what stands for ever, R where the cells are, E the slots, S the store -/
structure Rel (K : PySem.W.Frag) (En : Ent) (F : Hp) (R : List Addr) (E : Ev) (S : Store) (σ : L2.St) (H : Hp) : Prop where
  len : R.length = S.length
  frz : ∀ a o, F a = some o → H a = some o
  nodup : R.Nodup
  cell : ∀ (k : Nat) (c : Cell) (a : Addr), S[k]? = some c → R[k]? = some a → CellAt K F R H a c ∧ F a = none
  slot : ∀ (i : Nat) (dv : DV), E[i]? = some (some dv) → SlotAt K En F R H (σ[i]?) dv
  apart : ∀ (i j : Nat) (x y : DV) (a : Addr), E[i]? = some (some x) → E[j]? = some (some y) → x.isOwn = true → y.isOwn = true → σ[i]? = some (some (.ref a)) → σ[j]? = some (some (.ref a)) → i = j
  keep : ∀ a o, En.H a = some o → a ∉ R → F a = none → H a = some o
  nf : ∀ a o, En.H a = some o → En.F a = none → F a = none
  nr : ∀ a o, En.H a = some o → a ∈ R → a ∈ En.R
  elen : E.length = σ.length

/-- results -/
inductive Res (α : Type) where
  | ok (a : α) (S : Store) | ex (c : Str) (fs : List (Str × D)) (S : Store) | bad
abbrev M (α : Type) := Ev → Store → Res α

/-- a value that came of an expression -/
def Val (K : PySem.W.Frag) (En : Ent) (F : Hp) (R : List Addr) (E : Ev) (σ : L2.St) (H : Hp) (v : V) (dv : DV) : Prop := match dv with
  | .val d => Rep K F R d v
  | dv => ∃ a, v = .ref a ∧ OwnAt K F R H a dv ∧ F a = none ∧ a ∉ R ∧ En.H a = none ∧ ¬ OwnSlot E σ a

/-- the wish of an exception -/
def ExW (K : PySem.W.Frag) (En : Ent) (F : Hp) (R : List Addr) (E : Ev) (σ : L2.St) (W : WX) (c : Str) (fs : List (Str × D)) (S : Store) : Prop :=
  ∀ (F' : Hp) (R' : List Addr) (H' : Hp) (d : Addr) (vfs : List (Str × V)), Le F R F' R' → Rel K En F' R' E S σ H' → H' d = some (.xd vfs) → RepF K F' R' fs vfs → W (.ref (He.ga K c)) (some d) σ H'

/-- what must hold so that an expression's end is reached -/
def PostX (K : PySem.W.Frag) (En : Ent) (F : Hp) (R : List Addr) (E : Ev) (σ : L2.St) (W : WX) {α : Type} (ok : Hp → List Addr → Hp → α → Store → Prop) : Res α → Prop
  | .ok x S => ∀ (F' : Hp) (R' : List Addr) (H' : Hp), Le F R F' R' → Rel K En F' R' E S σ H' → ok F' R' H' x S
  | .ex c fs S => ExW K En F R E σ W c fs S
  | .bad => False
abbrev Post (K : PySem.W.Frag) (En : Ent) (F : Hp) (R : List Addr) (E : Ev) (σ : L2.St) (W : WX) (Q : VK) (r : Res DV) : Prop :=
  PostX K En F R E σ W (fun F' R' H' dv _ => ∀ v, Val K En F' R' E σ H' v dv → Q v H') r
def tD (K : PySem.W.Frag) (m : M DV) (W : WX) : TE := fun σ H Q => ∃ (En : Ent) (F : Hp) (R : List Addr) (E : Ev) (S : Store), Rel K En F R E S σ H ∧ Post K En F R E σ W Q (m E S)
/-- a test -/
def tT (K : PySem.W.Frag) (m : M Bool) (W : WX) : TT := fun σ H Q => ∃ (En : Ent) (F : Hp) (R : List Addr) (E : Ev) (S : Store), Rel K En F R E S σ H ∧ PostX K En F R E σ W (fun _ _ H' b _ => Q b H') (m E S)
/-- an argument list -/
def tA (K : PySem.W.Frag) (m : M (List D)) (W : WX) : TA := fun σ H Q => ∃ (En : Ent) (F : Hp) (R : List Addr) (E : Ev) (S : Store), Rel K En F R E S σ H ∧ PostX K En F R E σ W (fun F' R' H' ds _ => ∀ vs, Reps K F' R' ds vs → Q vs H') (m E S)

/-- the program, the world, the written part, the module's names, the base -/
structure Gs where
  P : Program
  w : World
  K : PySem.W.Frag
  mg : Str → Option Value
  base : Heap
/-- where an expression stands: in a def's body (or a comprehension's block) at level k, with the names N and the scope sc -/
structure CtxE (G : Gs) (k : Nat) (N : List Str) (sc : Scope) (X : Cx) : Prop where
  cP : X.prog = G.P
  cw : X.w = G.w
  cK : X.K = G.K
  cmg : X.mg = G.mg
  cbase : X.base = G.base
  cN : X.N = N
  csc : X.env.scope = sc
  cnd : N.Nodup
  ccalm : X.calm = true
  croom : Room k X.A

structure DE (G : Gs) (k : Nat) (N : List Str) (sc : Scope) (e : Expr) (m : M DV) : Prop where
  run : ∀ (X : Cx) (W : WX), CtxE G k N sc X → Takes X W → PE X e (tD G.K m W)
structure DT (G : Gs) (k : Nat) (N : List Str) (sc : Scope) (e : Expr) (m : M Bool) : Prop where
  run : ∀ (X : Cx) (W : WX), CtxE G k N sc X → Takes X W → PT X e (tT G.K m W)
structure DA (G : Gs) (k : Nat) (N : List Str) (sc : Scope) (es : List Expr) (m : M (List D)) : Prop where
  run : ∀ (X : Cx) (W : WX), CtxE G k N sc X → Takes X W → PA X es (tA G.K m W)

theorem pe_imp {X : Cx} {e : Expr} {t t' : TE} (h : PE X e t) (k : ∀ σ H Q, t' σ H Q → t σ H Q) : PE X e t' :=
  ⟨fun pins s σ H Q I q => h.run pins s σ H Q I (k σ H Q q)⟩
theorem pt_imp {X : Cx} {e : Expr} {t t' : TT} (h : PT X e t) (k : ∀ σ H Q, t' σ H Q → t σ H Q) : PT X e t' :=
  ⟨fun pins s σ H Q I q => h.run pins s σ H Q I (k σ H Q q)⟩
theorem pw_imp {X : Cx} {e : Expr} {t t' : TT} (h : PW X e t) (k : ∀ σ H Q, t' σ H Q → t σ H Q) : PW X e t' :=
  ⟨fun wh pins s σ H Q I q => h.run wh pins s σ H Q I (k σ H Q q)⟩
theorem pa_imp {X : Cx} {e : List Expr} {t t' : TA} (h : PA X e t) (k : ∀ σ H Q, t' σ H Q → t σ H Q) : PA X e t' :=
  ⟨fun pos pins s σ H Q I q => h.run pos pins s σ H Q I (k σ H Q q)⟩
theorem ps_imp {X : Cx} {e : Stmt} {t t' : TS} (h : PS X e t) (k : ∀ D σ H, t' D σ H → t D σ H) : PS X e t' :=
  ⟨fun pins s σ H D I q => h.run pins s σ H D I (k D σ H q)⟩
theorem pss_imp {X : Cx} {e : List Stmt} {t t' : TS} (h : PSs X e t) (k : ∀ D σ H, t' D σ H → t D σ H) : PSs X e t' :=
  ⟨fun pins s σ H D I q => h.run pins s σ H D I (k D σ H q)⟩

/-! ### the state's lemmas -/
section
variable {K : PySem.W.Frag} {En : Ent} {F F' : Hp} {R R' : List Addr} {E : Ev} {S S' : Store} {σ : L2.St} {H H' : Hp} {W : WX}
theorem Rel.cellOf (r : Rel K En F R E S σ H) {a : Addr} (h : a ∈ R) : ∃ (k : Nat) (c : Cell), R[k]? = some a ∧ S[k]? = some c ∧ CellAt K F R H a c ∧ F a = none := by
  obtain ⟨k, hk⟩ := List.mem_iff_getElem?.mp h
  have hl : k < R.length := (List.getElem?_eq_some_iff.mp hk).1
  have hs : k < S.length := by rw [← r.len]; exact hl
  have e : S[k]? = some S[k] := List.getElem?_eq_getElem hs
  exact ⟨k, S[k], hk, e, r.cell k _ a e hk⟩
theorem Rel.fresh (r : Rel K En F R E S σ H) {p : Addr} (h : H p = none) : F p = none ∧ p ∉ R ∧ En.H p = none ∧ ¬ OwnSlot E σ p := by
  have h1 : F p = none := by
    cases e : F p with
    | none => rfl
    | some o => rw [r.frz p o e] at h; cases h
  have h2 : p ∉ R := fun m => by
    obtain ⟨_, _, _, _, q, _⟩ := r.cellOf m
    obtain ⟨o, ho⟩ := q.there
    rw [ho] at h; cases h
  refine ⟨h1, h2, ?_, ?_⟩
  · cases e : En.H p with
    | none => rfl
    | some o => rw [r.keep p o e h2 h1] at h; cases h
  · rintro ⟨i, dv, e1, e2, e3⟩
    have q := r.slot i dv e1
    cases dv with
    | val d => cases e2
    | ol ds =>
      obtain ⟨a, ea, ⟨vs, ho, _⟩, _⟩ := q
      rw [e3] at ea
      cases ea
      rw [ho] at h; cases h
    | od ds =>
      obtain ⟨a, ea, ⟨vs, ho, _⟩, _⟩ := q
      rw [e3] at ea
      cases ea
      rw [ho] at h; cases h
theorem SlotAt.mono {H2 : Hp} {x : Option (Option V)} {dv : DV} (h : Le F R F' R') (q : SlotAt K En F R H x dv) (k : ∀ a, x = some (some (.ref a)) → dv.isOwn = true → F a = none → a ∉ R → En.H a = none → H2 a = H a ∧ F' a = none ∧ a ∉ R') : SlotAt K En F' R' H2 x dv := by
  cases dv with
  | val d =>
    obtain ⟨v, e, r⟩ := q
    exact ⟨v, e, r.mono h _ _⟩
  | ol ds =>
    obtain ⟨a, e, o, f1, f2, f3⟩ := q
    obtain ⟨k1, k2, k3⟩ := k a e rfl f1 f2 f3
    exact ⟨a, e, o.mono h k1, k2, k3, f3⟩
  | od ds =>
    obtain ⟨a, e, o, f1, f2, f3⟩ := q
    obtain ⟨k1, k2, k3⟩ := k a e rfl f1 f2 f3
    exact ⟨a, e, o.mono h k1, k2, k3, f3⟩
theorem ExW.mono {c : Str} {fs : List (Str × D)} (h : Le F R F' R') (x : ExW K En F R E σ W c fs S) : ExW K En F' R' E σ W c fs S :=
  fun F2 R2 H2 d vfs l rel hd rf => x F2 R2 H2 d vfs (h.trans l) rel hd rf
theorem PostX.mono {α : Type} {ok : Hp → List Addr → Hp → α → Store → Prop} (h : Le F R F' R') : ∀ {r : Res α}, PostX K En F R E σ W ok r → PostX K En F' R' E σ W ok r
  | .ok _ _, q => fun F2 R2 H2 l rel => q F2 R2 H2 (h.trans l) rel
  | .ex _ _ _, q => ExW.mono h q
  | .bad, q => q
/-- a new thing is laid -/
theorem Rel.laid (r : Rel K En F R E S σ H) {p : Addr} {o : HO} (hp : H p = none) : Rel K En F R E S σ (upd H p o) := by
  obtain ⟨h1, h2, h3, h4⟩ := r.fresh hp
  have ne : ∀ {a : Addr} {u : HO}, H a = some u → a ≠ p := fun {a u} e z => by rw [z, hp] at e; cases e
  refine ⟨r.len, fun a u e => ?_, r.nodup, fun k c a e1 e2 => ?_, fun i dv e => ?_, r.apart, fun a u e n f => ?_, r.nf, r.nr, r.elen⟩
  · rw [upd_ne (ne (r.frz a u e))]; exact r.frz a u e
  · obtain ⟨q, f⟩ := r.cell k c a e1 e2
    obtain ⟨u, hu⟩ := q.there
    exact ⟨q.mono Le.refl (upd_ne (ne hu)), f⟩
  · refine (r.slot i dv e).mono Le.refl fun a ea ow f1 f2 f3 => ⟨upd_ne fun z => h4 ⟨i, dv, e, ow, by rw [ea, z]⟩, f1, f2⟩
  · rw [upd_ne (ne (r.keep a u e n f))]; exact r.keep a u e n f
/-- what stands and is nobody's is known for ever -/
theorem Rel.freeze (r : Rel K En F R E S σ H) {p : Addr} {o : HO} (hp : H p = some o) (hF : F p = none) (hR : p ∉ R) (hE : En.H p = none) (hS : ¬ OwnSlot E σ p) : Le F R (upd F p o) R ∧ Rel K En (upd F p o) R E S σ H := by
  have le : Le F R (upd F p o) R := ⟨fun a u e => by
    rw [upd_ne (fun z => by rw [z, hF] at e; cases e)]; exact .inl e, fun _ _ e => e⟩
  refine ⟨le, r.len, fun a u e => ?_, r.nodup, fun k c a e1 e2 => ?_, fun i dv e => ?_, r.apart, fun a u e n f => r.keep a u e n (le.none_of f), fun a u e f => ?_, r.nr, r.elen⟩
  · by_cases z : a = p
    · subst z; rw [upd_same] at e; cases e; exact hp
    · rw [upd_ne z] at e; exact r.frz a u e
  · obtain ⟨q, f⟩ := r.cell k c a e1 e2
    refine ⟨q.mono le rfl, ?_⟩
    rw [upd_ne (fun z => hR (by rw [← z]; exact List.mem_of_getElem? e2))]; exact f
  · refine (r.slot i dv e).mono le fun a ea ow f1 f2 f3 => ⟨rfl, ?_, f2⟩
    rw [upd_ne (fun z => hS ⟨i, dv, e, ow, by rw [ea, z]⟩)]; exact f1
  · rw [upd_ne (fun z => by rw [z, hE] at e; cases e)]; exact r.nf a u e f
/-- a dict that stands for ever is locked -/
theorem Rel.lock (r : Rel K En F R E S σ H) {d : Addr} {ks : List (Key × V)} {od : Obj} (hF : F d = some (.dK ks)) : Le F R (upd F d (.frz od (.dK ks))) R ∧ Rel K En (upd F d (.frz od (.dK ks))) R E S σ (upd H d (.frz od (.dK ks))) := by
  have le : Le F R (upd F d (.frz od (.dK ks))) R := ⟨fun a u e => by
    by_cases z : a = d
    · subst z
      rw [hF] at e; cases e
      exact .inr ⟨ks, od, rfl, upd_same⟩
    · rw [upd_ne z]; exact .inl e, fun _ _ e => e⟩
  refine ⟨le, r.len, fun a u e => ?_, r.nodup, fun k c a e1 e2 => ?_, fun i dv e => ?_, r.apart, fun a u e n f => ?_, fun a u e f => ?_, r.nr, r.elen⟩
  · by_cases z : a = d
    · subst z; rw [upd_same] at e ⊢; exact e
    · rw [upd_ne z] at e ⊢; exact r.frz a u e
  · obtain ⟨q, f⟩ := r.cell k c a e1 e2
    have z : a ≠ d := fun z => by rw [z, hF] at f; cases f
    exact ⟨q.mono le (upd_ne z), by rw [upd_ne z]; exact f⟩
  · refine (r.slot i dv e).mono le fun a ea ow f1 f2 f3 => ?_
    have z : a ≠ d := fun z => by rw [z, hF] at f1; cases f1
    exact ⟨upd_ne z, by rw [upd_ne z]; exact f1, f2⟩
  · have z : a ≠ d := fun z => by rw [z, upd_same] at f; cases f
    rw [upd_ne z] at f ⊢
    exact r.keep a u e n f
  · have g := r.nf a u e f
    have z : a ≠ d := fun z => by rw [z, hF] at g; cases g
    rw [upd_ne z]; exact g
/-- a value is known for ever -/
theorem Val.freeze (r : Rel K En F R E S σ H) {v : V} {dv : DV} (q : Val K En F R E σ H v dv) : ∃ F', Le F R F' R ∧ Rel K En F' R E S σ H ∧ Rep K F' R dv.frz v := by
  cases dv with
  | val d => exact ⟨F, Le.refl, r, q⟩
  | ol ds =>
    obtain ⟨a, rfl, ⟨vs, ho, rs⟩, f1, f2, f3, f4⟩ := q
    obtain ⟨le, r'⟩ := r.freeze ho f1 f2 f3 f4
    exact ⟨_, le, r', .lst upd_same (rs.mono le _ _)⟩
  | od ds =>
    obtain ⟨a, rfl, ⟨vs, ho, rs⟩, f1, f2, f3, f4⟩ := q
    obtain ⟨le, r'⟩ := r.freeze ho f1 f2 f3 f4
    exact ⟨_, le, r', .dct (.inl upd_same) (rs.mono le _ _)⟩
end
end Hm
set_option Elab.async false
set_option linter.all false
set_option maxRecDepth 100000
set_option maxHeartbeats 2000000
namespace Hm
open PySem PySem.Spec L2

/-! ### sequencing -/
def bnd {α β : Type} (m : M α) (f : α → M β) : M β := fun E S => match m E S with
  | .ok a S1 => f a E S1
  | .ex c fs S1 => .ex c fs S1
  | .bad => .bad
/-- a result that the store decides -/
abbrev F1 := D → Store → Res DV
abbrev F2 := D → D → Store → Res DV
def mUn (f : F1) (a : M DV) : M DV := bnd a fun x _ S => f x.frz S
def mBin (f : F2) (a b : M DV) : M DV := bnd a fun x => bnd b fun y _ S => f x.frz y.frz S
def fine (d : D) (S : Store) : Res DV := .ok (.val d) S

section
variable {K : PySem.W.Frag} {En : Ent} {F F' : Hp} {R R' : List Addr} {E : Ev} {S S' : Store} {σ : L2.St} {H H' : Hp} {W : WX}
theorem post_bnd {α β : Type} {m : M α} {f : α → M β} {ok : Hp → List Addr → Hp → β → Store → Prop} (h : PostX K En F R E σ W ok (bnd m f E S)) :
    PostX K En F R E σ W (fun F1 R1 _ a S1 => PostX K En F1 R1 E σ W ok (f a E S1)) (m E S) := by
  unfold bnd at h
  cases e : m E S with
  | ok a S1 =>
    rw [e] at h
    exact fun F1 R1 H1 le _ => PostX.mono le h
  | ex c fs S1 => rw [e] at h; exact h
  | bad => rw [e] at h; exact h
theorem PostX.imp {α : Type} {ok ok' : Hp → List Addr → Hp → α → Store → Prop} : ∀ {r : Res α}, PostX K En F R E σ W ok r → (∀ F' R' H' a S', Le F R F' R' → Rel K En F' R' E S' σ H' → ok F' R' H' a S' → ok' F' R' H' a S') → PostX K En F R E σ W ok' r
  | .ok a S, h, k => fun F1 R1 H1 le rel => k F1 R1 H1 a S le rel (h F1 R1 H1 le rel)
  | .ex _ _ _, h, _ => h
  | .bad, h, _ => h
/-- one value, then what follows, with the value known for ever -/
theorem tD_then {α : Type} {m : M DV} {f : DV → M α} {ok : Hp → List Addr → Hp → α → Store → Prop} {k : V → Hp → Prop} (rel : Rel K En F R E S σ H) (h : PostX K En F R E σ W ok (bnd m f E S))
    (hk : ∀ F1 R1 H1 dv v S1, Le F R F1 R1 → Rel K En F1 R1 E S1 σ H1 → Rep K F1 R1 dv.frz v → PostX K En F1 R1 E σ W ok (f dv E S1) → k v H1) : tD K m W σ H k := by
  refine ⟨En, F, R, E, S, rel, (post_bnd h).imp fun F1 R1 H1 dv S1 le rel1 q v hv => ?_⟩
  obtain ⟨F2, le2, rel2, rp⟩ := hv.freeze rel1
  exact hk F2 R1 H1 dv v S1 (le.trans le2) rel2 rp (q.mono le2)
theorem Post.got {d : D} {Q : VK} (h : Post K En F R E σ W Q (fine d S)) (rel : Rel K En F R E S σ H) {v : V} (r : Rep K F R d v) : Q v H := h F R H Le.refl rel v r
/-- a new list (a dict) that is one's own -/
theorem Post.ol {ds : List D} {Q : VK} (h : Post K En F R E σ W Q (.ok (.ol ds) S)) (rel : Rel K En F R E S σ H) {vs : List V} (r : Reps K F R ds vs) {p : Addr} (hp : H p = none) : Q (.ref p) (upd H p (.lst vs)) := by
  obtain ⟨h1, h2, h3, h4⟩ := rel.fresh hp
  exact h F R _ Le.refl (rel.laid hp) _ ⟨p, rfl, ⟨vs, upd_same, r⟩, h1, h2, h3, h4⟩
theorem Post.od {ds : List (Key × D)} {Q : VK} (h : Post K En F R E σ W Q (.ok (.od ds) S)) (rel : Rel K En F R E S σ H) {vs : List (Key × V)} (r : RepK K F R ds vs) {p : Addr} (hp : H p = none) : Q (.ref p) (upd H p (.dK vs)) := by
  obtain ⟨h1, h2, h3, h4⟩ := rel.fresh hp
  exact h F R _ Le.refl (rel.laid hp) _ ⟨p, rfl, ⟨vs, upd_same, r⟩, h1, h2, h3, h4⟩
/-- a new thing that stands for ever -/
theorem Post.new {d : D} {Q : VK} (h : Post K En F R E σ W Q (fine d S)) (rel : Rel K En F R E S σ H) {p : Addr} {o : HO} (hp : H p = none) (r : Rep K (upd F p o) R d (.ref p)) : Q (.ref p) (upd H p o) := by
  obtain ⟨h1, h2, h3, h4⟩ := rel.fresh hp
  obtain ⟨le, rel2⟩ := (rel.laid (o := o) hp).freeze upd_same h1 h2 h3 h4
  exact h _ R _ le rel2 _ r
/-- a new tuple -/
theorem Post.tup {ds : List D} {Q : VK} (h : Post K En F R E σ W Q (fine (.tup ds) S)) (rel : Rel K En F R E S σ H) {vs : List V} (r : Reps K F R ds vs) {p : Addr} (hp : H p = none) : Q (.ref p) (upd H p (.tup vs)) := by
  obtain ⟨h1, h2, h3, h4⟩ := rel.fresh hp
  obtain ⟨le, _⟩ := (rel.laid (o := .tup vs) hp).freeze upd_same h1 h2 h3 h4
  exact h.new rel hp (.tup (.of upd_same) (r.mono le _ _))
end

/-! ### operations by values -/
/-- the reading r is met where f says how it goes -/
def Snd1 (K : PySem.W.Frag) (f : F1) (r : V → Hp → VK → Prop) : Prop :=
  ∀ (En : Ent) (F : Hp) (R : List Addr) (E : Ev) (S : Store) (σ : L2.St) (H : Hp) (W : WX) (Q : VK) (d : D) (x : V), Rel K En F R E S σ H → Rep K F R d x → Post K En F R E σ W Q (f d S) → r x H Q
def Snd2 (K : PySem.W.Frag) (f : F2) (r : R2) : Prop :=
  ∀ (En : Ent) (F : Hp) (R : List Addr) (E : Ev) (S : Store) (σ : L2.St) (H : Hp) (W : WX) (Q : VK) (d e : D) (x y : V), Rel K En F R E S σ H → Rep K F R d x → Rep K F R e y → Post K En F R E σ W Q (f d e S) → r x y H Q

section
variable {G : Gs} {k : Nat} {N : List Str} {sc : Scope} {a b c : Expr} {ma mb mc : M DV} {pos : Pos}
theorem two_of {K : PySem.W.Frag} {f : F2} {r : R2} {W : WX} {σ : L2.St} {H : Hp} {Q : VK} (hs : Snd2 K f r) (h : tD K (mBin f ma mb) W σ H Q) : tOp r (tD K ma W) (tD K mb W) σ H Q := by
  obtain ⟨En, F, R, E, S, rel, h⟩ := h
  refine tD_then rel h fun F1 R1 H1 dv v S1 le rel1 rp h1 => ?_
  refine tD_then rel1 h1 fun F2 R2 H2 dw w S2 le2 rel2 rq h2 => ?_
  exact hs En F2 R2 E S2 σ H2 W Q _ _ v w rel2 (rp.mono le2 _ _) rq h2
theorem de_bin {op : Operator} {f : F2} {r : R2} (hs : Snd2 G.K f r) (ho : ∀ X, CtxE G k N sc X → OpR X (binaryOp op) r) (ha : DE G k N sc a ma) (hb : DE G k N sc b mb) : DE G k N sc (.BinOp a op b pos) (mBin f ma mb) :=
  ⟨fun X W c tk => pe_imp (pe_op (ho X c) (ha.run X W c tk) (hb.run X W c tk)) fun σ H Q h => two_of hs h⟩
theorem de_cmp {op : CmpOp} {f : F2} {r : R2} (hs : Snd2 G.K f r) (ho : ∀ X, CtxE G k N sc X → OpR X (compareOp op) r) (ha : DE G k N sc a ma) (hb : DE G k N sc b mb) (hm : behindInMarks op b = false) : DE G k N sc (.Compare a [op] [b] pos) (mBin f ma mb) :=
  ⟨fun X W c tk => pe_imp (pe_cmpR (ho X c) (ha.run X W c tk) (hb.run X W c tk) hm) fun σ H Q h => two_of hs h⟩
/-- a Bool that is told -/
def mTst (m : M DV) : M Bool := bnd m fun x _ S => match x with
  | .val (.bl k) => .ok k S
  | _ => .bad
theorem tst_of {K : PySem.W.Frag} {m : M DV} {W : WX} {σ : L2.St} {H : Hp} {Q : Bool → Hp → Prop} (h : tT K (mTst m) W σ H Q) : tD K m W σ H fun x H' => ∃ k, x = .bl k ∧ Q k H' := by
  obtain ⟨En, F, R, E, S, rel, h⟩ := h
  refine ⟨En, F, R, E, S, rel, (post_bnd h).imp fun F1 R1 H1 dv S1 le rel1 q v hv => ?_⟩
  cases dv with
  | val d => cases d with
    | bl k =>
      cases hv
      exact ⟨k, rfl, q F1 R1 H1 Le.refl rel1⟩
    | _ => exact q.elim
  | _ => exact q.elim
theorem dt_cmp {op : CmpOp} {f : F2} {r : R2} (hs : Snd2 G.K f r) (ho : ∀ X, CtxE G k N sc X → OpR X (compareOp op) r) (ha : DE G k N sc a ma) (hb : DE G k N sc b mb) (hm : behindInMarks op b = false) : DT G k N sc (.Compare a [op] [b] pos) (mTst (mBin f ma mb)) :=
  ⟨fun X W c tk => pt_imp (pt_cmpR (ho X c) (ha.run X W c tk) (hb.run X W c tk) hm) fun σ H Q h => by
    obtain ⟨En, F, R, E, S, rel, h⟩ := tst_of h
    exact two_of hs ⟨En, F, R, E, S, rel, h⟩⟩

/-! ### names, constants -/
def mVar (i : Nat) : M DV := fun E S => match E[i]? with
  | some (some (.val d)) => .ok (.val d) S
  | _ => .bad
theorem de_name {x : Str} (i : Nat) (hN : N[i]? = some x := by rfl) (hv : Vis sc x := by first | exact Or.inl rfl | exact Or.inr (Or.inl rfl) | exact Or.inr (Or.inr rfl)) (hd : (x == ("__debug__" : Str)) = false := by decide)
    (hcd : (x == ("__classdict__" : Str)) = false := by decide) : DE G k N sc (.Name x pos) (mVar i) :=
  ⟨fun X W c tk => pe_imp (pe_var (i := i) (by rw [c.cN]; exact hN) (by rw [c.csc]; exact hv) hd hcd) fun σ H Q h => by
    obtain ⟨En, F, R, E, S, rel, h⟩ := h
    unfold mVar at h
    split at h
    · rename_i d e
      obtain ⟨v, e2, r⟩ := rel.slot i _ e
      exact ⟨v, e2, h F R H Le.refl rel v r⟩
    · exact h.elim⟩
def mK (d : D) : M DV := fun _ S => .ok (.val d) S
theorem tC_of {K : PySem.W.Frag} {d : D} {v : V} {W : WX} {σ : L2.St} {H : Hp} {Q : VK} (hr : ∀ F R, Rep K F R d v) (h : tD K (mK d) W σ H Q) : tC v σ H Q := by
  obtain ⟨En, F, R, E, S, rel, h⟩ := h
  exact h F R H Le.refl rel v (hr F R)
theorem de_int {i : Int} {j : Nat} : DE G k N sc (.Constant (.int i) j pos) (mK (.int i)) := ⟨fun X W c tk => pe_imp pe_int fun _ _ _ h => tC_of (fun _ _ => .int i) h⟩
theorem de_bl {i : Bool} {j : Nat} : DE G k N sc (.Constant (.bool i) j pos) (mK (.bl i)) := ⟨fun X W c tk => pe_imp pe_bl fun _ _ _ h => tC_of (fun _ _ => .bl i) h⟩
theorem de_non {j : Nat} : DE G k N sc (.Constant .none j pos) (mK .non) := ⟨fun X W c tk => pe_imp pe_non fun _ _ _ h => tC_of (fun _ _ => .non) h⟩
theorem de_str {i : Str} {j : Nat} : DE G k N sc (.Constant (.str i) j pos) (mK (.str i)) := ⟨fun X W c tk => pe_imp pe_str fun _ _ _ h => tC_of (fun _ _ => .str i) h⟩
/-- a name of the module -/
theorem gl_of {X : Cx} (c : CtxE G k N sc X) {x : Str} (h : sc.names.lookup x = some .globalImplicit) : Gl X x := by
  have e := c.csc
  subst e
  exact h
theorem de_glob {x : Str} {d : D} {v : V} {u : Value} (hm : G.mg x = some u) (hr : ∀ F R, Rep G.K F R d v) (r : RelV v u) (hg : sc.names.lookup x = some .globalImplicit := by rfl) (hd : (x == ("__debug__" : Str)) = false := by decide) : DE G k N sc (.Name x pos) (mK d) :=
  ⟨fun X W c tk => pe_imp (pe_glob (gl_of c hg) (by rw [c.cmg]; exact hm) r hd) fun _ _ _ h => tC_of hr h⟩

/-! ### arguments, displays -/
def mNil : M (List D) := fun _ S => .ok [] S
def mCons (m : M DV) (ms : M (List D)) : M (List D) := bnd m fun x => bnd ms fun xs _ S => .ok (x.frz :: xs) S
theorem da_nil : DA G k N sc [] mNil := ⟨fun X W c tk => pa_imp pa_nil fun σ H Q h => by
  obtain ⟨En, F, R, E, S, rel, h⟩ := h
  exact h F R H Le.refl rel [] .nil⟩
theorem da_cons {e : Expr} {es : List Expr} {m : M DV} {ms : M (List D)} (he : DE G k N sc e m) (hr : DA G k N sc es ms) (hs : ∀ env, starEach (e :: es) env = (false, eval e env) :: starEach es env := by intro _; rfl) : DA G k N sc (e :: es) (mCons m ms) :=
  ⟨fun X W c tk => pa_imp (pa_cons (he.run X W c tk) (hr.run X W c tk) (hs _)) fun σ H Q h => by
    obtain ⟨En, F, R, E, S, rel, h⟩ := h
    refine tD_then rel h fun F1 R1 H1 dv v S1 le rel1 rp h1 => ?_
    refine ⟨En, F1, R1, E, S1, rel1, (post_bnd h1).imp fun F2 R2 H2 ds S2 le2 rel2 q vs rs => ?_⟩
    exact q F2 R2 H2 Le.refl rel2 (v :: vs) (.cons (rp.mono le2 _ _) rs)⟩
/-- arguments, then what follows -/
theorem tA_then {α : Type} {K : PySem.W.Frag} {En : Ent} {F : Hp} {R : List Addr} {E : Ev} {S : Store} {σ : L2.St} {H : Hp} {W : WX} {m : M (List D)} {f : List D → M α} {ok : Hp → List Addr → Hp → α → Store → Prop} {k : List V → Hp → Prop} (rel : Rel K En F R E S σ H) (h : PostX K En F R E σ W ok (bnd m f E S))
    (hk : ∀ F1 R1 H1 ds vs S1, Le F R F1 R1 → Rel K En F1 R1 E S1 σ H1 → Reps K F1 R1 ds vs → PostX K En F1 R1 E σ W ok (f ds E S1) → k vs H1) : tA K m W σ H k := by
  refine ⟨En, F, R, E, S, rel, (post_bnd h).imp fun F1 R1 H1 ds S1 le rel1 q vs rs => ?_⟩
  exact hk F1 R1 H1 ds vs S1 le rel1 rs q
def small (n : Nat) : Bool := decide (n ≤ sizeLine)
def mTup (ms : M (List D)) : M DV := bnd ms fun xs _ S => if small xs.length then fine (.tup xs) S else .bad
def mLst (ms : M (List D)) : M DV := bnd ms fun xs _ S => if small xs.length then .ok (.ol xs) S else .bad
theorem de_tup {es : List Expr} {x1 : Nat} {ms : M (List D)} (h : DA G k N sc es ms) : DE G k N sc (.Tuple es x1 pos) (mTup ms) :=
  ⟨fun X W c tk => pe_imp (pe_tup (h.run X W c tk)) fun σ H Q h => by
    obtain ⟨En, F, R, E, S, rel, h⟩ := h
    refine tA_then rel h fun F1 R1 H1 ds vs S1 le rel1 rs h1 => ?_
    split at h1
    · rename_i hz
      exact ⟨by rw [← rs.length]; exact of_decide_eq_true hz, fun p hp => Post.tup h1 rel1 rs hp⟩
    · exact h1.elim⟩
theorem de_lst {es : List Expr} {ms : M (List D)} (h : DA G k N sc es ms) : DE G k N sc (.List es pos) (mLst ms) :=
  ⟨fun X W c tk => pe_imp (pe_lst (h.run X W c tk)) fun σ H Q h => by
    obtain ⟨En, F, R, E, S, rel, h⟩ := h
    refine tA_then rel h fun F1 R1 H1 ds vs S1 le rel1 rs h1 => ?_
    split at h1
    · rename_i hz
      exact ⟨by rw [← rs.length]; exact of_decide_eq_true hz, fun p hp => Post.ol h1 rel1 rs hp⟩
    · exact h1.elim⟩

/-! ### a cell's list, dict -/
def view (S : Store) : D → D
  | .ref k => (match S[k]? with
    | some (.lst ds) => .lst ds
    | some (.dct ds) => .dct ds
    | _ => .ref k)
  | d => d
theorem view_lst {K : PySem.W.Frag} {En : Ent} {F : Hp} {R : List Addr} {E : Ev} {S : Store} {σ : L2.St} {H : Hp} (rel : Rel K En F R E S σ H) {d : D} {x : V} {ds : List D} (r : Rep K F R d x) (e : view S d = .lst ds) :
    ∃ p vs, x = .ref p ∧ H p = some (.lst vs) ∧ Reps K F R ds vs := by
  cases r with
  | ref hk =>
    rename_i k a
    cases hs : S[k]? with
    | none => simp only [view, hs] at e; cases e
    | some c =>
      simp only [view, hs] at e
      cases c with
      | lst es =>
        cases e
        obtain ⟨⟨vs, h1, h2⟩, _⟩ := rel.cell k _ a hs hk
        exact ⟨a, vs, rfl, h1, h2⟩
      | dct es => cases e
      | ins c fs => cases e
  | lst h1 h2 =>
    cases e
    exact ⟨_, _, rfl, rel.frz _ _ h1, h2⟩
  | _ => cases e
theorem view_dct {K : PySem.W.Frag} {En : Ent} {F : Hp} {R : List Addr} {E : Ev} {S : Store} {σ : L2.St} {H : Hp} (rel : Rel K En F R E S σ H) {d : D} {x : V} {ds : List (Key × D)} (r : Rep K F R d x) (e : view S d = .dct ds) :
    ∃ p vs, x = .ref p ∧ Rd H p (.dK vs) ∧ RepK K F R ds vs := by
  cases r with
  | ref hk =>
    rename_i k a
    cases hs : S[k]? with
    | none => simp only [view, hs] at e; cases e
    | some c =>
      simp only [view, hs] at e
      cases c with
      | dct es =>
        cases e
        obtain ⟨⟨vs, h1, h2⟩, _⟩ := rel.cell k _ a hs hk
        exact ⟨a, vs, rfl, .inl h1, h2⟩
      | lst es => cases e
      | ins c fs => cases e
  | dct h1 h2 =>
    cases e
    exact ⟨_, _, rfl, rd_same rel.frz h1, h2⟩
  | _ => cases e
theorem view_tup {K : PySem.W.Frag} {En : Ent} {F : Hp} {R : List Addr} {E : Ev} {S : Store} {σ : L2.St} {H : Hp} (rel : Rel K En F R E S σ H) {d : D} {x : V} {ds : List D} (r : Rep K F R d x) (e : view S d = .tup ds) :
    ∃ p vs, x = .ref p ∧ SqT K H p vs ∧ Reps K F R ds vs := by
  cases r with
  | ref hk =>
    rename_i k a
    cases hs : S[k]? with
    | none => simp only [view, hs] at e; cases e
    | some c => cases c <;> (simp only [view, hs] at e; cases e)
  | tup h1 h2 =>
    cases e
    exact ⟨_, _, rfl, sqT_same rel.frz h1, h2⟩
  | _ => cases e
theorem view_scr {K : PySem.W.Frag} {En : Ent} {F : Hp} {R : List Addr} {E : Ev} {S : Store} {σ : L2.St} {H : Hp} (rel : Rel K En F R E S σ H) {d : D} {x : V} {ds : List D} (r : Rep K F R d x) (e : view S d = .scr ds) :
    ∃ p vs, x = .ref p ∧ SqL K H p vs ∧ Reps K F R ds vs := by
  cases r with
  | ref hk =>
    rename_i k a
    cases hs : S[k]? with
    | none => simp only [view, hs] at e; cases e
    | some c => cases c <;> (simp only [view, hs] at e; cases e)
  | scr h1 h2 =>
    cases e
    exact ⟨_, _, rfl, sqL_same rel.frz h1, h2⟩
  | _ => cases e
end
end Hm
set_option Elab.async false
set_option linter.all false
set_option maxRecDepth 100000
set_option maxHeartbeats 2000000
namespace Hm
open PySem PySem.Spec L2

section
variable {K : PySem.W.Frag} {En : Ent} {F F' : Hp} {R R' : List Addr} {E : Ev} {S S' : Store} {σ : L2.St} {H H' : Hp} {W : WX}
theorem view_int {d : D} {i : Int} (e : view S d = .int i) : d = .int i := by
  cases d with
  | ref k =>
    cases hs : S[k]? with
    | none => simp only [view, hs] at e; cases e
    | some c => cases c <;> (simp only [view, hs] at e; cases e)
  | _ => exact e
theorem view_str {d : D} {i : Str} (e : view S d = .str i) : d = .str i := by
  cases d with
  | ref k =>
    cases hs : S[k]? with
    | none => simp only [view, hs] at e; cases e
    | some c => cases c <;> (simp only [view, hs] at e; cases e)
  | _ => exact e
theorem view_bl {d : D} {i : Bool} (e : view S d = .bl i) : d = .bl i := by
  cases d with
  | ref k =>
    cases hs : S[k]? with
    | none => simp only [view, hs] at e; cases e
    | some c => cases c <;> (simp only [view, hs] at e; cases e)
  | _ => exact e
theorem view_non {d : D} (e : view S d = .non) : d = .non := by
  cases d with
  | ref k =>
    cases hs : S[k]? with
    | none => simp only [view, hs] at e; cases e
    | some c => cases c <;> (simp only [view, hs] at e; cases e)
  | _ => exact e
theorem rep_non {d : D} (r : Rep K F R d .non) : d = .non := by cases r; rfl
end

/-! ### ints -/
def intD (f : Int → Int → Option D) : F2 := fun d e S => match d, e with
  | .int i, .int j => (match f i j with
    | some z => fine z S
    | none => .bad)
  | _, _ => .bad
theorem snd_intD {K : PySem.W.Frag} {f : Int → Int → Option D} {C : Int → Int → Prop} {g : Int → Int → V} (h : ∀ i j z, f i j = some z → C i j ∧ ∀ F R, Rep K F R z (g i j)) : Snd2 K (intD f) (rI C g) := by
  intro En F R E S σ H W Q d e x y rel rx ry p
  cases rx <;> try exact p.elim
  cases ry <;> try exact p.elim
  rename_i i j
  change Post K En F R E σ W Q (match f i j with | some z => fine z S | none => .bad) at p
  cases q : f i j with
  | none => rw [q] at p; exact p.elim
  | some z =>
    rw [q] at p
    obtain ⟨hc, hr⟩ := h i j z q
    exact ⟨i, j, rfl, rfl, hc, p.got rel (hr F R)⟩
theorem snd_intD0 {K : PySem.W.Frag} {g : Int → Int → D} {g' : Int → Int → V} (h : ∀ i j F R, Rep K F R (g i j) (g' i j)) : Snd2 K (intD fun i j => some (g i j)) (rI0 g') := by
  intro En F R E S σ H W Q d e x y rel rx ry p
  cases rx <;> try exact p.elim
  cases ry <;> try exact p.elim
  rename_i i j
  exact ⟨i, j, rfl, rfl, Post.got p rel (h i j F R)⟩
def subD : F2 := intD fun i j => some (.int (i - j))
def mulOk (i j : Int) : Bool := (decide (-(2 ^ 64) < i) && decide (i < 2 ^ 64)) || (decide (-(2 ^ 64) < j) && decide (j < 2 ^ 64))
def fdivD : F2 := intD fun i j => if 0 < j ∧ j < 1073741824 then some (.int (i / j)) else none
def modD : F2 := intD fun i j => if 0 < j then some (.int (i % j)) else none
def powD : F2 := intD fun i j => if 0 ≤ j ∧ j ≤ 1000000 ∧ i.natAbs < 2 ^ 64 then some (.int (i ^ j.toNat)) else none
def ltD : F2 := intD fun i j => some (.bl (decide (i < j)))
def leD : F2 := intD fun i j => some (.bl (decide (i ≤ j)))
def gtD : F2 := intD fun i j => some (.bl (decide (j < i)))
def geD : F2 := intD fun i j => some (.bl (decide (j ≤ i)))
/-- + of ints, texts, lists, tuples -/
def addD : F2 := fun d e S => match view S d, view S e with
  | .int i, .int j => fine (.int (i + j)) S
  | .str i, .str j => if small (i.length + j.length) then fine (.str (i ++ j)) S else .bad
  | .lst xs, .lst ys => if small (xs.length + ys.length) then .ok (.ol (xs ++ ys)) S else .bad
  | .tup xs, .tup ys => if small (xs.length + ys.length) then fine (.tup (xs ++ ys)) S else .bad
  | _, _ => .bad
/-- * of ints, of a list and an int -/
def mulD : F2 := fun d e S => match view S d, view S e with
  | .int i, .int j => if mulOk i j then fine (.int (i * j)) S else .bad
  | .lst xs, .int j => if decide (-(2 ^ 63) ≤ j) && decide (j < 2 ^ 63) && small (xs.length * j.toNat) then .ok (.ol (List.replicate j.toNat xs).flatten) S else .bad
  | .str s, .int j => if 0 ≤ j ∧ j ≤ 64 ∧ s.length ≤ 100 then fine (.str (Txt.mul s j)) S else .bad
  | _, _ => .bad
theorem reps_flat {K : PySem.W.Frag} {F : Hp} {R : List Addr} {ds : List D} {vs : List V} (h : Reps K F R ds vs) : ∀ n : Nat, Reps K F R (List.replicate n ds).flatten (List.replicate n vs).flatten
  | 0 => .nil
  | n + 1 => by
    rw [List.replicate_succ, List.replicate_succ, List.flatten_cons, List.flatten_cons]
    exact h.append (reps_flat h n)

def rAddAll (K : PySem.W.Frag) : R2 := fun x y H Q => (rI0 (fun i j => .int (i + j)) x y H Q ∨ (∃ i j, x = .str i ∧ y = .str j ∧ i.length + j.length ≤ sizeLine ∧ Q (.str (i ++ j)) H)) ∨ (rCat x y H Q ∨ rCatA K x y H Q)
theorem or_add {X : Cx} : OpR X (binaryOp .Add) (rAddAll X.K) := (op_add.or op_add_str).or (op_cat.or op_catA)
theorem snd_add {K : PySem.W.Frag} : Snd2 K addD (rAddAll K) := by
  intro En F R E S σ H W Q d e x y rel rx ry p
  unfold addD at p
  split at p
  · rename_i i j e1 e2
    have e1 := view_int e1
    have e2 := view_int e2
    subst e1 e2
    cases rx
    cases ry
    exact .inl (.inl ⟨i, j, rfl, rfl, Post.got p rel (.int _)⟩)
  · rename_i i j e1 e2
    have e1 := view_str e1
    have e2 := view_str e2
    subst e1 e2
    cases rx
    cases ry
    split at p
    · rename_i hz
      exact .inl (.inr ⟨i, j, rfl, rfl, of_decide_eq_true hz, Post.got p rel (.str _)⟩)
    · exact p.elim
  · rename_i xs ys e1 e2
    obtain ⟨l, vs, rfl, h1, r1⟩ := view_lst rel rx e1
    obtain ⟨b, us, rfl, h2, r2⟩ := view_lst rel ry e2
    split at p
    · rename_i hz
      refine .inr (.inl ⟨l, b, vs, us, rfl, rfl, h1, h2, by rw [← r1.length, ← r2.length]; exact of_decide_eq_true hz, fun q hq => Post.ol p rel (r1.append r2) hq⟩)
    · exact p.elim
  · rename_i xs ys e1 e2
    obtain ⟨l, vs, rfl, h1, r1⟩ := view_tup rel rx e1
    obtain ⟨b, us, rfl, h2, r2⟩ := view_tup rel ry e2
    split at p
    · rename_i hz
      refine .inr (.inr ⟨l, b, vs, us, rfl, rfl, h1, h2, by rw [← r1.length, ← r2.length]; exact of_decide_eq_true hz, fun q => ?_, fun q q' => ?_, fun _ _ q hq => Post.tup p rel (r1.append r2) hq⟩)
      · subst q
        cases r1
        have e2' : e = .tup ys := by
          cases ry with
          | ref hk =>
            rename_i kk
            cases hs : S[kk]? with
            | none => simp only [view, hs] at e2; cases e2
            | some c => cases c <;> (simp only [view, hs] at e2; cases e2)
          | _ => exact e2
        subst e2'
        exact Post.got p rel ry
      · subst q'
        cases r2
        rw [List.append_nil] at p
        have e1' : d = .tup xs := by
          cases rx with
          | ref hk =>
            rename_i kk
            cases hs : S[kk]? with
            | none => simp only [view, hs] at e1; cases e1
            | some c => cases c <;> (simp only [view, hs] at e1; cases e1)
          | _ => exact e1
        subst e1'
        exact Post.got p rel rx
    · exact p.elim
  · exact p.elim
def rMulS : R2 := fun x y H Q => ∃ s j, x = .str s ∧ y = .int j ∧ (0 ≤ j ∧ j ≤ 64 ∧ s.length ≤ 100) ∧ Q (.str (Txt.mul s j)) H
theorem op_mulS {X : Cx} : OpR X (binaryOp .Mult) rMulS := by
  intro pins s σ H x y v u Q I rx ry h
  obtain ⟨a, j, rfl, rfl, ⟨h1, h2, h3⟩, q⟩ := h
  obtain ⟨t, rfl⟩ := rx
  obtain ⟨t', rfl⟩ := ry
  refine PySem.SB.mul ⟨?_, fun h0 _ => ?_, fun _ _ => ?_⟩ fun t2 k => ⟨.str _, H, I.tok k, ⟨t2, rfl⟩, q⟩
  · rw [Bool.or_eq_false_iff]
    exact ⟨decide_eq_false (by omega), decide_eq_false (by omega)⟩
  · have hq : (144115188075855871 : Int) ≤ (2 ^ 63 - 1) / j := by
      rw [Int.le_ediv_iff_mul_le (by omega)]
      omega
    omega
  · have hm : a.length * j.toNat ≤ 100 * 64 := Nat.mul_le_mul h3 (by omega)
    unfold Builtin.Str.tooLong
    exact decide_eq_false (by rw [sizeLine_eq]; omega)
def rMulAll : R2 := fun x y H Q => (rI CMul (fun i j => .int (i * j)) x y H Q ∨ rRep x y H Q) ∨ rMulS x y H Q
theorem or_mul {X : Cx} : OpR X (binaryOp .Mult) rMulAll := (op_mul.or op_rep).or op_mulS
theorem snd_mul {K : PySem.W.Frag} : Snd2 K mulD rMulAll := by
  intro En F R E S σ H W Q d e x y rel rx ry p
  unfold mulD at p
  split at p
  · rename_i i j e1 e2
    have e1 := view_int e1
    have e2 := view_int e2
    subst e1 e2
    cases rx
    cases ry
    split at p
    · rename_i hz
      refine .inl (.inl ⟨i, j, rfl, rfl, ?_, Post.got p rel (.int _)⟩)
      simp only [mulOk, Bool.or_eq_true, Bool.and_eq_true, decide_eq_true_eq] at hz
      exact hz
    · exact p.elim
  · rename_i xs j e1 e2
    have e2 := view_int e2
    subst e2
    cases ry
    obtain ⟨l, vs, rfl, h1, r1⟩ := view_lst rel rx e1
    split at p
    · rename_i hz
      simp only [Bool.and_eq_true, decide_eq_true_eq] at hz
      obtain ⟨⟨z1, z2⟩, z3⟩ := hz
      exact .inl (.inr ⟨l, j, vs, rfl, rfl, h1, z1, z2, by rw [← r1.length]; exact of_decide_eq_true z3, fun q hq => Post.ol p rel (reps_flat r1 _) hq⟩)
    · exact p.elim
  · rename_i s j e1 e2
    have e1 := view_str e1
    have e2 := view_int e2
    subst e1 e2
    cases rx
    cases ry
    split at p
    · rename_i hz
      exact .inr ⟨s, j, rfl, rfl, hz, Post.got p rel (.str _)⟩
    · exact p.elim
  · exact p.elim

section
variable {G : Gs} {k : Nat} {N : List Str} {sc : Scope} {a b c : Expr} {ma mb mc : M DV} {pos : Pos}
theorem de_add (ha : DE G k N sc a ma) (hb : DE G k N sc b mb) : DE G k N sc (.BinOp a .Add b pos) (mBin addD ma mb) := de_bin snd_add (fun X c => c.cK ▸ or_add) ha hb
theorem de_sub (ha : DE G k N sc a ma) (hb : DE G k N sc b mb) : DE G k N sc (.BinOp a .Sub b pos) (mBin subD ma mb) := de_bin (snd_intD0 fun _ _ _ _ => .int _) (fun _ _ => op_sub) ha hb
theorem de_mul (ha : DE G k N sc a ma) (hb : DE G k N sc b mb) : DE G k N sc (.BinOp a .Mult b pos) (mBin mulD ma mb) := de_bin snd_mul (fun _ _ => or_mul) ha hb
theorem de_fdiv (ha : DE G k N sc a ma) (hb : DE G k N sc b mb) : DE G k N sc (.BinOp a .FloorDiv b pos) (mBin fdivD ma mb) := de_bin (snd_intD fun i j z h => by
    split at h
    · rename_i hc
      cases h
      exact ⟨hc, fun _ _ => .int _⟩
    · cases h) (fun _ _ => op_fdiv) ha hb
theorem de_mod (ha : DE G k N sc a ma) (hb : DE G k N sc b mb) : DE G k N sc (.BinOp a .Mod b pos) (mBin modD ma mb) := de_bin (snd_intD fun i j z h => by
    split at h
    · rename_i hc
      cases h
      exact ⟨hc, fun _ _ => .int _⟩
    · cases h) (fun _ _ => op_mod) ha hb
theorem de_pow (ha : DE G k N sc a ma) (hb : DE G k N sc b mb) : DE G k N sc (.BinOp a .Pow b pos) (mBin powD ma mb) := de_bin (snd_intD fun i j z h => by
    split at h
    · rename_i hc
      cases h
      exact ⟨hc, fun _ _ => .int _⟩
    · cases h) (fun _ _ => op_pow) ha hb
/-- a rule of a comparison: how it goes, and the library's -/
structure CmpRule (G : Gs) (k : Nat) (N : List Str) (sc : Scope) (op : CmpOp) (f : F2) : Prop where
  ex : ∃ r : R2, Snd2 G.K f r ∧ ∀ X, CtxE G k N sc X → OpR X (compareOp op) r
theorem de_cmpR {op : CmpOp} {f : F2} (c : CmpRule G k N sc op f) (ha : DE G k N sc a ma) (hb : DE G k N sc b mb) (hm : behindInMarks op b = false := by first | exact nomark _ | rfl) : DE G k N sc (.Compare a [op] [b] pos) (mBin f ma mb) := by
  obtain ⟨r, hs, ho⟩ := c.ex
  exact de_cmp hs ho ha hb hm
theorem dt_cmpR {op : CmpOp} {f : F2} (c : CmpRule G k N sc op f) (ha : DE G k N sc a ma) (hb : DE G k N sc b mb) (hm : behindInMarks op b = false := by first | exact nomark _ | rfl) : DT G k N sc (.Compare a [op] [b] pos) (mTst (mBin f ma mb)) := by
  obtain ⟨r, hs, ho⟩ := c.ex
  exact dt_cmp hs ho ha hb hm
theorem cr_lt : CmpRule G k N sc .Lt ltD := ⟨_, snd_intD0 fun _ _ _ _ => .bl _, fun _ _ => op_lt⟩
theorem cr_le : CmpRule G k N sc .LtE leD := ⟨_, snd_intD0 fun _ _ _ _ => .bl _, fun _ _ => op_le⟩
theorem cr_gt : CmpRule G k N sc .Gt gtD := ⟨_, snd_intD0 fun _ _ _ _ => .bl _, fun _ _ => op_gt⟩
theorem cr_ge : CmpRule G k N sc .GtE geD := ⟨_, snd_intD0 fun _ _ _ _ => .bl _, fun _ _ => op_ge⟩

/-! ### is None -/
def isN (d : D) : Bool := match d with
  | .non => true
  | _ => false
def isND : F2 := fun d e S => match e with
  | .non => fine (.bl (isN d)) S
  | _ => .bad
def notND : F2 := fun d e S => match e with
  | .non => fine (.bl (!isN d)) S
  | _ => .bad
theorem isN_eq {K : PySem.W.Frag} {F : Hp} {R : List Addr} {d : D} {x : V} (r : Rep K F R d x) : isN d = decide (x = .non) := by
  cases r <;> first | rfl | simp [isN]
theorem cr_isN : CmpRule G k N sc .Is isND := ⟨_, fun En F R E S σ H W Q d e x y rel rx ry p => by
    cases ry <;> try exact p.elim
    refine ⟨rfl, ?_⟩
    rw [← isN_eq rx]
    exact Post.got p rel (.bl _), fun _ _ => op_isN⟩
theorem cr_notN : CmpRule G k N sc .IsNot notND := ⟨_, fun En F R E S σ H W Q d e x y rel rx ry p => by
    cases ry <;> try exact p.elim
    refine ⟨rfl, ?_⟩
    rw [← isN_eq rx]
    exact Post.got p rel (.bl _), fun _ _ => op_notN⟩

/-! ### == of data -/
mutual
def toPy (S : Store) : D → Option PyData
  | .non => some .none
  | .bl b => some (.bool b)
  | .int i => some (.int i)
  | .str s => some (.str s)
  | .tup ds => (toPys S ds).map .tuple
  | .lst ds => (toPys S ds).map .list
  | .ref _ => none
  | _ => none
def toPys (S : Store) : List D → Option (List PyData)
  | [] => some []
  | d :: ds => match toPy S d, toPys S ds with
    | some x, some xs => some (x :: xs)
    | _, _ => none
end
mutual
theorem toPy_ok {K : PySem.W.Frag} {F H : Hp} {R : List Addr} {S : Store} (hf : ∀ a o, F a = some o → H a = some o) : ∀ (d : D) (x : V) (p : PyData), Rep K F R d x → toPy S d = some p → Dp K H x p
  | .non, _, _, r, e => by cases r; cases e; exact .non
  | .bl b, _, _, r, e => by cases r; cases e; exact .bl b
  | .int b, _, _, r, e => by cases r; cases e; exact .int b
  | .str b, _, _, r, e => by cases r; cases e; exact .str b
  | .ty b, _, _, r, e => by cases e
  | .obj b, _, _, r, e => by cases e
  | .ref b, _, _, r, e => by cases e
  | .dct b, _, _, r, e => by cases e
  | .scr b, _, _, r, e => by cases e
  | .tup ds, _, _, r, e => by
    cases r with
    | tup h1 h2 =>
      rw [toPy] at e
      cases q : toPys S ds with
      | none => rw [q] at e; cases e
      | some ps =>
        rw [q] at e
        cases e
        exact .tup (sqT_same hf h1) (toPys_ok hf ds _ _ h2 q)
  | .lst ds, _, _, r, e => by
    cases r with
    | lst h1 h2 =>
      rw [toPy] at e
      cases q : toPys S ds with
      | none => rw [q] at e; cases e
      | some ps =>
        rw [q] at e
        cases e
        exact .lst (.of (hf _ _ h1)) (toPys_ok hf ds _ _ h2 q)
theorem toPys_ok {K : PySem.W.Frag} {F H : Hp} {R : List Addr} {S : Store} (hf : ∀ a o, F a = some o → H a = some o) : ∀ (ds : List D) (xs : List V) (ps : List PyData), Reps K F R ds xs → toPys S ds = some ps → DpAll K H xs ps
  | [], _, _, r, e => by cases r; cases e; exact .nil
  | d :: ds, _, _, r, e => by
    cases r with
    | cons h1 h2 =>
      rw [toPys] at e
      cases q1 : toPy S d with
      | none => rw [q1] at e; cases e
      | some p =>
        cases q2 : toPys S ds with
        | none => rw [q1, q2] at e; cases e
        | some ps =>
          rw [q1, q2] at e
          cases e
          exact .cons (toPy_ok hf d _ _ h1 q1) (toPys_ok hf ds _ _ h2 q2)
end
/-- data of a thing, seen through its cell -/
def pyOf (S : Store) (d : D) : Option PyData := (toPy S (view S d)).bind fun p => if SeqAt.shaped p then some p else none
theorem pyOf_ok {K : PySem.W.Frag} {En : Ent} {F : Hp} {R : List Addr} {E : Ev} {S : Store} {σ : L2.St} {H : Hp} (rel : Rel K En F R E S σ H) {d : D} {x : V} {p : PyData} (r : Rep K F R d x) (e : pyOf S d = some p) : Dp K H x p ∧ SeqAt.shaped p = true := by
  unfold pyOf at e
  cases q : toPy S (view S d) with
  | none => rw [q] at e; cases e
  | some z =>
    rw [q] at e
    change (if SeqAt.shaped z then some z else none) = some p at e
    split at e
    · rename_i hz
      cases e
      refine ⟨?_, hz⟩
      by_cases hr : ∃ kk, d = .ref kk
      · obtain ⟨kk, rfl⟩ := hr
        cases hs : S[kk]? with
        | none => simp only [view, hs] at q; cases q
        | some cc =>
          cases cc with
          | lst ds =>
            have ev : view S (.ref kk) = .lst ds := by simp only [view, hs]
            obtain ⟨l, vs, rfl, h1, r1⟩ := view_lst rel r ev
            rw [ev, toPy] at q
            cases q2 : toPys S ds with
            | none => rw [q2] at q; cases q
            | some ps =>
              rw [q2] at q
              cases q
              exact .lst (.of h1) (toPys_ok rel.frz ds _ _ r1 q2)
          | dct ds => simp only [view, hs] at q; cases q
          | ins cc fs => simp only [view, hs] at q; cases q
      · have ev : view S d = d := by
          cases d with
          | ref kk => exact (hr ⟨kk, rfl⟩).elim
          | _ => rfl
        rw [ev] at q
        exact toPy_ok rel.frz d x _ r q
    · cases e
def eqD : F2 := fun d e S => match pyOf S d, pyOf S e with
  | some p, some q => fine (.bl (PyData.eqv p q)) S
  | _, _ => .bad
def neD : F2 := fun d e S => match pyOf S d, pyOf S e with
  | some p, some q => fine (.bl (!PyData.eqv p q)) S
  | _, _ => .bad
theorem snd_eq {K : PySem.W.Frag} : Snd2 K eqD (rEqD K) := by
  intro En F R E S σ H W Q d e x y rel rx ry p
  unfold eqD at p
  split at p
  · rename_i u v e1 e2
    obtain ⟨d1, s1⟩ := pyOf_ok rel rx e1
    obtain ⟨d2, s2⟩ := pyOf_ok rel ry e2
    exact ⟨u, v, d1, d2, s1, s2, Post.got p rel (.bl _)⟩
  · exact p.elim
theorem snd_ne {K : PySem.W.Frag} : Snd2 K neD (rNeD K) := by
  intro En F R E S σ H W Q d e x y rel rx ry p
  unfold neD at p
  split at p
  · rename_i u v e1 e2
    obtain ⟨d1, s1⟩ := pyOf_ok rel rx e1
    obtain ⟨d2, s2⟩ := pyOf_ok rel ry e2
    exact ⟨u, v, d1, d2, s1, s2, Post.got p rel (.bl _)⟩
  · exact p.elim
theorem cr_eq : CmpRule G k N sc .Eq eqD := ⟨_, snd_eq, fun X c => c.cK ▸ op_eqD c.croom.units⟩
theorem cr_ne : CmpRule G k N sc .NotEq neD := ⟨_, snd_ne, fun X c => c.cK ▸ op_neD c.croom.units⟩
end
end Hm
set_option Elab.async false
set_option linter.all false
set_option maxRecDepth 100000
set_option maxHeartbeats 2000000
namespace Hm
open PySem PySem.Spec L2

/-! ### keys -/
def keyOf : D → Option Key
  | .int i => some (.inl i)
  | .str s => some (.inr s)
  | _ => none
theorem keyOf_ok {K : PySem.W.Frag} {F : Hp} {R : List Addr} {d : D} {x : V} {k : Key} (r : Rep K F R d x) (e : keyOf d = some k) : x = kV k := by
  cases r <;> first | (cases e; rfl) | cases e
def lookK (kvs : List (Key × D)) (k : Key) : Option D := (kvs.find? fun kv => decide (kv.1 = k)).map (·.2)
theorem lookK_some {K : PySem.W.Frag} {F : Hp} {R : List Addr} {k : Key} : ∀ {kvs : List (Key × D)} {ks : List (Key × V)} {d : D}, RepK K F R kvs ks → lookK kvs k = some d → ∃ v, valV ks k = some v ∧ Rep K F R d v
  | _, _, _, .nil, e => by cases e
  | _, _, d, .cons (k := k1) (d := d1) (v := v1) r t, e => by
    unfold lookK at e
    unfold valV
    rw [List.find?_cons] at e ⊢
    by_cases h : k1 = k
    · have e1 : decide (k1 = k) = true := decide_eq_true h
      simp only [e1] at e ⊢
      cases e
      exact ⟨v1, rfl, r⟩
    · have e1 : decide (k1 = k) = false := decide_eq_false h
      simp only [e1] at e ⊢
      exact lookK_some t e
theorem lookK_none {K : PySem.W.Frag} {F : Hp} {R : List Addr} {k : Key} : ∀ {kvs : List (Key × D)} {ks : List (Key × V)}, RepK K F R kvs ks → (valV ks k).isSome = (lookK kvs k).isSome
  | _, _, .nil => rfl
  | _, _, .cons (k := k1) (d := d1) (v := v1) r t => by
    unfold lookK valV
    rw [List.find?_cons, List.find?_cons]
    by_cases h : k1 = k
    · have e1 : decide (k1 = k) = true := decide_eq_true h
      simp only [e1]
      rfl
    · have e1 : decide (k1 = k) = false := decide_eq_false h
      simp only [e1]
      exact lookK_none t

/-! ### subscripts -/
theorem atI_rep {K : PySem.W.Frag} {F : Hp} {R : List Addr} {ds : List D} {vs : List V} {i : Int} {d : D} (r : Reps K F R ds vs) (e : atI ds i = some d) : ∃ v, atI vs i = some v ∧ Rep K F R d v := by
  unfold atI at e ⊢
  rw [← r.length]
  cases q : ixN ds.length i with
  | none => rw [q] at e; cases e
  | some j =>
    rw [q] at e
    exact r.getD e
/-- d[y] of a dict of texts and ints -/
def rIxK : R2 := fun x y H Q => ∃ (a : Addr) (kvs : List (Key × V)) (k : Key) (v : V), x = .ref a ∧ y = kV k ∧ Rd H a (.dK kvs) ∧ valV kvs k = some v ∧ Q v H
theorem ix_dK {X : Cx} (hu : X.A.units + 1 < cLine) : IxR X rIxK := by
  intro value slice pins s σ H x y v u Q I rx ry h hs
  obtain ⟨a, kvs, k, z, rfl, rfl, ha, hz, q⟩ := h
  cases rx
  have g : DGet H a (kV k) (some z) := .inl ⟨kvs, k, ha, rfl, hz.symm⟩
  have hT := dict_typeIs I g
  unfold PyProof.Rows.subscriptTail
  refine wpAny_bind ?_
  rw [getitemInPython_of_ne hT.not_modules]
  refine wpAny_bind (wpAny_specialOf hT PySem.F.slot_dict_getitem.lookup ?_)
  have fin : wpAny (model X.prog X.w) X.A (subscripted slice false (.ref a) u) (fun r s₃ => wpAny (model X.prog X.w) X.A (letTemporaryGo value (.ref a) r >>= fun _ => pure r) (EP X pins σ Q) X.xe s₃) X.xe s := by
    rw [hs]
    exact wpAny_operating (wpAny_mono (d_getItem (Q := EP X pins σ Q) hu I g ry fun w' s3 I3 rw' => ⟨z, H, I3, rw', q⟩) (fun r s₃ h₃ => wpAny_bind (wpAny_letTemporaryGo (wpAny_pure h₃))) fun _ _ x => x)
  first
    | exact wpAny_pure (wpAny_bind fin)
    | exact wpAny_bind (wpAny_pure (wpAny_bind fin))
    | exact wpAny_bind fin
def ixD : F2 := fun d e S => match view S d with
  | .lst xs => (match e with
    | .int i => (match atI xs i with
      | some z => fine z S
      | none => .bad)
    | _ => .bad)
  | .tup xs => (match e with
    | .int i => (match atI xs i with
      | some z => fine z S
      | none => .bad)
    | _ => .bad)
  | .str s => (match e with
    | .int i => (match atI s.cps.toList i with
      | some c => if small s.length then fine (.str ⟨#[c]⟩) S else .bad
      | none => .bad)
    | _ => .bad)
  | .dct kvs => (match keyOf e with
    | some k => (match lookK kvs k with
      | some z => fine z S
      | none => .bad)
    | none => .bad)
  | _ => .bad
def rIxAll (K : PySem.W.Frag) : R2 := fun x y H Q => rIxL K x y H Q ∨ (rIxT K x y H Q ∨ (rIxS x y H Q ∨ rIxK x y H Q))
theorem or_ix {X : Cx} (hu : X.A.units + 1 < cLine) : IxR X (rIxAll X.K) := ix_list.or (ix_tup.or (ix_str.or (ix_dK hu)))
theorem snd_ix {K : PySem.W.Frag} : Snd2 K ixD (rIxAll K) := by
  intro En F R E S σ H W Q d e x y rel rx ry p
  unfold ixD at p
  split at p
  · rename_i xs e1
    obtain ⟨l, vs, rfl, h1, r1⟩ := view_lst rel rx e1
    split at p
    · cases ry
      split at p
      · rename_i z hz
        obtain ⟨v, hv, rv⟩ := atI_rep r1 hz
        exact .inl ⟨l, vs, _, v, rfl, rfl, .of h1, hv, Post.got p rel rv⟩
      · exact p.elim
    · exact p.elim
  · rename_i xs e1
    obtain ⟨l, vs, rfl, h1, r1⟩ := view_tup rel rx e1
    split at p
    · cases ry
      split at p
      · rename_i z hz
        obtain ⟨v, hv, rv⟩ := atI_rep r1 hz
        exact .inr (.inl ⟨l, vs, _, v, rfl, rfl, h1, hv, Post.got p rel rv⟩)
      · exact p.elim
    · exact p.elim
  · rename_i s e1
    have e1 := view_str e1
    subst e1
    cases rx
    split at p
    · cases ry
      split at p
      · rename_i c hc
        split at p
        · rename_i hz
          exact .inr (.inr (.inl ⟨s, _, c, rfl, rfl, of_decide_eq_true hz, hc, Post.got p rel (.str _)⟩))
        · exact p.elim
      · exact p.elim
    · exact p.elim
  · rename_i kvs e1
    obtain ⟨l, ks, rfl, h1, r1⟩ := view_dct rel rx e1
    split at p
    · rename_i k hk
      obtain rfl := keyOf_ok ry hk
      split at p
      · rename_i z hz
        obtain ⟨v, hv, rv⟩ := lookK_some r1 hz
        exact .inr (.inr (.inr ⟨l, ks, k, v, rfl, rfl, h1, hv, Post.got p rel rv⟩))
      · exact p.elim
    · exact p.elim
  · exact p.elim

/-! ### in -/
def flatD : D → Bool
  | .non => true
  | .bl _ => true
  | .int _ => true
  | .str _ => true
  | _ => false
def eqF : D → D → Bool
  | .non, .non => true
  | .bl a, .bl b => a == b
  | .bl a, .int b => (if a then 1 else 0) == b
  | .int a, .bl b => a == (if b then 1 else 0)
  | .int a, .int b => a == b
  | .str a, .str b => a == b
  | _, _ => false
theorem flat_rep {K : PySem.W.Frag} {F : Hp} {R : List Addr} {d : D} {x : V} (r : Rep K F R d x) (h : flatD d = true) : flatV x = true := by cases r <;> first | rfl | cases h
theorem flats_rep {K : PySem.W.Frag} {F : Hp} {R : List Addr} : ∀ {ds : List D} {vs : List V}, Reps K F R ds vs → ds.all flatD = true → vs.all flatV = true
  | _, _, .nil, _ => rfl
  | _, _, .cons r t, h => by
    rw [List.all_cons, Bool.and_eq_true] at h ⊢
    exact ⟨flat_rep r h.1, flats_rep t h.2⟩
theorem eqF_rep {K : PySem.W.Frag} {F : Hp} {R : List Addr} {d e : D} {x y : V} (r : Rep K F R d x) (q : Rep K F R e y) : eqF d e = eqV x y := by
  cases r <;> cases q <;> rfl
theorem any_rep {K : PySem.W.Frag} {F : Hp} {R : List Addr} {e : D} {y : V} (q : Rep K F R e y) : ∀ {ds : List D} {vs : List V}, Reps K F R ds vs → (ds.any fun d => eqF d e) = vs.any fun x => eqV x y
  | _, _, .nil => rfl
  | _, _, .cons r t => by rw [List.any_cons, List.any_cons, eqF_rep r q, any_rep q t]
/-- one sign in a text -/
def sign1 (s : Str) : Option Nat := match s.cps.toList with
  | [c] => some c
  | _ => none
theorem sign1_ok {s : Str} {c : Nat} (h : sign1 s = some c) : s = ⟨#[c]⟩ := by
  obtain ⟨a⟩ := s
  unfold sign1 at h
  split at h
  · rename_i c' e
    cases h
    have : a = [c].toArray := by rw [← Array.toArray_toList (xs := a)]; exact congrArg List.toArray e
    rw [this]
  · cases h
def inB (S : Store) (d e : D) : Option Bool := match view S e with
  | .dct kvs => (keyOf d).map fun k => (lookK kvs k).isSome
  | .lst xs => if flatD d && xs.all flatD then some (xs.any fun y => eqF y d) else none
  | .tup xs => if flatD d && xs.all flatD then some (xs.any fun y => eqF y d) else none
  | .str t => (match d with
    | .str s => (sign1 s).map fun c => decide (c ∈ t.cps.toList)
    | _ => none)
  | _ => none
/-- .. data of any depth in a list -/
def inDp (S : Store) (d e : D) : Option Bool := match pyOf S d, pyOf S e with
  | some p, some (.list qs) => some (qs.any fun z => PyData.eqv z p)
  | _, _ => none
def inD : F2 := fun d e S => match inB S d e with
  | some b => fine (.bl b) S
  | none => (match inDp S d e with
    | some b => fine (.bl b) S
    | none => .bad)
def ninD : F2 := fun d e S => match inB S d e with
  | some b => fine (.bl (!b)) S
  | none => (match inDp S d e with
    | some b => fine (.bl (!b)) S
    | none => .bad)
def rInAll (K : PySem.W.Frag) (neg : Bool) : R2 := fun x y H Q => rIn K neg x y H Q ∨ ((∃ (c : Nat) (z : Str), x = .str ⟨#[c]⟩ ∧ y = .str z ∧ Q (.bl (if neg then !decide (c ∈ z.cps.toList) else decide (c ∈ z.cps.toList))) H) ∨
  ∃ (a : Addr) (kvs : List (Key × V)) (k : Key), x = kV k ∧ y = .ref a ∧ Rd H a (.dK kvs) ∧ Q (.bl (if neg then !(valV kvs k).isSome else (valV kvs k).isSome)) H)
theorem or_dIn {X : Cx} (hu : X.A.units + 1 < cLine) : OpR X (compareOp .In) (fun x y H Q => ∃ (a : Addr) (kvs : List (Key × V)) (k : Key), x = kV k ∧ y = .ref a ∧ Rd H a (.dK kvs) ∧ Q (.bl (valV kvs k).isSome) H) := by
  intro pins s σ H x y v u Q I rx ry h
  obtain ⟨a, kvs, k, rfl, rfl, ha, q⟩ := h
  cases ry
  exact d_in hu I (.inl ⟨kvs, k, ha, rfl, rfl⟩) rx fun s3 I3 => ⟨.bl _, H, I3, rfl, q⟩
theorem or_dNotIn {X : Cx} (hu : X.A.units + 1 < cLine) : OpR X (compareOp .NotIn) (fun x y H Q => ∃ (a : Addr) (kvs : List (Key × V)) (k : Key), x = kV k ∧ y = .ref a ∧ Rd H a (.dK kvs) ∧ Q (.bl (!(valV kvs k).isSome)) H) := by
  intro pins s σ H x y v u Q I rx ry h
  obtain ⟨a, kvs, k, rfl, rfl, ha, q⟩ := h
  cases ry
  exact d_notIn hu I (.inl ⟨kvs, k, ha, rfl, rfl⟩) rx fun s3 I3 => ⟨.bl _, H, I3, rfl, q⟩
theorem or_in {X : Cx} (hu : X.A.units + 1 < cLine) : OpR X (compareOp .In) (rInAll X.K false) := op_in_seq.or (op_in_sign.or (or_dIn hu))
theorem or_nin {X : Cx} (hu : X.A.units + 1 < cLine) : OpR X (compareOp .NotIn) (rInAll X.K true) := op_notIn_seq.or (op_notIn_sign.or (or_dNotIn hu))
theorem snd_inAll {K : PySem.W.Frag} {neg : Bool} : Snd2 K (fun d e S => match inB S d e with
  | some b => fine (.bl (if neg then !b else b)) S
  | none => .bad) (rInAll K neg) := by
  intro En F R E S σ H W Q d e x y rel rx ry p
  cases hb : inB S d e with
  | none => simp only [hb] at p; exact p.elim
  | some b =>
    simp only [hb] at p
    unfold inB at hb
    split at hb
    · rename_i kvs e1
      obtain ⟨l, ks, rfl, h1, r1⟩ := view_dct rel ry e1
      cases hk : keyOf d with
      | none => rw [hk] at hb; cases hb
      | some k =>
        rw [hk] at hb
        cases hb
        obtain rfl := keyOf_ok rx hk
        exact .inr (.inr ⟨l, ks, k, rfl, rfl, h1, by rw [lookK_none r1]; exact Post.got p rel (.bl _)⟩)
    · rename_i xs e1
      obtain ⟨l, vs, rfl, h1, r1⟩ := view_lst rel ry e1
      split at hb
      · rename_i hf
        cases hb
        rw [Bool.and_eq_true] at hf
        refine .inl ⟨l, vs, rfl, .inl (.of h1), flat_rep rx hf.1, flats_rep r1 hf.2, ?_⟩
        rw [any_rep rx r1] at p
        exact Post.got p rel (.bl _)
      · cases hb
    · rename_i xs e1
      obtain ⟨l, vs, rfl, h1, r1⟩ := view_tup rel ry e1
      split at hb
      · rename_i hf
        cases hb
        rw [Bool.and_eq_true] at hf
        refine .inl ⟨l, vs, rfl, .inr h1, flat_rep rx hf.1, flats_rep r1 hf.2, ?_⟩
        rw [any_rep rx r1] at p
        exact Post.got p rel (.bl _)
      · cases hb
    · rename_i t e1
      have e1 := view_str e1
      subst e1
      cases ry
      split at hb
      · rename_i s
        cases rx
        cases hs : sign1 s with
        | none => rw [hs] at hb; cases hb
        | some c =>
          rw [hs] at hb
          cases hb
          exact .inr (.inl ⟨c, t, congrArg V.str (sign1_ok hs), rfl, Post.got p rel (.bl _)⟩)
      · cases hb
    · cases hb
section
variable {G : Gs} {k : Nat} {N : List Str} {sc : Scope} {a b c : Expr} {ma mb mc : M DV} {pos : Pos}
theorem hu65 {A : Around} (r : Room k A) : A.units + 65 < cLine := by have := r.un; omega
theorem inDp_ok {K : PySem.W.Frag} {En : Ent} {F : Hp} {R : List Addr} {E : Ev} {S : Store} {σ : L2.St} {H : Hp} (rel : Rel K En F R E S σ H) {d e : D} {x y : V} {b : Bool} (rx : Rep K F R d x) (ry : Rep K F R e y) (h : inDp S d e = some b) :
    ∃ p ds, Dp K H x p ∧ Dp K H y (.list ds) ∧ SeqAt.shaped p = true ∧ SeqAt.shaped (.list ds) = true ∧ b = ds.any fun z => PyData.eqv z p := by
  unfold inDp at h
  split at h
  · rename_i p qs e1 e2
    cases h
    obtain ⟨d1, s1⟩ := pyOf_ok rel rx e1
    obtain ⟨d2, s2⟩ := pyOf_ok rel ry e2
    exact ⟨p, qs, d1, d2, s1, s2, rfl⟩
  · cases h
theorem cr_in : CmpRule G k N sc .In inD := ⟨_, fun En F R E S σ H W Q d e x y rel rx ry p => by
    unfold inD at p
    cases hb : inB S d e with
    | some b =>
      rw [hb] at p
      refine .inl (snd_inAll (neg := false) En F R E S σ H W Q d e x y rel rx ry ?_)
      dsimp only
      rw [hb]
      exact p
    | none =>
      rw [hb] at p
      cases hc : inDp S d e with
      | none => rw [hc] at p; exact p.elim
      | some b =>
        rw [hc] at p
        obtain ⟨q, ds, h1, h2, h3, h4, rfl⟩ := inDp_ok rel rx ry hc
        exact .inr ⟨q, ds, h1, h2, h3, h4, Post.got p rel (.bl _)⟩, fun X c => c.cK ▸ (or_in (hu_of c.croom)).or (op_inD (hu65 c.croom))⟩
theorem cr_nin : CmpRule G k N sc .NotIn ninD := ⟨_, fun En F R E S σ H W Q d e x y rel rx ry p => by
    unfold ninD at p
    cases hb : inB S d e with
    | some b =>
      rw [hb] at p
      refine .inl (snd_inAll (neg := true) En F R E S σ H W Q d e x y rel rx ry ?_)
      dsimp only
      rw [hb]
      exact p
    | none =>
      rw [hb] at p
      cases hc : inDp S d e with
      | none => rw [hc] at p; exact p.elim
      | some b =>
        rw [hc] at p
        obtain ⟨q, ds, h1, h2, h3, h4, rfl⟩ := inDp_ok rel rx ry hc
        exact .inr ⟨q, ds, h1, h2, h3, h4, Post.got p rel (.bl _)⟩, fun X c => c.cK ▸ (or_nin (hu_of c.croom)).or (op_notInD (hu65 c.croom))⟩
theorem de_ix (ha : DE G k N sc a ma) (hb : DE G k N sc b mb) (hs : PlainIx b := by intro _ _; rfl) : DE G k N sc (.Subscript a b pos) (mBin ixD ma mb) :=
  ⟨fun X W c tk => pe_imp (pe_ix (c.cK ▸ or_ix (hu_of c.croom)) (ha.run X W c tk) (hb.run X W c tk) hs) fun σ H Q h => two_of snd_ix h⟩

/-! ### slices -/
def cutD (xs : List D) (lo hi : Option Int) : List D := (xs.drop (HT.sIx xs.length 0 lo)).take (HT.sIx xs.length xs.length hi - HT.sIx xs.length 0 lo)
theorem cut_rep {K : PySem.W.Frag} {F : Hp} {R : List Addr} {ds : List D} {vs : List V} (r : Reps K F R ds vs) (lo hi : Option Int) : Reps K F R (cutD ds lo hi) (cutV vs lo hi) := by
  unfold cutD cutV
  rw [r.length]
  exact (r.drop _).take _
def slD (d : D) (lo hi : Option Int) (S : Store) : Res DV := match view S d with
  | .lst xs => .ok (.ol (cutD xs lo hi)) S
  | .scr xs => .ok (.ol (cutD xs lo hi)) S
  | .tup xs => fine (.tup (cutD xs lo hi)) S
  | .str s => if small s.length then fine (.str (cutS s lo hi)) S else .bad
  | _ => .bad
def rSlAll (K : PySem.W.Frag) : V → Option Int → Option Int → Hp → VK → Prop := fun x lo hi H Q => rSlL K x lo hi H Q ∨ (rSlA K x lo hi H Q ∨ ∃ z, x = .str z ∧ z.length ≤ sizeLine ∧ Q (.str (cutS z lo hi)) H)
/-- a slice's part -/
def mNo : M (Option Int) := fun _ S => .ok none S
def mPart (m : M DV) : M (Option Int) := bnd m fun x _ S => match x with
  | .val (.int i) => .ok (some i) S
  | _ => .bad
def tO (K : PySem.W.Frag) (m : M (Option Int)) (W : WX) : TO := fun σ H Q => ∃ (En : Ent) (F : Hp) (R : List Addr) (E : Ev) (S : Store), Rel K En F R E S σ H ∧ PostX K En F R E σ W (fun _ _ H' b _ => Q b H') (m E S)
structure DO (G : Gs) (k : Nat) (N : List Str) (sc : Scope) (e : Option Expr) (m : M (Option Int)) : Prop where
  run : ∀ (X : Cx) (W : WX), CtxE G k N sc X → Takes X W → PO X e (tO G.K m W)
theorem do_none : DO G k N sc none mNo := ⟨fun X W c tk => ⟨fun pins s σ H Q I h => po_none.run pins s σ H Q I (by
  obtain ⟨En, F, R, E, S, rel, h⟩ := h
  exact h F R H Le.refl rel)⟩⟩
theorem do_some (h : DE G k N sc a ma) : DO G k N sc (some a) (mPart ma) := ⟨fun X W c tk => ⟨fun pins s σ H Q I q => (po_some (h.run X W c tk)).run pins s σ H Q I (by
  obtain ⟨En, F, R, E, S, rel, q⟩ := q
  refine ⟨En, F, R, E, S, rel, (post_bnd q).imp fun F1 R1 H1 dv S1 le rel1 q v hv => ?_⟩
  cases dv with
  | val d => cases d with
    | int i =>
      cases hv
      exact ⟨i, rfl, q F1 R1 H1 Le.refl rel1⟩
    | _ => exact q.elim
  | _ => exact q.elim)⟩⟩
def mSl (m : M DV) (lo hi : M (Option Int)) : M DV := bnd m fun x => bnd lo fun l => bnd hi fun u _ S => slD x.frz l u S
theorem snd_sl {K : PySem.W.Frag} {En : Ent} {F : Hp} {R : List Addr} {E : Ev} {S : Store} {σ : L2.St} {H : Hp} {W : WX} {Q : VK} {d : D} {x : V} {l u : Option Int} (rel : Rel K En F R E S σ H) (rx : Rep K F R d x) (p : Post K En F R E σ W Q (slD d l u S)) : rSlAll K x l u H Q := by
  unfold slD at p
  split at p
  · rename_i xs e1
    obtain ⟨a, vs, rfl, h1, r1⟩ := view_lst rel rx e1
    exact .inl ⟨a, vs, rfl, .of h1, fun q hq => Post.ol p rel (cut_rep r1 l u) hq⟩
  · rename_i xs e1
    obtain ⟨a, vs, rfl, h1, r1⟩ := view_scr rel rx e1
    exact .inl ⟨a, vs, rfl, h1, fun q hq => Post.ol p rel (cut_rep r1 l u) hq⟩
  · rename_i xs e1
    obtain ⟨a, vs, rfl, h1, r1⟩ := view_tup rel rx e1
    refine .inr (.inl ⟨a, vs, rfl, h1, fun hw => ?_, fun _ q hq => Post.tup p rel (cut_rep r1 l u) hq⟩)
    have e2 : cutD xs l u = xs := by
      unfold cutD
      rw [r1.length, hw.1, hw.2, List.drop_zero, Nat.sub_zero, ← r1.length, List.take_length]
    rw [e2] at p
    have e1' : d = .tup xs := by
      cases rx with
      | ref hk =>
        rename_i kk
        cases hs : S[kk]? with
        | none => simp only [view, hs] at e1; cases e1
        | some c => cases c <;> (simp only [view, hs] at e1; cases e1)
      | _ => exact e1
    subst e1'
    exact Post.got p rel rx
  · rename_i s e1
    have e1 := view_str e1
    subst e1
    cases rx
    split at p
    · rename_i hz
      exact .inr (.inr ⟨s, rfl, of_decide_eq_true hz, Post.got p rel (.str _)⟩)
    · exact p.elim
  · exact p.elim
theorem de_sl {lo hi : Option Expr} {ml mh : M (Option Int)} {p2 : Pos} (ha : DE G k N sc a ma) (hl : DO G k N sc lo ml) (hh : DO G k N sc hi mh) : DE G k N sc (.Subscript a (.Slice lo hi none p2) pos) (mSl ma ml mh) :=
  ⟨fun X W c tk => pe_imp (pe_slice (c.cK ▸ (sl_list.or (sl_tupA.or sl_str) : SlR X (rSlAll X.K))) (ha.run X W c tk) (hl.run X W c tk) (hh.run X W c tk)) fun σ H Q h => by
    obtain ⟨En, F, R, E, S, rel, h⟩ := h
    refine tD_then rel h fun F1 R1 H1 dv v S1 le rel1 rp h1 => ?_
    refine ⟨En, F1, R1, E, S1, rel1, (post_bnd h1).imp fun F2 R2 H2 l S2 le2 rel2 h2 => ?_⟩
    refine ⟨En, F2, R2, E, S2, rel2, (post_bnd h2).imp fun F3 R3 H3 u S3 le3 rel3 h3 => ?_⟩
    exact snd_sl rel3 (rp.mono (le2.trans le3) _ _) h3⟩

/-! ### truth -/
def truB (S : Store) (d : D) : Option Bool := match view S d with
  | .non => some false
  | .bl b => some b
  | .int i => some (i != 0)
  | .str s => if small s.length then some ((s.length : Int) != 0) else none
  | .lst xs => some (!xs.isEmpty)
  | .tup xs => some (!xs.isEmpty)
  | .dct xs => some (!xs.isEmpty)
  | _ => none
theorem reps_empty {K : PySem.W.Frag} {F : Hp} {R : List Addr} {ds : List D} {vs : List V} (r : Reps K F R ds vs) : ds.isEmpty = vs.isEmpty := by cases r <;> rfl
theorem repK_empty {K : PySem.W.Frag} {F : Hp} {R : List Addr} {ds : List (Key × D)} {vs : List (Key × V)} (r : RepK K F R ds vs) : ds.isEmpty = vs.isEmpty := by cases r <;> rfl
/-- a value's truth; of a dict locked too -/
def TruW (K : PySem.W.Frag) (x : V) (H : Hp) (b : Bool) : Prop := TruV K x H b ∨ ∃ (p : Addr) (ks : List (Key × V)), x = .ref p ∧ Rd H p (.dK ks) ∧ b = !ks.isEmpty
theorem truW_ok {X : Cx} : TruR X (fun x H Q => ∃ k, TruW X.K x H k ∧ Q k H) := by
  intro pins s σ H x v Q I rx h
  obtain ⟨k, e, q⟩ := h
  rcases e with e | ⟨p, kvs, rfl, hd, e⟩
  · exact tru_ok pins s σ H x v Q I rx ⟨k, e, q⟩
  · cases rx
    subst e
    obtain ⟨hz, hS, vs, r, m⟩ := dk_rd I.hok hd
    have hlen : kvs.length = vs.length := Paired.length r
    have hs : sizeLine = 16777216 := sizeLine_eq
    exact wpAny_truthy_dict hS m (by omega) ⟨H, I.tok _, by rw [isEmpty_kv r]; exact q⟩
theorem pt_truthW {X : Cx} {a : Expr} {ta : TE} (ha : PE X a ta) (he : ∀ whole, isTrue a X.env whole = (do let v ← whole; standAt a.pos; holding [v] (truthy v))) :
    PT X a (fun σ H Q => ta σ H fun x H' => ∃ k, TruW X.K x H' k ∧ Q k H') := by
  refine ⟨fun pins s σ H Q I h => ?_⟩
  exact PyProof.Rows.isTrue_plain (thn (ha.run pins s σ H _ I h) fun v s1 ⟨x, H1, I1, r1, q1⟩ => truW_ok pins s1 σ H1 x v Q I1 r1 q1) (he _)
def tOrW (K : PySem.W.Frag) (ta tb : TE) : TE := fun σ H Q => ta σ H fun x H1 => ∃ k, TruW K x H1 k ∧ if k = true then Q x H1 else tb σ H1 Q
def tAndW (K : PySem.W.Frag) (ta tb : TE) : TE := fun σ H Q => ta σ H fun x H1 => ∃ k, TruW K x H1 k ∧ if k = true then tb σ H1 Q else Q x H1
section
variable {X : Cx} {a b : Expr} {ta tb : TE} {rest : List Expr} {pos : Pos}
theorem pe_orW (ha : PE X a ta) (hb : PE X (.BoolOp .Or (b :: rest) pos) tb) : PE X (.BoolOp .Or (a :: b :: rest) pos) (tOrW X.K ta tb) := by
  refine ⟨fun pins s σ H Q I h => ?_⟩
  refine PyProof.Rows.BoolOp_or (thn (ha.run pins s σ H _ I h) fun v s1 ⟨x, H1, I1, r1, q1⟩ => ?_)
  obtain ⟨k, e, q1⟩ := q1
  refine thn (truW_ok pins s1 σ H1 x v (fun c H2 => c = k ∧ H2 = H1) I1 r1 ⟨k, e, rfl, rfl⟩) fun c s2 hc => ?_
  obtain ⟨H2, I2, e1, e2⟩ := hc
  rw [e2] at I2
  rw [← e1] at q1
  cases c with
  | true => exact ⟨x, H1, I2, r1, q1⟩
  | false => exact hb.run pins s2 σ H1 Q I2 q1
theorem pe_andW (ha : PE X a ta) (hb : PE X (.BoolOp .And (b :: rest) pos) tb) : PE X (.BoolOp .And (a :: b :: rest) pos) (tAndW X.K ta tb) := by
  refine ⟨fun pins s σ H Q I h => ?_⟩
  refine PyProof.Rows.BoolOp_and (thn (ha.run pins s σ H _ I h) fun v s1 ⟨x, H1, I1, r1, q1⟩ => ?_)
  obtain ⟨k, e, q1⟩ := q1
  refine thn (truW_ok pins s1 σ H1 x v (fun c H2 => c = k ∧ H2 = H1) I1 r1 ⟨k, e, rfl, rfl⟩) fun c s2 hc => ?_
  obtain ⟨H2, I2, e1, e2⟩ := hc
  rw [e2] at I2
  rw [← e1] at q1
  cases c with
  | true => exact hb.run pins s2 σ H1 Q I2 q1
  | false => exact ⟨x, H1, I2, r1, q1⟩
def tNotW (K : PySem.W.Frag) (ta : TE) : TE := fun σ H Q => ta σ H fun x H1 => ∃ k, TruW K x H1 k ∧ Q (.bl (!k)) H1
theorem pe_notW (ha : PE X a ta) : PE X (.UnaryOp .Not a pos) (tNotW X.K ta) := by
  refine ⟨fun pins s σ H Q I h => ?_⟩
  refine PyProof.Rows.UnaryOp_ (thn (ha.run pins s σ H _ I h) fun v s1 ⟨x, H1, I1, r1, q1⟩ => ?_)
  obtain ⟨k, e, q1⟩ := q1
  exact PyProof.Rows.not_of (thn (truW_ok pins s1 σ H1 x v (fun c H2 => Q (.bl (!c)) H2) I1 r1 ⟨k, e, q1⟩) fun c s2 ⟨H2, I2, q2⟩ => ⟨.bl (!c), H2, I2, rfl, q2⟩)
end
theorem truB_ok {K : PySem.W.Frag} {En : Ent} {F : Hp} {R : List Addr} {E : Ev} {S : Store} {σ : L2.St} {H : Hp} (rel : Rel K En F R E S σ H) {d : D} {x : V} {b : Bool} (r : Rep K F R d x) (e : truB S d = some b) : TruW K x H b := by
  unfold truB at e
  split at e
  · rename_i e1
    have e1 := view_non e1; subst e1; cases r; cases e; exact .inl rfl
  · rename_i e1
    have e1 := view_bl e1; subst e1; cases r; cases e; exact .inl rfl
  · rename_i e1
    have e1 := view_int e1; subst e1; cases r; cases e; exact .inl rfl
  · rename_i e1
    have e1 := view_str e1; subst e1; cases r
    split at e
    · rename_i hz
      cases e
      exact .inl ⟨of_decide_eq_true hz, rfl⟩
    · cases e
  · rename_i e1
    obtain ⟨a, vs, rfl, h1, r1⟩ := view_lst rel r e1
    cases e
    exact .inl (.inl ⟨vs, .of h1, by rw [reps_empty r1]⟩)
  · rename_i e1
    obtain ⟨a, vs, rfl, h1, r1⟩ := view_tup rel r e1
    cases e
    exact .inl (.inr (.inl ⟨vs, h1, by rw [reps_empty r1]⟩))
  · rename_i e1
    obtain ⟨a, vs, rfl, h1, r1⟩ := view_dct rel r e1
    cases e
    exact .inr ⟨a, vs, rfl, h1, by rw [repK_empty r1]⟩
  · cases e
def mTru (m : M DV) : M Bool := bnd m fun x _ S => match truB S x.frz with
  | some b => .ok b S
  | none => .bad
/-- any expression whose test is its value's truth -/
theorem dt_tru (ha : DE G k N sc a ma) (he : ∀ env whole, isTrue a env whole = (do let v ← whole; standAt a.pos; holding [v] (truthy v)) := by intro _ _; rfl) : DT G k N sc a (mTru ma) :=
  ⟨fun X W c tk => pt_imp (pt_truthW (ha.run X W c tk) (he _)) fun σ H Q h => by
    obtain ⟨En, F, R, E, S, rel, h⟩ := h
    refine tD_then rel h fun F1 R1 H1 dv v S1 le rel1 rp h1 => ?_
    cases q : truB S1 dv.frz with
    | none => simp only [q] at h1; exact h1.elim
    | some b =>
      simp only [q] at h1
      exact ⟨b, by rw [c.cK]; exact truB_ok rel1 rp q, h1 F1 R1 H1 Le.refl rel1⟩⟩

/-! ### and, or, not, if -/
def mAnd (a b : M Bool) : M Bool := bnd a fun x => if x then b else fun _ S => .ok false S
def mOr (a b : M Bool) : M Bool := bnd a fun x => if x then (fun _ S => .ok true S) else b
def mNot (a : M Bool) : M Bool := bnd a fun x _ S => .ok (!x) S
/-- a test whatever its whole is -/
structure DW (G : Gs) (k : Nat) (N : List Str) (sc : Scope) (e : Expr) (m : M Bool) : Prop where
  run : ∀ (X : Cx) (W : WX), CtxE G k N sc X → Takes X W → PW X e (tT G.K m W)
variable {ta tb : M Bool} {rest : List Expr}
theorem tT_then {K : PySem.W.Frag} {En : Ent} {F : Hp} {R : List Addr} {E : Ev} {S : Store} {σ : L2.St} {H : Hp} {W : WX} {α : Type} {m : M Bool} {f : Bool → M α} {ok : Hp → List Addr → Hp → α → Store → Prop} {kk : Bool → Hp → Prop} (rel : Rel K En F R E S σ H) (h : PostX K En F R E σ W ok (bnd m f E S))
    (hk : ∀ F1 R1 H1 b S1, Le F R F1 R1 → Rel K En F1 R1 E S1 σ H1 → PostX K En F1 R1 E σ W ok (f b E S1) → kk b H1) : tT K m W σ H kk :=
  ⟨En, F, R, E, S, rel, (post_bnd h).imp fun F1 R1 H1 b S1 le rel1 q => hk F1 R1 H1 b S1 le rel1 q⟩
theorem dw_and1 (ha : DT G k N sc a ta) : DW G k N sc (.BoolOp .And [a] pos) ta := ⟨fun X W c tk => pw_and1 (ha.run X W c tk)⟩
theorem dw_or1 (ha : DT G k N sc a ta) : DW G k N sc (.BoolOp .Or [a] pos) ta := ⟨fun X W c tk => pw_or1 (ha.run X W c tk)⟩
theorem dw_and (ha : DT G k N sc a ta) (hb : DW G k N sc (.BoolOp .And (b :: rest) pos) tb) : DW G k N sc (.BoolOp .And (a :: b :: rest) pos) (mAnd ta tb) :=
  ⟨fun X W c tk => pw_imp (pw_and (ha.run X W c tk) (hb.run X W c tk)) fun σ H Q h => by
    obtain ⟨En, F, R, E, S, rel, h⟩ := h
    refine tT_then rel h fun F1 R1 H1 x S1 le rel1 h1 => ?_
    cases x with
    | true => exact iteT ⟨En, F1, R1, E, S1, rel1, h1⟩
    | false => exact iteF (h1 F1 R1 H1 Le.refl rel1)⟩
theorem dw_or (ha : DT G k N sc a ta) (hb : DW G k N sc (.BoolOp .Or (b :: rest) pos) tb) : DW G k N sc (.BoolOp .Or (a :: b :: rest) pos) (mOr ta tb) :=
  ⟨fun X W c tk => pw_imp (pw_or (ha.run X W c tk) (hb.run X W c tk)) fun σ H Q h => by
    obtain ⟨En, F, R, E, S, rel, h⟩ := h
    refine tT_then rel h fun F1 R1 H1 x S1 le rel1 h1 => ?_
    cases x with
    | true => exact iteT (h1 F1 R1 H1 Le.refl rel1)
    | false => exact iteF ⟨En, F1, R1, E, S1, rel1, h1⟩⟩
theorem dt_bool {e : Expr} {t : M Bool} (h : DW G k N sc e t) : DT G k N sc e t := ⟨fun X W c tk => (h.run X W c tk).pt⟩
theorem dt_not (ha : DT G k N sc a ta) : DT G k N sc (.UnaryOp .Not a pos) (mNot ta) :=
  ⟨fun X W c tk => pt_imp (pt_not (ha.run X W c tk)) fun σ H Q h => by
    obtain ⟨En, F, R, E, S, rel, h⟩ := h
    exact tT_then rel h fun F1 R1 H1 x S1 le rel1 h1 => h1 F1 R1 H1 Le.refl rel1⟩
def mIf (t : M Bool) (a b : M DV) : M DV := bnd t fun x => if x then a else b
theorem de_if {e : Expr} (ht : DT G k N sc e ta) (ha : DE G k N sc a ma) (hb : DE G k N sc b mb) : DE G k N sc (.IfExp e a b pos) (mIf ta ma mb) :=
  ⟨fun X W c tk => pe_imp (pe_ifExp (ht.run X W c tk) (ha.run X W c tk) (hb.run X W c tk)) fun σ H Q h => by
    obtain ⟨En, F, R, E, S, rel, h⟩ := h
    refine tT_then rel h fun F1 R1 H1 x S1 le rel1 h1 => ?_
    cases x with
    | true => exact iteT ⟨En, F1, R1, E, S1, rel1, h1⟩
    | false => exact iteF ⟨En, F1, R1, E, S1, rel1, h1⟩⟩
/-- not e as a value, by truth -/
def mNotV (m : M DV) : M DV := bnd m fun x _ S => match truB S x.frz with
  | some b => fine (.bl (!b)) S
  | none => .bad
theorem de_not (ha : DE G k N sc a ma) : DE G k N sc (.UnaryOp .Not a pos) (mNotV ma) :=
  ⟨fun X W c tk => pe_imp (pe_notW (ha.run X W c tk)) fun σ H Q h => by
    obtain ⟨En, F, R, E, S, rel, h⟩ := h
    refine tD_then rel h fun F1 R1 H1 dv v S1 le rel1 rp h1 => ?_
    cases q : truB S1 dv.frz with
    | none => simp only [q] at h1; exact h1.elim
    | some b =>
      simp only [q] at h1
      exact ⟨b, by rw [c.cK]; exact truB_ok rel1 rp q, Post.got h1 rel1 (.bl _)⟩⟩
/-- x or y, x and y as values, by truth -/
def mOrV (a b : M DV) : M DV := bnd a fun x E S => match truB S x.frz with
  | some true => fine x.frz S
  | some false => b E S
  | none => .bad
def mAndV (a b : M DV) : M DV := bnd a fun x E S => match truB S x.frz with
  | some false => fine x.frz S
  | some true => b E S
  | none => .bad
theorem de_one {op : BoolOp} (ha : DE G k N sc a ma) : DE G k N sc (.BoolOp op [a] pos) ma := ⟨fun X W c tk => pe_one (ha.run X W c tk)⟩
theorem de_or (ha : DE G k N sc a ma) (hb : DE G k N sc (.BoolOp .Or (b :: rest) pos) mb) : DE G k N sc (.BoolOp .Or (a :: b :: rest) pos) (mOrV ma mb) :=
  ⟨fun X W c tk => pe_imp (pe_orW (ha.run X W c tk) (hb.run X W c tk)) fun σ H Q h => by
    obtain ⟨En, F, R, E, S, rel, h⟩ := h
    refine tD_then rel h fun F1 R1 H1 dv v S1 le rel1 rp h1 => ?_
    cases q : truB S1 dv.frz with
    | none => simp only [q] at h1; exact h1.elim
    | some b =>
      refine ⟨b, by rw [c.cK]; exact truB_ok rel1 rp q, ?_⟩
      cases b with
      | true => simp only [q] at h1; exact iteT (Post.got h1 rel1 rp)
      | false => simp only [q] at h1; exact iteF ⟨En, F1, R1, E, S1, rel1, h1⟩⟩
theorem de_and (ha : DE G k N sc a ma) (hb : DE G k N sc (.BoolOp .And (b :: rest) pos) mb) : DE G k N sc (.BoolOp .And (a :: b :: rest) pos) (mAndV ma mb) :=
  ⟨fun X W c tk => pe_imp (pe_andW (ha.run X W c tk) (hb.run X W c tk)) fun σ H Q h => by
    obtain ⟨En, F, R, E, S, rel, h⟩ := h
    refine tD_then rel h fun F1 R1 H1 dv v S1 le rel1 rp h1 => ?_
    cases q : truB S1 dv.frz with
    | none => simp only [q] at h1; exact h1.elim
    | some b =>
      refine ⟨b, by rw [c.cK]; exact truB_ok rel1 rp q, ?_⟩
      cases b with
      | true => simp only [q] at h1; exact iteT ⟨En, F1, R1, E, S1, rel1, h1⟩
      | false => simp only [q] at h1; exact iteF (Post.got h1 rel1 rp)⟩
/-- -e -/
def negD : F1 := fun d S => match d with
  | .int i => fine (.int (-i)) S
  | _ => .bad
theorem de_neg (ha : DE G k N sc a ma) : DE G k N sc (.UnaryOp .USub a pos) (mUn negD ma) :=
  ⟨fun X W c tk => pe_imp (pe_un un_neg (ha.run X W c tk)) fun σ H Q h => by
    obtain ⟨En, F, R, E, S, rel, h⟩ := h
    refine tD_then rel h fun F1 R1 H1 dv v S1 le rel1 rp h1 => ?_
    cases q : dv.frz <;> (rw [q] at h1 rp; try exact h1.elim)
    cases rp
    exact ⟨_, rfl, Post.got h1 rel1 (.int _)⟩⟩
end
end Hm
set_option Elab.async false
set_option linter.all false
set_option maxRecDepth 100000
set_option maxHeartbeats 2000000
namespace Hm
open PySem PySem.Spec L2

section
variable {K : PySem.W.Frag} {En : Ent} {F F' : Hp} {R R' : List Addr} {E E' : Ev} {S S' : Store} {σ σ' : L2.St} {H H' : Hp} {W : WX}
/-! ### into a call, out of it -/
/-- the slots are let go -/
theorem Rel.drop (r : Rel K En F R E S σ H) : Rel K En F R [] S [] H :=
  ⟨r.len, r.frz, r.nodup, r.cell, fun i dv e => by simp at e, fun i j x y a e => by simp at e, r.keep, r.nf, r.nr, rfl⟩
theorem Rel.enter (r : Rel K En F R E S σ H) : Rel K ⟨H, F, R⟩ F R [] S [] H :=
  ⟨r.len, r.frz, r.nodup, r.cell, fun i dv e => by simp at e, fun i j x y a e => by simp at e, fun _ _ h _ _ => h, fun _ _ _ h => h, fun _ _ _ h => h, rfl⟩
theorem Rel.some_of (r : Rel K En F R E S σ H) {a : Addr} {o : HO} (h : En.H a = some o) : ∃ u, H a = some u := by
  by_cases m : a ∈ R
  · obtain ⟨_, _, _, _, q, _⟩ := r.cellOf m
    exact q.there
  · cases f : F a with
    | none => exact ⟨o, r.keep a o h m f⟩
    | some u => exact ⟨u, r.frz a u f⟩
theorem Rel.leave (r : Rel K En F R E S σ H) (le : Le F R F' R') (q : Rel K ⟨H, F, R⟩ F' R' E' S' σ' H') : Rel K En F' R' E S' σ H' := by
  have nr : ∀ {a : Addr} {u : HO}, H a = some u → a ∉ R → a ∉ R' := fun {a u} h n m => n (q.nr a u h m)
  refine ⟨q.len, q.frz, q.nodup, q.cell, fun i dv e => ?_, r.apart, fun a o e n f => ?_, fun a o e f => ?_, fun a o e m => ?_, r.elen⟩
  · refine (r.slot i dv e).mono le fun a ea ow f1 f2 f3 => ?_
    have hs : ∃ u, H a = some u := by
      have z := r.slot i dv e
      cases dv with
      | val d => cases ow
      | ol ds =>
        obtain ⟨b, eb, ⟨vs, ho, _⟩, _⟩ := z
        rw [ea] at eb; cases eb
        exact ⟨_, ho⟩
      | od ds =>
        obtain ⟨b, eb, ⟨vs, ho, _⟩, _⟩ := z
        rw [ea] at eb; cases eb
        exact ⟨_, ho⟩
    obtain ⟨u, hu⟩ := hs
    have n := nr hu f2
    have f' := q.nf a u hu f1
    exact ⟨(q.keep a u hu n f').trans hu.symm, f', n⟩
  · have n2 : a ∉ R := fun m => n (by
      obtain ⟨k, hk⟩ := List.mem_iff_getElem?.mp m
      exact List.mem_of_getElem? (le.r k a hk))
    exact q.keep a o (r.keep a o e n2 (le.none_of f)) n f
  · obtain ⟨u, hu⟩ := r.some_of e
    exact q.nf a u hu (r.nf a o e f)
  · obtain ⟨u, hu⟩ := r.some_of e
    exact r.nr a o e (q.nr a u hu m)
theorem Val.leave (r : Rel K En F R E S σ H) {v : V} {dv : DV} (q : Val K ⟨H, F, R⟩ F' R' E' σ' H' v dv) : Val K En F' R' E σ H' v dv := by
  have no : ∀ {a : Addr}, H a = none → En.H a = none ∧ ¬ OwnSlot E σ a := fun {a} h => ⟨(r.fresh h).2.2.1, (r.fresh h).2.2.2⟩
  cases dv with
  | val d => exact q
  | ol ds =>
    obtain ⟨a, e, o, f1, f2, f3, _⟩ := q
    exact ⟨a, e, o, f1, f2, (no f3).1, (no f3).2⟩
  | od ds =>
    obtain ⟨a, e, o, f1, f2, f3, _⟩ := q
    exact ⟨a, e, o, f1, f2, (no f3).1, (no f3).2⟩
theorem Val.drop {v : V} {dv : DV} (q : Val K En F R E σ H v dv) : Val K En F R [] [] H v dv := by
  have no : ∀ a, ¬ OwnSlot [] [] a := fun a ⟨i, x, e, _⟩ => by simp at e
  cases dv with
  | val d => exact q
  | ol ds =>
    obtain ⟨a, e, o, f1, f2, f3, _⟩ := q
    exact ⟨a, e, o, f1, f2, f3, no a⟩
  | od ds =>
    obtain ⟨a, e, o, f1, f2, f3, _⟩ := q
    exact ⟨a, e, o, f1, f2, f3, no a⟩
end

/-! ### what a def promises -/
abbrev FD := List D → Store → Res DV
def spD (K : PySem.W.Frag) (n : Nat) (f : FD) : Sp := fun vs H Q E => vs.length = n ∧ ∃ (F : Hp) (R : List Addr) (S : Store) (ds : List D), Rel K ⟨H, F, R⟩ F R [] S [] H ∧ Reps K F R ds vs ∧ Post K ⟨H, F, R⟩ F R [] [] (fun c d _ H' => E c d H') Q (f ds S)
/-- the def at f keeps F, by at most level k; dfl: what its defaults bind behind the written arguments -/
structure FOk (G : Gs) (k : Nat) (f : Addr) (ps : List Str) (F : FD) : Prop where
  ex : ∃ fd, FnOk G.P G.w G.K G.mg G.base (L2.CX G.P G.w) k f fd ps (spD G.K ps.length F) ∧ Binds G.K fd ps []
  kp : PySem.W.keepIn G.K (.ref f) = true
theorem FOk.mono {G : Gs} {j k : Nat} {f : Addr} {ps : List Str} {F : FD} (h : FOk G j f ps F) (l : j ≤ k) : FOk G k f ps F := by
  obtain ⟨⟨fd, h1, h2⟩, h3⟩ := h
  exact ⟨⟨fd, h1.mono l, h2⟩, h3⟩
/-- a call's promise from the caller's state -/
theorem sp_call {K : PySem.W.Frag} {En : Ent} {F : Hp} {R : List Addr} {E : Ev} {S : Store} {σ : L2.St} {H : Hp} {W : WX} {Q : VK} {f : FD} {ds : List D} {vs : List V} {n : Nat} (hn : vs.length = n) (rel : Rel K En F R E S σ H) (rs : Reps K F R ds vs) (p : Post K En F R E σ W Q (f ds S)) :
    spD K n f vs H Q (WE W σ) := by
  refine ⟨hn, F, R, S, ds, rel.enter, rs, ?_⟩
  cases q : f ds S with
  | ok dv S1 =>
    rw [q] at p
    exact fun F1 R1 H1 le r1 v hv => p F1 R1 H1 le (rel.leave le r1) v (hv.leave rel)
  | ex c fs S1 =>
    rw [q] at p
    exact fun F1 R1 H1 d vfs le r1 hd rf => p F1 R1 H1 d vfs le (rel.leave le r1) hd rf
  | bad => rw [q] at p; exact p.elim
/-- a weaker (better told) function -/
def FLe (f g : FD) : Prop := ∀ ds S, g ds S = .bad ∨ f ds S = g ds S
theorem FOk.imp {G : Gs} {k : Nat} {f : Addr} {ps : List Str} {F F' : FD} (h : FOk G k f ps F) (le : ∀ ds S, F' ds S = .bad ∨ F ds S = F' ds S) : FOk G k f ps F' := by
  obtain ⟨⟨fd, h1, h2⟩, h3⟩ := h
  refine ⟨⟨fd, h1.imp fun vs H Q E ⟨hn, F0, R, S, ds, rel, rs, p⟩ => ⟨hn, F0, R, S, ds, rel, rs, ?_⟩, h2⟩, h3⟩
  rcases le ds S with e | e
  · rw [e] at p; exact p.elim
  · rw [e]; exact p

def mCall (f : FD) (n : Nat) (ms : M (List D)) : M DV := bnd ms fun ds _ S => if ds.length = n then f ds S else .bad
section
variable {G : Gs} {k : Nat} {N : List Str} {sc : Scope} {pos p : Pos} {ms : M (List D)}
theorem ctx_fn {X : Cx} (c : CtxE G k N sc X) {j : Nat} {f : Addr} {fd : FuncData} {ps : List Str} {sp : Sp} (h : FnOk G.P G.w G.K G.mg G.base (L2.CX G.P G.w) j f fd ps sp) : FnOk X.prog X.w X.K X.mg X.base (L2.CX X.prog X.w) j f fd ps sp := by
  rw [c.cP, c.cw, c.cK, c.cmg, c.cbase]; exact h
theorem de_call {e : Expr} {es : List Expr} {x : Str} {f : Addr} {ps : List Str} {F : FD} {j : Nat} (h : FOk G j f ps F) (hm : G.mg x = some (.ref f)) (ha : DA G k N sc (e :: es) ms) (hj : j ≤ k := by decide) (hg : sc.names.lookup x = some .globalImplicit := by rfl)
    (hdb : (x == ("__debug__" : Str)) = false := by decide) (he : ∀ env, starEach (e :: es) env = (false, eval e env) :: starEach es env := by intro _; rfl) (hpl : ∀ env, (backTo pos (starEach es env)).any (·.1) = false := by intro _; rfl) :
    DE G k N sc (.Call (.Name x p) (e :: es) [] pos) (mCall F ps.length ms) :=
  ⟨fun X W c tk => by
    obtain ⟨⟨fd, h1, h2⟩, h3⟩ := h
    refine pe_imp (pe_callS (ctx_fn c h1) (c.croom.mono hj) (gl_of c hg) (by rw [c.cmg]; exact hm) (by rw [c.cK]; exact h3) (by rw [c.cK]; exact h2) (fun σ => passAt tk σ) (ha.run X W c tk) hdb (he _) (hpl _)) fun σ H Q q => ?_
    obtain ⟨En, F0, R, E, S, rel, q⟩ := q
    refine tA_then rel q fun F1 R1 H1 ds vs S1 le rel1 rs h1 => ?_
    split at h1
    · rename_i hl
      exact sp_call (by rw [← rs.length]; exact hl) rel1 rs h1
    · exact h1.elim⟩
theorem de_call0 {x : Str} {f : Addr} {F : FD} {j : Nat} (h : FOk G j f [] F) (hm : G.mg x = some (.ref f)) (hj : j ≤ k := by decide) (hg : sc.names.lookup x = some .globalImplicit := by rfl)
    (hdb : (x == ("__debug__" : Str)) = false := by decide) : DE G k N sc (.Call (.Name x p) [] [] pos) (mCall F 0 mNil) :=
  ⟨fun X W c tk => by
    obtain ⟨⟨fd, h1, h2⟩, h3⟩ := h
    refine ⟨fun pins s σ H Q I q => ?_⟩
    obtain ⟨En, F0, R, E, S, rel, q⟩ := q
    refine wpAny_Call_Name_kw (ld_glob I (gl_of c hg) (by rw [c.cmg]; exact hm) ?_ hdb)
    refine PySem.W.callWith_K0 I.kIn (by rw [c.cK]; exact h3) ?_
    refine run_fnS (us := []) (vs := []) (ctx_fn c h1) (c.croom.mono hj) (by rw [c.cK]; exact h2) (passAt tk σ) I .nil (sp_call rfl rel .nil q)⟩
end

/-! ### statements -/
inductive RS where
  | nx (E : Ev) (S : Store) | rt (dv : DV) (S : Store) | bk (E : Ev) (S : Store) | ct (E : Ev) (S : Store) | ex (c : Str) (fs : List (Str × D)) (E : Ev) (S : Store) | bad
abbrev MS := Ev → Store → RS
def ExS (K : PySem.W.Frag) (En : Ent) (F : Hp) (R : List Addr) (W : WX) (c : Str) (fs : List (Str × D)) (E : Ev) (S : Store) : Prop :=
  ∀ (F' : Hp) (R' : List Addr) (σ' : L2.St) (H' : Hp) (d : Addr) (vfs : List (Str × V)), Le F R F' R' → Rel K En F' R' E S σ' H' → H' d = some (.xd vfs) → RepF K F' R' fs vfs → W (.ref (He.ga K c)) (some d) σ' H'
def GoS (K : PySem.W.Frag) (En : Ent) (F : Hp) (R : List Addr) (E : Ev) (S : Store) (k : L2.St → Hp → Prop) : Prop := ∀ (F' : Hp) (R' : List Addr) (σ' : L2.St) (H' : Hp), Le F R F' R' → Rel K En F' R' E S σ' H' → k σ' H'
def RtS (K : PySem.W.Frag) (En : Ent) (F : Hp) (R : List Addr) (dv : DV) (S : Store) (k : VK) : Prop := ∀ (F' : Hp) (R' : List Addr) (H' : Hp) (v : V), Le F R F' R' → Rel K En F' R' [] S [] H' → Val K En F' R' [] [] H' v dv → k v H'
def PostS (K : PySem.W.Frag) (En : Ent) (F : Hp) (R : List Addr) (D : Ends) (W : WX) : RS → Prop
  | .nx E S => GoS K En F R E S D.nx
  | .rt dv S => RtS K En F R dv S D.rt
  | .bk E S => GoS K En F R E S D.bk
  | .ct E S => GoS K En F R E S D.ct
  | .ex c fs E S => ExS K En F R W c fs E S
  | .bad => False
def tS (K : PySem.W.Frag) (m : MS) (W : WX) : TS := fun D σ H => ∃ (En : Ent) (F : Hp) (R : List Addr) (E : Ev) (S : Store), Rel K En F R E S σ H ∧ PostS K En F R D W (m E S)
structure CtxS (G : Gs) (k : Nat) (N : List Str) (sc : Scope) (X : Cx) : Prop where
  e : CtxE G k N sc X
  stk : X.stack = X.env :: X.outer
  fr : X.env.frame = some X.env.locals
  exn : X.ex = []
  cfn : ∀ x, X.fn x = true
  pas : PassesOwn (model X.prog X.w) X.A X.env X.xe
structure DS (G : Gs) (k : Nat) (N : List Str) (sc : Scope) (st : Stmt) (m : MS) : Prop where
  run : ∀ (X : Cx) (W : WX), CtxS G k N sc X → Takes X W → PS X st (tS G.K m W)
structure DSs (G : Gs) (k : Nat) (N : List Str) (sc : Scope) (st : List Stmt) (m : MS) : Prop where
  run : ∀ (X : Cx) (W : WX), CtxS G k N sc X → Takes X W → PSs X st (tS G.K m W)

section
variable {K : PySem.W.Frag} {En : Ent} {F F' : Hp} {R R' : List Addr} {E E' : Ev} {S S' : Store} {σ σ' : L2.St} {H H' : Hp} {W : WX} {D D' : Ends}
theorem GoS.mono {k : L2.St → Hp → Prop} (le : Le F R F' R') (h : GoS K En F R E S k) : GoS K En F' R' E S k := fun F2 R2 σ2 H2 l r => h F2 R2 σ2 H2 (le.trans l) r
theorem PostS.mono (le : Le F R F' R') : ∀ {r : RS}, PostS K En F R D W r → PostS K En F' R' D W r
  | .nx _ _, h => GoS.mono le h
  | .rt _ _, h => fun F2 R2 H2 v l r q => h F2 R2 H2 v (le.trans l) r q
  | .bk _ _, h => GoS.mono le h
  | .ct _ _, h => GoS.mono le h
  | .ex _ _ _ _, h => fun F2 R2 σ2 H2 d vfs l r hd rf => h F2 R2 σ2 H2 d vfs (le.trans l) r hd rf
  | .bad, h => h
end
/-- then -/
def seqS (a b : MS) : MS := fun E S => match a E S with
  | .nx E1 S1 => b E1 S1
  | r => r
def nextS : MS := fun E S => .nx E S
/-- an expression, then what its value does with the slots -/
def withE {α : Type} (m : M α) (f : α → MS) : MS := fun E S => match m E S with
  | .ok a S1 => f a E S1
  | .ex c fs S1 => .ex c fs E S1
  | .bad => .bad
section
variable {K : PySem.W.Frag} {En : Ent} {F F' : Hp} {R R' : List Addr} {E E' : Ev} {S S' : Store} {σ σ' : L2.St} {H H' : Hp} {W : WX} {D D' : Ends}
theorem post_with {α : Type} {m : M α} {f : α → MS} (rel : Rel K En F R E S σ H) (h : PostS K En F R D W (withE m f E S)) : PostX K En F R E σ W (fun F1 R1 _ a S1 => PostS K En F1 R1 D W (f a E S1)) (m E S) := by
  unfold withE at h
  cases e : m E S with
  | ok a S1 => rw [e] at h; exact fun F1 R1 H1 le _ => PostS.mono le h
  | ex c fs S1 => rw [e] at h; exact fun F1 R1 H1 d vfs le r1 hd rf => h F1 R1 σ H1 d vfs le r1 hd rf
  | bad => rw [e] at h; exact h
theorem withE_then {m : M DV} {f : DV → MS} {k : V → Hp → Prop} (rel : Rel K En F R E S σ H) (h : PostS K En F R D W (withE m f E S))
    (hk : ∀ F1 R1 H1 dv v S1, Le F R F1 R1 → Rel K En F1 R1 E S1 σ H1 → Val K En F1 R1 E σ H1 v dv → PostS K En F1 R1 D W (f dv E S1) → k v H1) : tD K m W σ H k :=
  ⟨En, F, R, E, S, rel, (post_with rel h).imp fun F1 R1 H1 dv S1 le rel1 q v hv => hk F1 R1 H1 dv v S1 le rel1 hv q⟩
theorem withE_thenF {m : M DV} {f : DV → MS} {k : V → Hp → Prop} (rel : Rel K En F R E S σ H) (h : PostS K En F R D W (withE m f E S))
    (hk : ∀ F1 R1 H1 dv v S1, Le F R F1 R1 → Rel K En F1 R1 E S1 σ H1 → Rep K F1 R1 dv.frz v → PostS K En F1 R1 D W (f dv E S1) → k v H1) : tD K m W σ H k :=
  withE_then rel h fun F1 R1 H1 dv v S1 le rel1 hv q => by
    obtain ⟨F2, le2, rel2, rp⟩ := hv.freeze rel1
    exact hk F2 R1 H1 dv v S1 (le.trans le2) rel2 rp (q.mono le2)
theorem withT_then {m : M Bool} {f : Bool → MS} {k : Bool → Hp → Prop} (rel : Rel K En F R E S σ H) (h : PostS K En F R D W (withE m f E S))
    (hk : ∀ F1 R1 H1 b S1, Le F R F1 R1 → Rel K En F1 R1 E S1 σ H1 → PostS K En F1 R1 D W (f b E S1) → k b H1) : tT K m W σ H k :=
  ⟨En, F, R, E, S, rel, (post_with rel h).imp fun F1 R1 H1 b S1 le rel1 q => hk F1 R1 H1 b S1 le rel1 q⟩
/-- a slot is stored -/
theorem Rel.store (r : Rel K En F R E S σ H) {v : V} {dv : DV} (q : Val K En F R E σ H v dv) (i : Nat) : Rel K En F R (E.set i (some dv)) S (σ.set i (some v)) H := by
  have hi : ∀ {j : Nat} {x : DV}, (E.set i (some dv))[j]? = some (some x) → (j = i ∧ x = dv ∧ (σ.set i (some v))[j]? = some (some v)) ∨ (j ≠ i ∧ E[j]? = some (some x) ∧ (σ.set i (some v))[j]? = σ[j]?) := fun {j x} e => by
    by_cases h : j = i
    · subst h
      by_cases hl : j < E.length
      · rw [List.getElem?_set_self hl] at e
        cases e
        exact .inl ⟨rfl, rfl, List.getElem?_set_self (by rw [← r.elen]; exact hl)⟩
      · rw [List.getElem?_eq_none (by simpa using hl)] at e; cases e
    · rw [List.getElem?_set_ne (Ne.symm h)] at e
      exact .inr ⟨h, e, List.getElem?_set_ne (Ne.symm h)⟩
  refine ⟨r.len, r.frz, r.nodup, r.cell, fun j x e => ?_, fun j1 j2 x y a e1 e2 o1 o2 s1 s2 => ?_, r.keep, r.nf, r.nr, by rw [List.length_set, List.length_set]; exact r.elen⟩
  · rcases hi e with ⟨rfl, rfl, es⟩ | ⟨_, e', es⟩
    · rw [es]
      cases x with
      | val d => exact ⟨v, rfl, q⟩
      | ol ds =>
        obtain ⟨a, rfl, o, f1, f2, f3, _⟩ := q
        exact ⟨a, rfl, o, f1, f2, f3⟩
      | od ds =>
        obtain ⟨a, rfl, o, f1, f2, f3, _⟩ := q
        exact ⟨a, rfl, o, f1, f2, f3⟩
    · rw [es]; exact r.slot j x e'
  · have new : ∀ {b : Addr}, dv.isOwn = true → v = .ref b → ¬ OwnSlot E σ b := fun {b} ow ev => by
      cases dv with
      | val d => cases ow
      | ol ds =>
        obtain ⟨c, ec, _, _, _, _, n⟩ := q
        rw [ev] at ec; cases ec; exact n
      | od ds =>
        obtain ⟨c, ec, _, _, _, _, n⟩ := q
        rw [ev] at ec; cases ec; exact n
    rcases hi e1 with ⟨h1, h2, h3⟩ | ⟨h1, h2, h3⟩
    · rcases hi e2 with ⟨g1, g2, g3⟩ | ⟨g1, g2, g3⟩
      · rw [h1, g1]
      · rw [h3] at s1
        rw [g3] at s2
        cases s1
        exact (new (h2 ▸ o1) rfl ⟨j2, y, g2, o2, s2⟩).elim
    · rcases hi e2 with ⟨g1, g2, g3⟩ | ⟨g1, g2, g3⟩
      · rw [g3] at s2
        rw [h3] at s1
        cases s2
        exact (new (g2 ▸ o2) rfl ⟨j1, x, h2, o1, s1⟩).elim
      · rw [h3] at s1
        rw [g3] at s2
        exact r.apart j1 j2 x y a h2 g2 o1 o2 s1 s2
end
section
variable {G : Gs} {k : Nat} {N : List Str} {sc : Scope} {e : Expr} {m : M DV} {pos pos' : Pos} {st : Stmt} {sts : List Stmt} {a b : MS} {t : M Bool}
theorem dss_nil : DSs G k N sc [] nextS := ⟨fun X W c tk => pss_imp pss_nil fun D σ H h => by
  obtain ⟨En, F, R, E, S, rel, h⟩ := h
  exact h F R σ H Le.refl rel⟩
theorem dss_cons (h1 : DS G k N sc st a) (h2 : DSs G k N sc sts b) : DSs G k N sc (st :: sts) (seqS a b) :=
  ⟨fun X W c tk => pss_imp (pss_cons (h1.run X W c tk) (h2.run X W c tk)) fun D σ H h => by
    obtain ⟨En, F, R, E, S, rel, h⟩ := h
    refine ⟨En, F, R, E, S, rel, ?_⟩
    unfold seqS at h
    cases q : a E S with
    | nx E1 S1 =>
      rw [q] at h
      exact fun F1 R1 σ1 H1 le r1 => ⟨En, F1, R1, E1, S1, r1, PostS.mono le h⟩
    | rt dv S1 => rw [q] at h; exact h
    | bk E1 S1 => rw [q] at h; exact h
    | ct E1 S1 => rw [q] at h; exact h
    | ex c fs E1 S1 => rw [q] at h; exact h
    | bad => rw [q] at h; exact h⟩
theorem dss_one (h1 : DS G k N sc st a) : DSs G k N sc [st] a := ⟨fun X W c tk => pss_one (h1.run X W c tk)⟩
/-- code that is never reached -/
def neverS : MS := fun _ _ => .bad
theorem ds_never : DS G k N sc st neverS := ⟨fun X W c tk => ps_imp ps_never fun D σ H ⟨_, _, _, _, _, _, h⟩ => h⟩
theorem dss_never : DSs G k N sc sts neverS := ⟨fun X W c tk => pss_imp pss_never fun D σ H ⟨_, _, _, _, _, _, h⟩ => h⟩
def setS (i : Nat) (m : M DV) : MS := withE m fun dv E S => .nx (E.set i (some dv)) S
theorem ds_set {x : Str} (i : Nat) (he : DE G k N sc e m) (hN : N[i]? = some x := by rfl) (hx : Loc sc x := by first | exact .inl rfl | exact .inr rfl) (hs : ∀ env, swapsWith e (some (.Name x pos')) pos.line env = pure false := by intro _; rfl) : DS G k N sc (.Assign [.Name x pos'] e pos) (setS i m) :=
  ⟨fun X W c tk => ps_imp (ps_set (i := i) (by rw [c.e.cN]; exact c.e.cnd) (by rw [c.e.cN]; exact hN) (by rw [c.e.csc]; exact hx) (he.run X W c.e tk) (hs _) (.inl (c.cfn x))) fun D σ H h => by
    obtain ⟨En, F, R, E, S, rel, h⟩ := h
    exact withE_then rel h fun F1 R1 H1 dv v S1 le rel1 hv q => q F1 R1 _ H1 Le.refl (rel1.store hv i)⟩
def exprS (m : M DV) : MS := withE m fun _ E S => .nx E S
theorem ds_expr (he : DE G k N sc e m) (hs : ∀ env, swapsWith e none pos.line env = pure false := by intro _; rfl) : DS G k N sc (.Expr e pos) (exprS m) :=
  ⟨fun X W c tk => ps_imp (ps_expr (he.run X W c.e tk) (hs _)) fun D σ H h => by
    obtain ⟨En, F, R, E, S, rel, h⟩ := h
    exact withE_then rel h fun F1 R1 H1 dv v S1 le rel1 hv q => q F1 R1 _ H1 Le.refl rel1⟩
def retS (m : M DV) : MS := withE m fun dv _ S => .rt dv S
theorem ds_ret (he : DE G k N sc e m) : DS G k N sc (.Return (some e) pos) (retS m) :=
  ⟨fun X W c tk => ps_imp (ps_ret (he.run X W c.e tk)) fun D σ H h => by
    obtain ⟨En, F, R, E, S, rel, h⟩ := h
    exact withE_then rel h fun F1 R1 H1 dv v S1 le rel1 hv q => q F1 R1 H1 v Le.refl rel1.drop hv.drop⟩
/-- return x: the own thing goes out -/
def retVarS (i : Nat) : MS := fun E S => match E[i]? with
  | some (some dv) => .rt dv S
  | _ => .bad
theorem ds_retVar {x : Str} (i : Nat) (hN : N[i]? = some x := by rfl) (hv : Vis sc x := by first | exact Or.inl rfl | exact Or.inr (Or.inl rfl) | exact Or.inr (Or.inr rfl)) (hd : (x == ("__debug__" : Str)) = false := by decide)
    (hcd : (x == ("__classdict__" : Str)) = false := by decide) : DS G k N sc (.Return (some (.Name x pos')) pos) (retVarS i) :=
  ⟨fun X W c tk => ps_imp (ps_ret (pe_var (i := i) (by rw [c.e.cN]; exact hN) (by rw [c.e.csc]; exact hv) hd hcd)) fun D σ H h => by
    obtain ⟨En, F, R, E, S, rel, h⟩ := h
    unfold retVarS at h
    split at h
    · rename_i dv e
      have q := rel.slot i _ e
      have no : ∀ a, ¬ OwnSlot [] [] a := fun a ⟨i, x, e, _⟩ => by simp at e
      cases dv with
      | val d =>
        obtain ⟨v, e2, r⟩ := q
        exact ⟨v, e2, h F R H v Le.refl rel.drop r⟩
      | ol ds =>
        obtain ⟨a, e2, o, f1, f2, f3⟩ := q
        exact ⟨.ref a, e2, h F R H (.ref a) Le.refl rel.drop ⟨a, rfl, o, f1, f2, f3, no a⟩⟩
      | od ds =>
        obtain ⟨a, e2, o, f1, f2, f3⟩ := q
        exact ⟨.ref a, e2, h F R H (.ref a) Le.refl rel.drop ⟨a, rfl, o, f1, f2, f3, no a⟩⟩
    · exact h.elim⟩
def retNS : MS := fun _ S => .rt (.val .non) S
theorem ds_retN : DS G k N sc (.Return none pos) retNS := ⟨fun X W c tk => ps_imp ps_retN fun D σ H h => by
  obtain ⟨En, F, R, E, S, rel, h⟩ := h
  exact h F R H .non Le.refl rel.drop .non⟩
theorem ds_pass : DS G k N sc (.Pass pos) nextS := ⟨fun X W c tk => ps_imp ps_pass fun D σ H h => by
  obtain ⟨En, F, R, E, S, rel, h⟩ := h
  exact h F R σ H Le.refl rel⟩
def contS : MS := fun E S => .ct E S
def breakS : MS := fun E S => .bk E S
theorem ds_cont : DS G k N sc (.Continue pos) contS := ⟨fun X W c tk => ps_imp ps_continue fun D σ H h => by
  obtain ⟨En, F, R, E, S, rel, h⟩ := h
  exact h F R σ H Le.refl rel⟩
theorem ds_break : DS G k N sc (.Break pos) breakS := ⟨fun X W c tk => ps_imp ps_break fun D σ H h => by
  obtain ⟨En, F, R, E, S, rel, h⟩ := h
  exact h F R σ H Le.refl rel⟩
def ifS (t : M Bool) (a b : MS) : MS := withE t fun x => if x then a else b
theorem ds_if {as bs : List Stmt} (ht : DT G k N sc e t) (ha : DSs G k N sc as a) (hb : DSs G k N sc bs b) : DS G k N sc (.If e as bs pos) (ifS t a b) :=
  ⟨fun X W c tk => ps_imp (ps_if (ht.run X W c.e tk) (ha.run X W c tk) (hb.run X W c tk)) fun D σ H h => by
    obtain ⟨En, F, R, E, S, rel, h⟩ := h
    refine withT_then rel h fun F1 R1 H1 x S1 le rel1 q => ?_
    cases x with
    | true => exact iteT ⟨En, F1, R1, E, S1, rel1, q⟩
    | false => exact iteF ⟨En, F1, R1, E, S1, rel1, q⟩⟩
/-- an own slot is let stand for ever -/
def frzS (i : Nat) (m : MS) : MS := fun E S => match E[i]? with
  | some (some dv) => m (E.set i (some (.val dv.frz))) S
  | _ => m E S
theorem Rel.frzSlot {K : PySem.W.Frag} {En : Ent} {F : Hp} {R : List Addr} {E : Ev} {S : Store} {σ : L2.St} {H : Hp} (r : Rel K En F R E S σ H) {i : Nat} {dv : DV} (e : E[i]? = some (some dv)) : ∃ F', Le F R F' R ∧ Rel K En F' R (E.set i (some (.val dv.frz))) S σ H := by
  have hil : i < E.length := (List.getElem?_eq_some_iff.mp e).1
  -- forget the slot, freeze, put it back
  have key : ∀ (v : V), σ[i]? = some (some v) → Val K En F R (E.set i none) (σ.set i (some v)) H v dv → ∃ F', Le F R F' R ∧ Rel K En F' R (E.set i (some (.val dv.frz))) S σ H := fun v ev hv => by
    have es : σ.set i (some v) = σ := by
      apply List.ext_getElem?
      intro j
      by_cases h : j = i
      · subst h; rw [List.getElem?_set_self (by rw [← r.elen]; exact hil), ev]
      · rw [List.getElem?_set_ne (Ne.symm h)]
    rw [es] at hv
    have r0 : Rel K En F R (E.set i none) S σ H := by
      have hj : ∀ {j : Nat} {x : DV}, (E.set i none)[j]? = some (some x) → E[j]? = some (some x) := fun {j x} q => by
        by_cases h : j = i
        · subst h; rw [List.getElem?_set_self hil] at q; cases q
        · rw [List.getElem?_set_ne (Ne.symm h)] at q; exact q
      exact ⟨r.len, r.frz, r.nodup, r.cell, fun j x q => r.slot j x (hj q), fun j1 j2 x y a q1 q2 => r.apart j1 j2 x y a (hj q1) (hj q2), r.keep, r.nf, r.nr, by rw [List.length_set]; exact r.elen⟩
    obtain ⟨F', le, r1, rp⟩ := hv.freeze r0
    have r2 := r1.store (dv := .val dv.frz) rp i
    rw [es, List.set_set] at r2
    exact ⟨F', le, r2⟩
  have q := r.slot i dv e
  have nos : ∀ a v, σ[i]? = some (some v) → v = .ref a → dv.isOwn = true → ¬ OwnSlot (E.set i none) (σ.set i (some v)) a := fun a v ev eva ow ⟨j, x, ej, oj, sj⟩ => by
    by_cases h : j = i
    · subst h; rw [List.getElem?_set_self hil] at ej; cases ej
    · rw [List.getElem?_set_ne (Ne.symm h)] at ej sj
      exact h (r.apart j i x dv a ej e oj ow sj (by rw [ev, eva]))
  cases dv with
  | val d =>
    obtain ⟨v, ev, rp⟩ := q
    exact key v ev rp
  | ol ds =>
    obtain ⟨a, ev, o, f1, f2, f3⟩ := q
    exact key (.ref a) ev ⟨a, rfl, o, f1, f2, f3, nos a _ ev rfl rfl⟩
  | od ds =>
    obtain ⟨a, ev, o, f1, f2, f3⟩ := q
    exact key (.ref a) ev ⟨a, rfl, o, f1, f2, f3, nos a _ ev rfl rfl⟩
theorem ds_frz (i : Nat) (h : DS G k N sc st a) : DS G k N sc st (frzS i a) :=
  ⟨fun X W c tk => ps_imp (h.run X W c tk) fun D σ H q => by
    obtain ⟨En, F, R, E, S, rel, q⟩ := q
    unfold frzS at q
    split at q
    · rename_i dv e
      obtain ⟨F', le, r⟩ := rel.frzSlot e
      exact ⟨En, F', R, _, S, r, q.mono le⟩
    · exact ⟨En, F, R, E, S, rel, q⟩⟩

/-! ### a def's body -/
def slots0 (n : Nat) (ds : List D) : Ev := ds.map (fun d => some (.val d)) ++ List.replicate (n - ds.length) none
def runB (n : Nat) (b : MS) : FD := fun ds S => match b (slots0 n ds) S with
  | .nx _ S' => .ok (.val .non) S'
  | .rt dv S' => .ok dv S'
  | .ex c fs _ S' => .ex c fs S'
  | _ => .bad
theorem rel_start {K : PySem.W.Frag} {H F : Hp} {R : List Addr} {S : Store} {ds : List D} {vs : List V} {N : List Str} (rel : Rel K ⟨H, F, R⟩ F R [] S [] H) (rs : Reps K F R ds vs) : Rel K ⟨H, F, R⟩ F R (slots0 N.length ds) S (start N vs) H := by
  have key : ∀ (i : Nat) (dv : DV), (slots0 N.length ds)[i]? = some (some dv) → ∃ d v, dv = .val d ∧ (start N vs)[i]? = some (some v) ∧ Rep K F R d v := fun i dv e => by
    unfold slots0 at e
    by_cases hi : i < ds.length
    · rw [List.getElem?_append_left (by simpa using hi), List.getElem?_map] at e
      cases q : ds[i]? with
      | none => rw [q] at e; cases e
      | some d =>
        rw [q] at e
        cases e
        obtain ⟨v, hv, rv⟩ := rs.getD q
        refine ⟨d, v, rfl, ?_, rv⟩
        unfold L2.start
        rw [List.getElem?_append_left (by rw [List.length_map, ← rs.length]; exact hi), List.getElem?_map, hv]
        rfl
    · rw [List.getElem?_append_right (by simpa using hi), List.getElem?_replicate] at e
      split at e <;> cases e
  refine ⟨rel.len, rel.frz, rel.nodup, rel.cell, fun i dv e => ?_, fun i j x y a e1 e2 o1 _ _ _ => ?_, rel.keep, rel.nf, rel.nr, ?_⟩
  · obtain ⟨d, v, rfl, e2, r⟩ := key i dv e
    exact ⟨v, e2, r⟩
  · obtain ⟨d, v, rfl, _⟩ := key i x e1
    cases o1
  · unfold slots0 L2.start
    rw [List.length_append, List.length_append, List.length_map, List.length_map, List.length_replicate, List.length_replicate, rs.length]
/-- THE RULE: a def keeps what its body's data say -/
theorem fok {x qual : Str} {params : Arguments} {body : List Stmt} {f : Addr} {fd : FuncData} {ps : List Str} (Fn : FunD G.K x qual params body sc [] [] f fd) (Sc : FnScope N ps sc)
    (hb : ∀ (kV doc pm : Value) (an : Option Addr) (cdv ct : Value) (us : List Value), us.length = ps.length → bindArgs (PySem.W.fnOf x qual params body sc .none kV doc pm an cdv ct) ⟨us, []⟩ = pure (ps.zip us))
    (hbody : DSs G k N sc body a) : FOk G (k + 1) f ps (runB N.length a) := by
  refine ⟨⟨fd, ?_, Fn.bindsN hb⟩, Fn.kp⟩
  refine Fn.ok Sc (fun vs H Q E h => h.1) fun cdv A outer s H vs Q E hr h => ?_
  obtain ⟨hn, F, R, S, ds, rel, rs, p⟩ := h
  refine ⟨_, hbody.run _ (fun c d _ H' => E c d H') ⟨⟨rfl, rfl, rfl, rfl, rfl, rfl, rfl, Sc.nd, rfl, hr⟩, rfl, rfl, rfl, fun _ => rfl, passes_of rfl⟩ (takes_of rfl rfl rfl rfl), ?_⟩
  refine ⟨_, F, R, _, S, rel_start rel rs, ?_⟩
  unfold runB at p
  cases q : a (slots0 N.length ds) S with
  | nx E1 S1 => rw [q] at p; exact fun F1 R1 σ1 H1 le r1 => p F1 R1 H1 le r1.drop .non .non
  | rt dv S1 => rw [q] at p; exact fun F1 R1 H1 v le r1 hv => p F1 R1 H1 le r1 v hv
  | bk E1 S1 => rw [q] at p; exact p.elim
  | ct E1 S1 => rw [q] at p; exact p.elim
  | ex c fs E1 S1 => rw [q] at p; exact fun F1 R1 σ1 H1 d vfs le r1 hd rf => p F1 R1 H1 d vfs le r1.drop hd rf
  | bad => rw [q] at p; exact p.elim
end
end Hm
set_option Elab.async false
set_option linter.all false
set_option maxRecDepth 100000
set_option maxHeartbeats 2000000
namespace Hm
open PySem PySem.Spec L2 PyProof.Rows

/-! ### a, *b = a tuple, a list: by the model -/
section
variable {prog : Program} {w : World} {A : Around} {E : Value → Shared → Prop} {s : Shared} {l : Addr} {items : Array Value} {n i : Nat}
/-- what is told of the rest -/
def RestW (s : Shared) (items : Array Value) (n i : Nat) (Q : List Value → Shared → Prop) : Prop :=
  ∀ (g : Heap) (tk : Nat), (∀ b o, s.heap.get? b = some o → g.get? b = some o) →
    Q (items.toList.take i ++ [.ref g.objs.size] ++ (items.toList.drop i).drop (items.size + 1 - n)) { s with heap := g.push { cls := .type "list", data := .seq ((items.toList.drop i).take (items.size + 1 - n)).toArray }, toks := tk }
theorem restOf {I : Addr} {T : String} {St : Nat → Heap → Prop} {Q : List Value → Shared → Prop} {h0 h1 : Heap} {tk0 : Nat} (kept : ∀ b o, h0.get? b = some o → h1.get? b = some o) (hI : h0.get? I = none)
    (hT : T = "str_ascii_iterator" ∨ T = "str_iterator" ∨ T = "list_iterator" ∨ T = "tuple_iterator") (Wk : Walks prog w A.in1 I [I, l] [I] items.size (fun j v => items[j]? = some v) St)
    (hty : ∀ j (u : Shared), St j u.heap → u.TypeIs (.ref I) T) (hi : i ≤ items.size) (hn : n ≤ items.size + 1) (hin : i < n) (st : St i h1) (b1 : I < h1.objs.size) (b2 : l < h1.objs.size) (hz : items.size ≤ sizeLine)
    (hQ : RestW { s with heap := h0, toks := tk0 } items n i Q) {f : List Value → Sem (List Value)}
    (hf : ∀ rest : List Value, ¬ rest.length < n - 1 - i → f rest = newList (rest.take (rest.length - (n - 1 - i))) >>= fun d => pure (items.toList.take i ++ [d] ++ rest.drop (rest.length - (n - 1 - i)))) :
    wpAny (model prog w) A (holding (items.toList.take i) (collect (.ref I)) >>= f) Q E { s with heap := h1, toks := tk0 } := by
  refine wpAny_bind (wpAny_holding (PySem.W.kun_collect (s := { s with heap := h1, toks := tk0 }) (T := T) hT Wk hty hi st b1 b2 (fun h2 tk hk => ?_) hz))
  have el : (items.toList.drop i).length = items.size - i := by rw [List.length_drop, Array.length_toList]
  have em : (items.toList.drop i).length - (n - 1 - i) = items.size + 1 - n := by rw [el]; omega
  rw [hf _ (by rw [el]; omega), em]
  refine wpAny_bind (wpAny_newObj_type ?_ (by
    show (List.take _ _).toArray.size ≤ sizeLine
    rw [List.size_toArray, List.length_take, el]; omega))
  exact wpAny_pure (hQ h2 tk fun b o e => hk b o (fun z => by rw [z, hI] at e; cases e) (kept b o e))
theorem starL {Q : List Value → Shared → Prop} (hh : A.handled = none) (hl : s.heap.IsList l items) (hin : i < n) (hn : n ≤ items.size + 1) (hz : items.size ≤ sizeLine) (hQ : RestW s items n i Q) :
    wpAny (model prog w) A (unpackItems (.ref l) n (some i)) Q E s := by
  obtain ⟨ob, hob, _⟩ := id hl
  have lt := Heap.lt_size hob
  have ne : l ≠ s.heap.objs.size := Nat.ne_of_lt lt
  unfold unpackItems notIterableAtAll
  refine wpAny_bind (wpAny_bind (wpAny_specialOf hl.typeIs slot_list_iter.lookup (wpAny_pure ?_)))
  dsimp only [Option.isSome]
  rw [if_neg Bool.false_ne_true]
  refine wpAny_bind (wpAny_holding (wpAny_pyIter_list hl ?_))
  refine wpAny_bind (wpAny_holding (PySem.W.kun_draw ne i 0 _ _ ⟨_, Heap.get?_push_size _ rfl, rfl, rfl⟩ (hl.push _) (by omega) fun g it sb => ?_))
  have lg : g.IsList l items := (hl.push _).extBut sb.extBut ne
  rw [Nat.zero_add] at it
  obtain ⟨o1, e1, _⟩ := id it
  obtain ⟨o2, e2, _⟩ := id lg
  rw [List.drop_zero, if_neg (by rw [List.length_take, Array.length_toList]; omega)]
  exact restOf (h0 := s.heap) (T := "list_iterator") (fun b o e => sb.extBut b o (Nat.ne_of_lt (Heap.lt_size e)) (Heap.get?_push_of_some _ e)) (by cases e : s.heap.get? s.heap.objs.size with | none => rfl | some o => exact absurd (Heap.lt_size e) (Nat.lt_irrefl _)) (.inr (.inr (.inl rfl))) (Walks.list (A := A.in1) hh _ l ne items) (fun _ _ st => st.1.typeIs) (by omega) hn hin ⟨it, lg⟩ (Heap.lt_size e1) (Heap.lt_size e2) hz hQ
    fun rest hr => if_neg hr
theorem starT {Q : List Value → Shared → Prop} (hh : A.handled = none) (hl : IsTup s.heap l items) (hin : i < n) (hn : n ≤ items.size + 1) (hz : items.size ≤ sizeLine) (hQ : RestW s items n i Q) :
    wpAny (model prog w) A (unpackItems (.ref l) n (some i)) Q E s := by
  obtain ⟨ob, hob, _⟩ := id hl
  have lt := Heap.lt_size hob
  have ne : l ≠ s.heap.objs.size := Nat.ne_of_lt lt
  unfold unpackItems notIterableAtAll
  refine wpAny_bind (wpAny_bind (wpAny_specialOf hl.typeIs slot_tuple_iter.lookup (wpAny_pure ?_)))
  dsimp only [Option.isSome]
  rw [if_neg Bool.false_ne_true]
  refine wpAny_bind (wpAny_holding (iter_tuple hl ?_))
  refine wpAny_bind (wpAny_holding (draw_tuple ne i 0 _ _ ⟨_, Heap.get?_push_size _ rfl, rfl, rfl⟩ (hl.push _) (by omega) fun g it sb => ?_))
  have lg : IsTup g l items := (hl.push _).extBut sb.extBut ne
  rw [Nat.zero_add] at it
  obtain ⟨o1, e1, _⟩ := id it
  obtain ⟨o2, e2, _⟩ := id lg
  rw [List.drop_zero, if_neg (by rw [List.length_take, Array.length_toList]; omega)]
  exact restOf (h0 := s.heap) (T := "tuple_iterator") (fun b o e => sb.extBut b o (Nat.ne_of_lt (Heap.lt_size e)) (Heap.get?_push_of_some _ e)) (by cases e : s.heap.get? s.heap.objs.size with | none => rfl | some o => exact absurd (Heap.lt_size e) (Nat.lt_irrefl _)) (.inr (.inr (.inr rfl))) (Walks.tuple (A := A.in1) hh _ l ne items) (fun _ _ st => st.1.typeIs) (by omega) hn hin ⟨it, lg⟩ (Heap.lt_size e1) (Heap.lt_size e2) hz hQ
    fun rest hr => if_neg hr
end

/-! ### targets -/
/-- a, *b, c = a sequence -/
def gStar (K : PySem.W.Frag) (n i : Nat) (t : TGs) : TG := fun v σ H Q => ∃ a xs, v = .ref a ∧ (SqT K H a xs ∨ SqL K H a xs) ∧ i < n ∧ n ≤ xs.length + 1 ∧
  ∀ p, H p = none → t (xs.take i ++ [.ref p] ++ (xs.drop i).drop (xs.length + 1 - n)) σ (upd H p (.lst ((xs.drop i).take (xs.length + 1 - n)))) Q
theorem vals_take {vs : List V} {us : List Value} (h : Vals vs us) : ∀ n, Vals (vs.take n) (us.take n) := by
  induction h with
  | nil => intro n; rw [List.take_nil, List.take_nil]; exact .nil
  | cons r t ih => intro n; cases n with
    | zero => exact .nil
    | succ n => exact .cons r (ih n)
theorem vals_drop {vs : List V} {us : List Value} (h : Vals vs us) : ∀ n, Vals (vs.drop n) (us.drop n) := by
  induction h with
  | nil => intro n; rw [List.drop_nil, List.drop_nil]; exact .nil
  | cons r t ih => intro n; cases n with
    | zero => exact .cons r t
    | succ n => exact ih n
theorem vals_app {vs ws : List V} {us ts : List Value} (h : Vals vs us) (g : Vals ws ts) : Vals (vs ++ ws) (us ++ ts) := by
  induction h with
  | nil => exact g
  | cons r t ih => exact .cons r ih
theorem pg_star {X : Cx} {pos : Pos} {es : List Expr} {k : Nat} {t : TGs} {n i : Nat} (hc : X.calm = true) (h : PGs X es t)
    (hn : (assignEach es X.env).length = n := by rfl) (hst : (assignEach es X.env).findIdx? (·.1) = some i := by rfl) : PG X (.Tuple es k pos) (gStar X.K n i t) := by
  refine ⟨fun pins s σ H v u Q I r hw => ?_⟩
  obtain ⟨a, xs, e1, hq, hin, hl, hw⟩ := hw
  subst e1
  cases r
  rw [PyProof.Rows.assign_Tuple]
  refine wpAny_bind (wpAny_standAt ?_)
  unfold unpack
  rw [hn, hst]
  have fin : ∀ (its : List Value), Vals xs its → xs.length ≤ sizeLine → RestW s its.toArray n i fun vs s2 => wpAny (model X.prog X.w) X.A (assignInOrder ((assignEach es X.env).map (·.2)) vs) (fun _ s' => ∃ σ' H', Inv X pins σ' H' s' ∧ Q σ' H') X.xe s2 := fun its rv z g tk kept => by
    have I1 := I.kept (t' := tk) kept
    have hf : H g.objs.size = none := I1.hok.fresh (Nat.le_refl _)
    have el : its.toArray.size = xs.length := by rw [List.size_toArray]; exact rv.length.symm
    rw [el]
    have rm : Vals ((xs.drop i).take (xs.length + 1 - n)) ((its.drop i).take (xs.length + 1 - n)) := vals_take (vals_drop rv i) _
    refine h.run pins _ σ (upd H g.objs.size (.lst ((xs.drop i).take (xs.length + 1 - n)))) (xs.take i ++ [.ref g.objs.size] ++ (xs.drop i).drop (xs.length + 1 - n)) _ Q ?_ ?_ (hw _ hf)
    · refine I1.laid (t' := tk) (fun b u e => Heap.get?_push_of_some _ e) (Nat.le_refl _) ⟨?_, _, 0, rm, Heap.get?_push_size _ rfl⟩
      rw [List.length_take, List.length_drop]; omega
    · exact vals_app (vals_app (vals_take rv i) (.cons rfl .nil)) (vals_drop (vals_drop rv i) _)
  rcases hq with hq | hq
  · obtain ⟨its, rv, ht, hz⟩ := I.tuple hq
    refine wpAny_bind (wpAny_holding (starT (I.ok.hd hc) ht hin ?_ ?_ (fin its rv hz)))
    · rw [List.size_toArray, ← rv.length]; exact hl
    · rw [List.size_toArray, ← rv.length]; exact hz
  · obtain ⟨its, rv, pl, hz⟩ := I.list hq
    refine wpAny_bind (wpAny_holding (starL (I.ok.hd hc) pl.isList hin ?_ ?_ (fin its rv hz)))
    · rw [List.size_toArray, ← rv.length]; exact hl
    · rw [List.size_toArray, ← rv.length]; exact hz
end Hm
set_option Elab.async false
set_option linter.all false
set_option maxRecDepth 100000
set_option maxHeartbeats 2000000
namespace Hm
open PySem PySem.Spec L2

/-! ### targets -/
abbrev MG := D → Ev → Store → Option Ev
abbrev MGs := List D → Ev → Store → Option Ev
/-- other slots than those of own are as they were -/
def Same (own : List (Str × Nat)) (σ σ' : L2.St) : Prop := σ'.length = σ.length ∧ ∀ j, j ∉ own.map (·.2) → σ'[j]? = σ[j]?
def GoG (K : PySem.W.Frag) (En : Ent) (F : Hp) (R : List Addr) (S : Store) (own : List (Str × Nat)) (σ : L2.St) (Q : L2.St → Hp → Prop) : Option Ev → Prop
  | some E => ∀ (F' : Hp) (R' : List Addr) (σ' : L2.St) (H' : Hp), Le F R F' R' → Rel K En F' R' E S σ' H' → Same own σ σ' → Q σ' H'
  | none => False
def tG (K : PySem.W.Frag) (own : List (Str × Nat)) (m : MG) : TG := fun v σ H Q => ∃ (En : Ent) (F : Hp) (R : List Addr) (E : Ev) (S : Store) (d : D), Rel K En F R E S σ H ∧ Rep K F R d v ∧ GoG K En F R S own σ Q (m d E S)
def tGs (K : PySem.W.Frag) (own : List (Str × Nat)) (m : MGs) : TGs := fun vs σ H Q => ∃ (En : Ent) (F : Hp) (R : List Addr) (E : Ev) (S : Store) (ds : List D), Rel K En F R E S σ H ∧ Reps K F R ds vs ∧ GoG K En F R S own σ Q (m ds E S)
theorem pg_imp {X : Cx} {e : Expr} {t t' : TG} (h : PG X e t) (k : ∀ v σ H Q, t' v σ H Q → t v σ H Q) : PG X e t' :=
  ⟨fun pins s σ H v u Q I r q => h.run pins s σ H v u Q I r (k v σ H Q q)⟩
theorem pgs_imp {X : Cx} {e : List Expr} {t t' : TGs} (h : PGs X e t) (k : ∀ v σ H Q, t' v σ H Q → t v σ H Q) : PGs X e t' :=
  ⟨fun pins s σ H v u Q I r q => h.run pins s σ H v u Q I r (k v σ H Q q)⟩
/-- the names of own may be stored -/
def Sto (sc : Scope) (X : Cx) (own : List (Str × Nat)) : Prop := ∀ x ∈ own, X.fn x.1 = true ∨ sc.names.lookup x.1 = some .local
structure DG (G : Gs) (k : Nat) (N : List Str) (sc : Scope) (e : Expr) (own : List (Str × Nat)) (m : MG) : Prop where
  run : ∀ (X : Cx), CtxE G k N sc X → Sto sc X own → PG X e (tG G.K own m)
structure DGs (G : Gs) (k : Nat) (N : List Str) (sc : Scope) (e : List Expr) (own : List (Str × Nat)) (m : MGs) : Prop where
  run : ∀ (X : Cx), CtxE G k N sc X → Sto sc X own → PGs X e (tGs G.K own m)
theorem GoG.mono {K : PySem.W.Frag} {En : Ent} {F F' : Hp} {R R' : List Addr} {S : Store} {own : List (Str × Nat)} {σ : L2.St} {Q : L2.St → Hp → Prop} (le : Le F R F' R') : ∀ {o : Option Ev}, GoG K En F R S own σ Q o → GoG K En F' R' S own σ Q o
  | some _, h => fun F2 R2 σ2 H2 l r s => h F2 R2 σ2 H2 (le.trans l) r s
  | none, h => h
theorem Sto.left {sc : Scope} {X : Cx} {xs ys : List (Str × Nat)} (h : Sto sc X (xs ++ ys)) : Sto sc X xs := fun x hx => h x (List.mem_append_left _ hx)
theorem Sto.right {sc : Scope} {X : Cx} {xs ys : List (Str × Nat)} (h : Sto sc X (xs ++ ys)) : Sto sc X ys := fun x hx => h x (List.mem_append_right _ hx)
theorem Same.refl {own : List (Str × Nat)} {σ : L2.St} : Same own σ σ := ⟨rfl, fun _ _ => rfl⟩
theorem Same.app {xs ys : List (Str × Nat)} {σ σ1 σ2 : L2.St} (a : Same xs σ σ1) (b : Same ys σ1 σ2) : Same (xs ++ ys) σ σ2 :=
  ⟨b.1.trans a.1, fun j hj => by
    rw [List.map_append, List.mem_append, not_or] at hj
    exact (b.2 j hj.2).trans (a.2 j hj.1)⟩
def gN (i : Nat) : MG := fun d E _ => some (E.set i (some (.val d)))
def gNilM : MGs := fun ds E _ => match ds with
  | [] => some E
  | _ => none
def gConsM (g : MG) (gs : MGs) : MGs := fun ds E S => match ds with
  | d :: r => (match g d E S with
    | some E1 => gs r E1 S
    | none => none)
  | [] => none
def gT (n : Nat) (gs : MGs) : MG := fun d E S => match view S d with
  | .tup ds => if ds.length = n then gs ds E S else none
  | .lst ds => if ds.length = n then gs ds E S else none
  | .scr ds => if ds.length = n then gs ds E S else none
  | _ => none
def stD (n i : Nat) (ds : List D) : List D := ds.take i ++ [.lst ((ds.drop i).take (ds.length + 1 - n))] ++ (ds.drop i).drop (ds.length + 1 - n)
def gSt (n i : Nat) (gs : MGs) : MG := fun d E S => match view S d with
  | .tup ds => if i < n ∧ n ≤ ds.length + 1 then gs (stD n i ds) E S else none
  | .lst ds => if i < n ∧ n ≤ ds.length + 1 then gs (stD n i ds) E S else none
  | .scr ds => if i < n ∧ n ≤ ds.length + 1 then gs (stD n i ds) E S else none
  | _ => none
section
variable {G : Gs} {k : Nat} {N : List Str} {sc : Scope} {pos : Pos} {e : Expr} {es : List Expr} {xs ys : List (Str × Nat)} {g : MG} {gs : MGs}
theorem dg_name {x : Str} (i : Nat) (hN : N[i]? = some x := by rfl) (hx : Loc sc x := by first | exact .inl rfl | exact .inr rfl) : DG G k N sc (.Name x pos) [(x, i)] (gN i) :=
  ⟨fun X c st => pg_imp (pg_name (i := i) (by rw [c.cN]; exact c.cnd) (by rw [c.cN]; exact hN) (by rw [c.csc]; exact hx) (by rw [c.csc]; exact st (x, i) (List.mem_singleton.mpr rfl))) fun v σ H Q h => by
    obtain ⟨En, F, R, E, S, d, rel, rp, h⟩ := h
    exact h F R _ H Le.refl (rel.store (dv := .val d) rp i) ⟨List.length_set, fun j hj => List.getElem?_set_ne fun e => hj (by rw [e]; exact List.mem_singleton.mpr rfl)⟩⟩
theorem dgs_nil : DGs G k N sc [] [] gNilM := ⟨fun X c st => pgs_imp pgs_nil fun v σ H Q h => by
  obtain ⟨En, F, R, E, S, ds, rel, rs, h⟩ := h
  cases rs with
  | nil => exact ⟨rfl, h F R σ H Le.refl rel Same.refl⟩
  | cons _ _ => exact h.elim⟩
theorem dgs_cons (h1 : DG G k N sc e xs g) (h2 : DGs G k N sc es ys gs) (hs : ∀ env, (assignEach (e :: es) env).map (·.2) = assign e env :: (assignEach es env).map (·.2) := by intro _; rfl) : DGs G k N sc (e :: es) (xs ++ ys) (gConsM g gs) :=
  ⟨fun X c st => pgs_imp (pgs_cons (h1.run X c st.left) (h2.run X c st.right) (hs _)) fun v σ H Q h => by
    obtain ⟨En, F, R, E, S, ds, rel, rs, h⟩ := h
    cases rs with
    | nil => exact h.elim
    | cons r rs =>
      rename_i d v ds vs
      refine ⟨_, _, rfl, En, F, R, E, S, d, rel, r, ?_⟩
      change GoG _ _ _ _ _ _ _ _ (match g d E S with | some E1 => gs ds E1 S | none => none) at h
      cases e1 : g d E S with
      | none => rw [e1] at h; exact h.elim
      | some E1 =>
        rw [e1] at h
        dsimp only at h
        refine fun F1 R1 σ1 H1 le r1 sm => ⟨En, F1, R1, E1, S, ds, r1, rs.mono le _ _, ?_⟩
        cases e2 : gs ds E1 S with
        | none => rw [e2] at h; exact h.elim
        | some E2 =>
          rw [e2] at h
          exact fun F2 R2 σ2 H2 l r s => h F2 R2 σ2 H2 (le.trans l) r (sm.app s)⟩
theorem dg_tup {kk n : Nat} (h : DGs G k N sc es xs gs) (hn : ∀ env, (assignEach es env).length = n := by intro _; rfl) (hst : ∀ env, (assignEach es env).findIdx? (·.1) = none := by intro _; rfl) : DG G k N sc (.Tuple es kk pos) xs (gT n gs) :=
  ⟨fun X c st => ⟨fun pins s σ H v u Q I r q => by
    obtain ⟨En, F, R, E, S, d, rel, rp, q⟩ := q
    unfold gT at q
    split at q
    · rename_i ds ev
      split at q
      · rename_i hl
        obtain ⟨p, vs, rfl, h1, h2⟩ := view_tup rel rp ev
        exact (pg_tup (n := n) c.ccalm (h.run X c st) (hn _) (hst _)).run pins s σ H _ u Q I r ⟨p, vs, rfl, by rw [c.cK]; exact h1, by rw [← h2.length]; exact hl, En, F, R, E, S, ds, rel, h2, q⟩
      · exact q.elim
    · rename_i ds ev
      split at q
      · rename_i hl
        obtain ⟨p, vs, rfl, h1, h2⟩ := view_lst rel rp ev
        exact (pg_lst (n := n) c.ccalm (h.run X c st) (hn _) (hst _)).run pins s σ H _ u Q I r ⟨p, vs, rfl, .of h1, by rw [← h2.length]; exact hl, En, F, R, E, S, ds, rel, h2, q⟩
      · exact q.elim
    · rename_i ds ev
      split at q
      · rename_i hl
        obtain ⟨p, vs, rfl, h1, h2⟩ := view_scr rel rp ev
        exact (pg_lst (n := n) c.ccalm (h.run X c st) (hn _) (hst _)).run pins s σ H _ u Q I r ⟨p, vs, rfl, by rw [c.cK]; exact h1, by rw [← h2.length]; exact hl, En, F, R, E, S, ds, rel, h2, q⟩
      · exact q.elim
    · exact q.elim⟩⟩
theorem stD_ok {K : PySem.W.Frag} {En : Ent} {F : Hp} {R : List Addr} {E : Ev} {S : Store} {σ : L2.St} {H : Hp} {Q : L2.St → Hp → Prop} {n i : Nat} {ds : List D} {vs : List V} (rel : Rel K En F R E S σ H) (rs : Reps K F R ds vs) (q : GoG K En F R S xs σ Q (gs (stD n i ds) E S)) (p : Addr) (hp : H p = none) :
    tGs K xs gs (vs.take i ++ [.ref p] ++ (vs.drop i).drop (vs.length + 1 - n)) σ (upd H p (.lst ((vs.drop i).take (vs.length + 1 - n)))) Q := by
  obtain ⟨h1, h2, h3, h4⟩ := rel.fresh hp
  obtain ⟨le, rel2⟩ := (rel.laid (o := .lst ((vs.drop i).take (vs.length + 1 - n))) hp).freeze upd_same h1 h2 h3 h4
  refine ⟨En, _, R, E, S, stD n i ds, rel2, ?_, q.mono le⟩
  unfold stD
  rw [rs.length]
  have rs' := rs.mono le _ _
  exact ((rs'.take i).append (.cons (.lst upd_same ((rs'.drop i).take _)) .nil)).append ((rs'.drop i).drop _)
theorem dg_star {kk n i : Nat} (h : DGs G k N sc es xs gs) (hn : ∀ env, (assignEach es env).length = n := by intro _; rfl) (hst : ∀ env, (assignEach es env).findIdx? (·.1) = some i := by intro _; rfl) : DG G k N sc (.Tuple es kk pos) xs (gSt n i gs) :=
  ⟨fun X c st => ⟨fun pins s σ H v u Q I r q => by
    obtain ⟨En, F, R, E, S, d, rel, rp, q⟩ := q
    have fin : ∀ p vs ds, v = .ref p → (SqT X.K H p vs ∨ SqL X.K H p vs) → Reps G.K F R ds vs → i < n → n ≤ ds.length + 1 → GoG G.K En F R S xs σ Q (gs (stD n i ds) E S) → wpAny (model X.prog X.w) X.A (assign (.Tuple es kk pos) X.env u) (fun _ s' => ∃ σ' H', Inv X pins σ' H' s' ∧ Q σ' H') X.xe s := fun p vs ds ev sq rs hi hl q => by
      subst ev
      exact (pg_star (n := n) (i := i) c.ccalm (h.run X c st) (hn _) (hst _)).run pins s σ H _ u Q I r ⟨p, vs, rfl, sq, hi, by rw [← rs.length]; exact hl, fun p hp => stD_ok rel rs q p hp⟩
    unfold gSt at q
    split at q
    · rename_i ds ev
      split at q
      · rename_i hl
        obtain ⟨p, vs, e, h1, h2⟩ := view_tup rel rp ev
        exact fin p vs ds e (.inl (by rw [c.cK]; exact h1)) h2 hl.1 hl.2 q
      · exact q.elim
    · rename_i ds ev
      split at q
      · rename_i hl
        obtain ⟨p, vs, e, h1, h2⟩ := view_lst rel rp ev
        exact fin p vs ds e (.inr (.of h1)) h2 hl.1 hl.2 q
      · exact q.elim
    · rename_i ds ev
      split at q
      · rename_i hl
        obtain ⟨p, vs, e, h1, h2⟩ := view_scr rel rp ev
        exact fin p vs ds e (.inr (by rw [c.cK]; exact h1)) h2 hl.1 hl.2 q
      · exact q.elim
    · exact q.elim⟩⟩
/-- target = value -/
def setG (m : M DV) (g : MG) : MS := withE m fun dv E S => match g dv.frz E S with
  | some E1 => .nx E1 S
  | none => .bad
theorem ds_asg {tg : Expr} {m : M DV} (he : DE G k N sc e m) (hg : DG G k N sc tg xs g) (hs : ∀ env, swapsWithSole [tg] e pos.line env = pure false := by intro _; rfl) (hw : ∀ env, swappedStores [tg] e env = pure none := by intro _; rfl)
    (h1 : ∀ env, (assignEach [tg] env).map (·.2) = [assign tg env] := by intro _; rfl) : DS G k N sc (.Assign [tg] e pos) (setG m g) :=
  ⟨fun X W c tk => ps_imp (ps_asg (he.run X W c.e tk) (hg.run X c.e fun x _ => .inl (c.cfn x.1)) (hs _) (hw _) (h1 _)) fun D σ H h => by
    obtain ⟨En, F, R, E, S, rel, h⟩ := h
    refine withE_thenF rel h fun F1 R1 H1 dv v S1 le rel1 rp q => ⟨En, F1, R1, E, S1, _, rel1, rp, ?_⟩
    cases e1 : g dv.frz E S1 with
    | none => rw [e1] at q; exact q.elim
    | some E1 => rw [e1] at q; exact fun F2 R2 σ2 H2 l r _ => q F2 R2 σ2 H2 l r⟩
end
end Hm
set_option Elab.async false
set_option linter.all false
set_option maxRecDepth 100000
set_option maxHeartbeats 2000000
namespace Hm
open PySem PySem.Spec L2

/-! ### what is walked -/
structure Wk where
  ds : List D
  gd : Option (Store → Prop)
def Wk.ok (t : Wk) (S : Store) : Prop := match t.gd with
  | none => True
  | some p => p S
def kD : Key → D
  | .inl i => .int i
  | .inr s => .str s
structure WalkD (K : PySem.W.Frag) (F : Hp) (R : List Addr) (J : It) (t : Wk) : Prop where
  ex : ∃ (G : Hp → Prop) (Y : Nat → Hp → V → Hp → Prop), Walk J t.ds.length G Y ∧
    (∀ (En : Ent) (F2 : Hp) (R2 : List Addr) (E : Ev) (S : Store) (σ : L2.St) (H : Hp), Le F R F2 R2 → Rel K En F2 R2 E S σ H → t.ok S → G H) ∧
    (∀ (En : Ent) (F2 : Hp) (R2 : List Addr) (E : Ev) (S : Store) (σ : L2.St) (H : Hp) (i : Nat) (x : V) (H' : Hp), Le F R F2 R2 → Rel K En F2 R2 E S σ H → t.ok S → i < t.ds.length → Y i H x H' →
      ∃ F3 d, Le F2 R2 F3 R2 ∧ Rel K En F3 R2 E S σ H' ∧ t.ds[i]? = some d ∧ Rep K F3 R2 d x)
def tI (K : PySem.W.Frag) (m : M Wk) (W : WX) : TI := fun σ H Q => ∃ (En : Ent) (F : Hp) (R : List Addr) (E : Ev) (S : Store), Rel K En F R E S σ H ∧
  PostX K En F R E σ W (fun F' R' H' t S' => t.ok S' ∧ ∀ (F2 : Hp) (H2 : Hp) (J : It), Le F' R' F2 R' → Rel K En F2 R' E S' σ H2 → WalkD K F2 R' J t → Q J H2) (m E S)
structure DI (G : Gs) (k : Nat) (N : List Str) (sc : Scope) (tg e : Expr) (m : M Wk) : Prop where
  run : ∀ (X : Cx) (W : WX), CtxE G k N sc X → Takes X W → PI X tg e (tI G.K m W)
theorem pi_imp {X : Cx} {tg e : Expr} {t t' : TI} (h : PI X tg e t) (k : ∀ σ H Q, t' σ H Q → t σ H Q) : PI X tg e t' :=
  ⟨fun pins s σ H Q I q => h.run pins s σ H Q I (k σ H Q q)⟩
/-- the dict that came is locked -/
def tLk (t : TE) : TE := fun σ H Q => t σ H fun x H1 => Q x H1 ∨ ∃ d ks, x = .ref d ∧ H1 d = some (.dK ks) ∧ ∀ od, Q x (upd H1 d (.frz od (.dK ks)))
theorem pe_lk {X : Cx} {e : Expr} {t : TE} (h : PE X e t) : PE X e (tLk t) :=
  ⟨fun pins s σ H Q I q => thn (h.run pins s σ H _ I q) fun v s1 ⟨x, H1, I1, r1, q1⟩ => by
    rcases q1 with q1 | ⟨d, ks, rfl, hd, q1⟩
    · exact ⟨x, H1, I1, r1, q1⟩
    · obtain ⟨od, I2⟩ := I1.lock hd trivial
      exact ⟨_, _, I2, r1, q1 od⟩⟩
section
variable {K : PySem.W.Frag} {F : Hp} {R : List Addr} {ds es : List D} {a b : Addr} {vs us : List V}
theorem sq_of {F2 : Hp} {R2 : List Addr} {En : Ent} {E : Ev} {S : Store} {σ : L2.St} {H : Hp} (h : SqL K F a vs) (le : Le F R F2 R2) (rel : Rel K En F2 R2 E S σ H) : SqL K H a vs := sqL_same rel.frz (sqL_mono le h)
theorem sqt_of {F2 : Hp} {R2 : List Addr} {En : Ent} {E : Ev} {S : Store} {σ : L2.St} {H : Hp} (h : SqT K F a vs) (le : Le F R F2 R2) (rel : Rel K En F2 R2 E S σ H) : SqT K H a vs := sqT_same rel.frz (sqT_mono le h)
theorem wd_lst (h : SqL K F a vs) (rs : Reps K F R ds vs) : WalkD K F R (Itl K a) ⟨ds, none⟩ := by
  refine ⟨⟨_, _, by rw [rs.length]; exact walk_list (xs := vs), fun En F2 R2 E S σ H le rel _ => sq_of h le rel, fun En F2 R2 E S σ H i x H' le rel _ hi y => ?_⟩⟩
  obtain ⟨rfl, e⟩ := y
  obtain ⟨d, e1, r1⟩ := rs.get e
  exact ⟨F2, d, Le.refl, rel, e1, r1.mono le _ _⟩
theorem wd_tup (h : SqT K F a vs) (rs : Reps K F R ds vs) : WalkD K F R (Itt K a) ⟨ds, none⟩ := by
  refine ⟨⟨_, _, by rw [rs.length]; exact walk_tup (xs := vs), fun En F2 R2 E S σ H le rel _ => sqt_of h le rel, fun En F2 R2 E S σ H i x H' le rel _ hi y => ?_⟩⟩
  obtain ⟨rfl, e⟩ := y
  obtain ⟨d, e1, r1⟩ := rs.get e
  exact ⟨F2, d, Le.refl, rel, e1, r1.mono le _ _⟩
/-- a cell's list, as long as it stays -/
theorem wd_cell {k : Nat} (hk : R[k]? = some a) : WalkD K F R (Itl K a) ⟨ds, some fun S => S[k]? = some (.lst ds)⟩ := by
  have get : ∀ {En : Ent} {F2 : Hp} {R2 : List Addr} {E : Ev} {S : Store} {σ : L2.St} {H : Hp}, Le F R F2 R2 → Rel K En F2 R2 E S σ H → S[k]? = some (.lst ds) → ∃ vs, SqL K H a vs ∧ Reps K F2 R2 ds vs := fun le rel e => by
    obtain ⟨⟨vs, h1, h2⟩, _⟩ := rel.cell k _ a e (le.r k a hk)
    exact ⟨vs, .of h1, h2⟩
  refine ⟨⟨fun H => ∃ vs, SqL K H a vs ∧ vs.length = ds.length, fun i H x H' => H' = H ∧ ∀ vs, SqL K H a vs → vs[i]? = some x, ⟨fun i H hi ⟨vs, q, l⟩ => ?_, fun H ⟨vs, q, l⟩ => ⟨vs, q, Nat.le_of_eq l⟩, fun i H x H' _ _ y => y⟩, fun En F2 R2 E S σ H le rel ok => ?_, fun En F2 R2 E S σ H i x H' le rel ok hi y => ?_⟩⟩
  · have hi' : i < vs.length := by rw [l]; exact hi
    exact ⟨vs, vs[i], q, List.getElem?_eq_getElem hi'⟩
  · obtain ⟨vs, h1, h2⟩ := get le rel ok
    exact ⟨vs, h1, h2.length.symm⟩
  · obtain ⟨rfl, e⟩ := y
    obtain ⟨vs, h1, h2⟩ := get le rel ok
    obtain ⟨d, e1, r1⟩ := h2.get (e vs h1)
    exact ⟨F2, d, Le.refl, rel, e1, r1⟩
theorem wd_rng {lo : Int} {n : Nat} : WalkD K F R (Itr lo n) ⟨(List.range n).map fun i => .int (lo + (i : Nat)), none⟩ := by
  refine ⟨⟨_, _, by rw [List.length_map, List.length_range]; exact walk_range (lo := lo) (n := n), fun _ _ _ _ _ _ _ _ _ _ => trivial, fun En F2 R2 E S σ H i x H' le rel _ hi y => ?_⟩⟩
  obtain ⟨rfl, rfl⟩ := y
  have hi : i < ((List.range n).map fun i => D.int (lo + (i : Nat))).length := hi
  rw [List.length_map, List.length_range] at hi
  refine ⟨F2, .int (lo + i), Le.refl, rel, ?_, .int _⟩
  show ((List.range n).map fun i => D.int (lo + (i : Nat)))[i]? = _
  rw [List.getElem?_map, List.getElem?_range hi]
  rfl
theorem wd_rngC {lo c : Int} {n : Nat} : WalkD K F R (Itc lo c n) ⟨(List.range n).map fun i => .int (lo + (i : Nat) * c), none⟩ := by
  refine ⟨⟨_, _, by rw [List.length_map, List.length_range]; exact walk_rangeC (lo := lo) (c := c) (n := n), fun _ _ _ _ _ _ _ _ _ _ => trivial, fun En F2 R2 E S σ H i x H' le rel _ hi y => ?_⟩⟩
  obtain ⟨rfl, rfl⟩ := y
  have hi : i < ((List.range n).map fun i => D.int (lo + (i : Nat) * c)).length := hi
  rw [List.length_map, List.length_range] at hi
  refine ⟨F2, .int (lo + i * c), Le.refl, rel, ?_, .int _⟩
  show ((List.range n).map fun i => D.int (lo + (i : Nat) * c))[i]? = _
  rw [List.getElem?_map, List.getElem?_range hi]
  rfl
def signs (z : Str) : List D := z.cps.toList.map fun c => .str ⟨#[c]⟩
theorem wd_str {z : Str} : WalkD K F R (Its z) ⟨signs z, none⟩ := by
  have hl : (signs z).length = z.cps.size := by unfold signs; rw [List.length_map]; simp
  refine ⟨⟨_, _, by rw [hl]; exact walk_str (z := z), fun _ _ _ _ _ _ _ _ _ _ => trivial, fun En F2 R2 E S σ H i x H' le rel _ hi y => ?_⟩⟩
  obtain ⟨rfl, c, e, rfl⟩ := y
  refine ⟨F2, .str ⟨#[c]⟩, Le.refl, rel, ?_, .str _⟩
  show (signs z)[i]? = _
  unfold signs
  rw [List.getElem?_map, Array.getElem?_toList, e]
  rfl
theorem RepK.get : ∀ {ds : List (Key × D)} {vs : List (Key × V)} {i : Nat} {k : Key} {v : V}, RepK K F R ds vs → vs[i]? = some (k, v) → ∃ d, ds[i]? = some (k, d) ∧ Rep K F R d v
  | _, _, _, _, _, .nil, e => by simp at e
  | _, _, 0, _, _, .cons r _, e => by simp at e; obtain ⟨rfl, rfl⟩ := e; exact ⟨_, rfl, r⟩
  | _, _, i + 1, _, _, .cons _ t, e => by
    obtain ⟨d, h1, h2⟩ := RepK.get (i := i) t (by simpa using e)
    exact ⟨d, by simpa using h1, h2⟩
theorem rep_kV {k : Key} : Rep K F R (kD k) (kV k) := by
  cases k with
  | inl i => exact .int i
  | inr s => exact .str s
theorem wd_keys {o : Obj} {kvs : List (Key × D)} {ks : List (Key × V)} (h : F a = some (.frz o (.dK ks))) (rs : RepK K F R kvs ks) : WalkD K F R (Itk a o ks) ⟨kvs.map fun kv => kD kv.1, none⟩ := by
  refine ⟨⟨_, _, by rw [List.length_map, rs.length]; exact walk_keys (o := o) (d := a) (kvs := ks), fun En F2 R2 E S σ H le rel _ => rel.frz _ _ (le.at_ h lk_frz), fun En F2 R2 E S σ H i x H' le rel _ hi y => ?_⟩⟩
  obtain ⟨rfl, k, v, e, rfl⟩ := y
  obtain ⟨d, e1, r1⟩ := rs.get e
  refine ⟨F2, kD k, Le.refl, rel, ?_, rep_kV⟩
  show (kvs.map fun kv => kD kv.1)[i]? = _
  rw [List.getElem?_map, e1]
  rfl
theorem wd_vals {o : Obj} {kvs : List (Key × D)} {ks : List (Key × V)} (h : F a = some (.frz o (.dK ks))) (rs : RepK K F R kvs ks) : WalkD K F R (Itd a o ks) ⟨kvs.map fun kv => kv.2, none⟩ := by
  refine ⟨⟨_, _, by rw [List.length_map, rs.length]; exact walk_values (o := o) (d := a) (kvs := ks), fun En F2 R2 E S σ H le rel _ => rel.frz _ _ (le.at_ h lk_frz), fun En F2 R2 E S σ H i x H' le rel _ hi y => ?_⟩⟩
  obtain ⟨rfl, k, e⟩ := y
  obtain ⟨d, e1, r1⟩ := rs.get e
  refine ⟨F2, d, Le.refl, rel, ?_, r1.mono le _ _⟩
  show (kvs.map fun kv => kv.2)[i]? = _
  rw [List.getElem?_map, e1]
  rfl
/-- a new pair -/
theorem pair_new {En : Ent} {F2 : Hp} {R2 : List Addr} {E : Ev} {S : Store} {σ : L2.St} {H : Hp} {T : Addr} {x y : V} {d e : D} (rel : Rel K En F2 R2 E S σ H) (hT : H T = none) (rx : Rep K F2 R2 d x) (ry : Rep K F2 R2 e y) :
    ∃ F3, Le F2 R2 F3 R2 ∧ Rel K En F3 R2 E S σ (upd H T (.tup [x, y])) ∧ Rep K F3 R2 (.tup [d, e]) (.ref T) := by
  obtain ⟨h1, h2, h3, h4⟩ := rel.fresh hT
  obtain ⟨le, rel2⟩ := (rel.laid (o := .tup [x, y]) hT).freeze upd_same h1 h2 h3 h4
  exact ⟨_, le, rel2, .tup (.of upd_same) (.cons (rx.mono le _ _) (.cons (ry.mono le _ _) .nil))⟩
theorem wd_pair {J : It} {n : Nat} {xs ys : Nat → Option V} {ds : List D} {G : Hp → Prop} (wk : Walk J n G (YPair xs ys)) (hn : n = ds.length) (hG : ∀ (En : Ent) (F2 : Hp) (R2 : List Addr) (E : Ev) (S : Store) (σ : L2.St) (H : Hp), Le F R F2 R2 → Rel K En F2 R2 E S σ H → G H)
    (hd : ∀ (i : Nat) (x y : V), xs i = some x → ys i = some y → ∃ d e, ds[i]? = some (.tup [d, e]) ∧ Rep K F R d x ∧ Rep K F R e y) : WalkD K F R J ⟨ds, none⟩ := by
  subst hn
  refine ⟨⟨G, _, wk, fun En F2 R2 E S σ H le rel _ => hG En F2 R2 E S σ H le rel, fun En F2 R2 E S σ H i x H' le rel _ hi y => ?_⟩⟩
  obtain ⟨T, x1, y1, rfl, hT, rfl, e1, e2⟩ := y
  obtain ⟨d, e, e3, r1, r2⟩ := hd i x1 y1 e1 e2
  obtain ⟨F3, le3, rel3, rp⟩ := pair_new rel hT (r1.mono le _ _) (r2.mono le _ _)
  exact ⟨F3, _, le3, rel3, e3, rp⟩
theorem wd_items {o : Obj} {kvs : List (Key × D)} {ks : List (Key × V)} (h : F a = some (.frz o (.dK ks))) (rs : RepK K F R kvs ks) : WalkD K F R (Iti a o ks) ⟨kvs.map fun kv => .tup [kD kv.1, kv.2], none⟩ := by
  refine wd_pair (walk_items (o := o) (d := a) (kvs := ks)) (by rw [List.length_map, rs.length]) (fun En F2 R2 E S σ H le rel => rel.frz _ _ (le.at_ h lk_frz)) fun i x y e1 e2 => ?_
  cases e : ks[i]? with
  | none => rw [e] at e1; cases e1
  | some kv =>
    obtain ⟨k, v⟩ := kv
    rw [e] at e1 e2
    cases e1
    cases e2
    obtain ⟨d, e3, r1⟩ := rs.get e
    exact ⟨kD k, d, by rw [List.getElem?_map, e3]; rfl, rep_kV, r1⟩
def enumL : Nat → List D → List D
  | _, [] => []
  | n, d :: ds => .tup [.int (n : Nat), d] :: enumL (n + 1) ds
theorem enumL_length : ∀ (n : Nat) (ds : List D), (enumL n ds).length = ds.length
  | _, [] => rfl
  | n, _ :: ds => congrArg (· + 1) (enumL_length (n + 1) ds)
theorem enumL_get : ∀ (n : Nat) (ds : List D) (i : Nat) (d : D), ds[i]? = some d → (enumL n ds)[i]? = some (.tup [.int ((n + i : Nat)), d])
  | _, [], _, _, e => by simp at e
  | n, _ :: ds, 0, _, e => by simp at e; subst e; rfl
  | n, _ :: ds, i + 1, d, e => by
    show (enumL (n + 1) ds)[i]? = _
    rw [enumL_get (n + 1) ds i d (by simpa using e), show n + 1 + i = n + (i + 1) by omega]
theorem wd_enum (h : SqL K F a vs) (rs : Reps K F R ds vs) : WalkD K F R (Ite K a) ⟨enumL 0 ds, none⟩ := by
  refine wd_pair (walk_enum (a := a) (xs := vs)) (by rw [enumL_length, rs.length]) (fun En F2 R2 E S σ H le rel => sq_of h le rel) fun i x y e1 e2 => ?_
  cases e1
  obtain ⟨d, e3, r1⟩ := rs.get e2
  exact ⟨.int (i : Nat), d, by rw [enumL_get 0 ds i d e3, Nat.zero_add], .int _, r1⟩
def zipL : List D → List D → List D
  | d :: ds, e :: es => .tup [d, e] :: zipL ds es
  | _, _ => []
theorem zipL_length : ∀ (ds es : List D), (zipL ds es).length = min ds.length es.length
  | [], _ => by simp [zipL]
  | _ :: _, [] => by simp [zipL]
  | _ :: ds, _ :: es => by simp [zipL, zipL_length ds es]
theorem zipL_get : ∀ (ds es : List D) (i : Nat) (d e : D), ds[i]? = some d → es[i]? = some e → (zipL ds es)[i]? = some (.tup [d, e])
  | [], _, _, _, _, e, _ => by simp at e
  | _ :: _, [], _, _, _, _, e => by simp at e
  | _ :: ds, _ :: es, 0, _, _, e1, e2 => by simp at e1 e2; subst e1 e2; rfl
  | _ :: ds, _ :: es, i + 1, d, e, e1, e2 => by
    show (zipL ds es)[i]? = _
    exact zipL_get ds es i d e (by simpa using e1) (by simpa using e2)
theorem wd_zip (h : SqL K F a vs) (g : SqL K F b us) (rs : Reps K F R ds vs) (qs : Reps K F R es us) : WalkD K F R (Itz K a b) ⟨zipL ds es, none⟩ := by
  refine wd_pair (walk_zip (a := a) (b := b) (xs := vs) (ys := us) rfl) (by rw [zipL_length, rs.length, qs.length]) (fun En F2 R2 E S σ H le rel => ⟨sq_of h le rel, sq_of g le rel⟩) fun i x y e1 e2 => ?_
  obtain ⟨d, e3, r1⟩ := rs.get e1
  obtain ⟨e, e4, r2⟩ := qs.get e2
  exact ⟨d, e, zipL_get ds es i d e e3 e4, r1, r2⟩
end
end Hm
set_option Elab.async false
set_option linter.all false
set_option maxRecDepth 100000
set_option maxHeartbeats 2000000
namespace Hm
open PySem PySem.Spec L2

/-! ### iterables -/
def itV (d : D) (S : Store) : Option Wk := match d with
  | .ref k => (match S[k]? with
    | some (.lst ds) => some ⟨ds, some fun S => S[k]? = some (.lst ds)⟩
    | _ => none)
  | .lst ds => some ⟨ds, none⟩
  | .scr ds => some ⟨ds, none⟩
  | .tup ds => some ⟨ds, none⟩
  | .str z => some ⟨signs z, none⟩
  | .dct kvs => some ⟨kvs.map fun kv => kD kv.1, none⟩
  | _ => none
theorem itV_ref {j : Nat} {S : Store} {t : Wk} (h : itV (.ref j) S = some t) : ∃ ds, S[j]? = some (.lst ds) ∧ t = ⟨ds, some fun S => S[j]? = some (.lst ds)⟩ := by
  cases e : S[j]? with
  | none => simp only [itV, e] at h; cases h
  | some c => cases c with
    | lst ds => simp only [itV, e] at h; cases h; exact ⟨ds, rfl, rfl⟩
    | dct ds => simp only [itV, e] at h; cases h
    | ins c fs => simp only [itV, e] at h; cases h
def mWk (f : D → Store → Option Wk) (m : M DV) : M Wk := bnd m fun x _ S => match f x.frz S with
  | some t => .ok t S
  | none => .bad
section
variable {K : PySem.W.Frag} {En : Ent} {F : Hp} {R : List Addr} {E : Ev} {S : Store} {σ : L2.St} {H : Hp} {W : WX} {Q : It → Hp → Prop}
/-- what is wished behind an iterable -/
def Wis (K : PySem.W.Frag) (En : Ent) (E : Ev) (σ : L2.St) (Q : It → Hp → Prop) (F : Hp) (R : List Addr) (t : Wk) (S : Store) : Prop :=
  t.ok S ∧ ∀ (F2 : Hp) (H2 : Hp) (J : It), Le F R F2 R → Rel K En F2 R E S σ H2 → WalkD K F2 R J t → Q J H2
theorem Wis.mono {F' : Hp} {R' : List Addr} {t : Wk} (le : Le F R F' R) (h : Wis K En E σ Q F R t S) : Wis K En E σ Q F' R t S := ⟨h.1, fun F2 H2 J l r w => h.2 F2 H2 J (le.trans l) r w⟩
theorem wk_then {f : D → Store → Option Wk} {m : M DV} {k : V → Hp → Prop} (rel : Rel K En F R E S σ H) (h : PostX K En F R E σ W (fun F' R' H' t S' => Wis K En E σ Q F' R' t S') (mWk f m E S))
    (hk : ∀ F1 R1 H1 x v S1 t, m E S = .ok x S1 → f x.frz S1 = some t → Le F R F1 R1 → Rel K En F1 R1 E S1 σ H1 → Rep K F1 R1 x.frz v → Wis K En E σ Q F1 R1 t S1 → k v H1) : tD K m W σ H k := by
  cases e : m E S with
  | bad => unfold mWk bnd at h; rw [e] at h; exact h.elim
  | ex c fs S1 => unfold mWk bnd at h; rw [e] at h; exact ⟨En, F, R, E, S, rel, by rw [e]; exact h⟩
  | ok x S1 =>
    unfold mWk bnd at h
    rw [e] at h
    dsimp only at h
    cases e2 : f x.frz S1 with
    | none => rw [e2] at h; exact h.elim
    | some t =>
      rw [e2] at h
      refine ⟨En, F, R, E, S, rel, ?_⟩
      rw [e]
      intro F1 R1 H1 le rel1 v hv
      obtain ⟨F2, le2, rel2, rp⟩ := hv.freeze rel1
      exact hk F2 R1 H1 x v S1 t e e2 (le.trans le2) rel2 rp (Wis.mono le2 (R' := R1) (h F1 R1 H1 le rel1))
end
section
variable {G : Gs} {k : Nat} {N : List Str} {sc : Scope} {tg e : Expr} {m : M DV} {pos p : Pos} {xs : List (Str × Nat)} {g : MG}
theorem di_val (he : DE G k N sc e m) : DI G k N sc tg e (mWk itV m) :=
  ⟨fun X W c tk => ⟨fun pins s σ H Q I h => by
    obtain ⟨En, F, R, E, S, rel, h⟩ := h
    have h' : PostX G.K En F R E σ W (fun F' R' H' t S' => Wis G.K En E σ Q F' R' t S') (mWk itV m E S) := h
    have pe := he.run X W c tk
    have viaL : (∀ x S1 t, m E S = .ok x S1 → itV x.frz S1 = some t → ∀ F1 R1 H1 v, Rel G.K En F1 R1 E S1 σ H1 → Rep G.K F1 R1 x.frz v → ∃ a, v = .ref a ∧ (∃ xs, SqL G.K H1 a xs) ∧ WalkD G.K F1 R1 (Itl G.K a) t) → iList X.K (tD G.K m W) σ H Q := fun hh => by
      refine wk_then rel h' fun F1 R1 H1 x v S1 t e1 e2 le rel1 rp w => ?_
      obtain ⟨a, ea, hs, wd⟩ := hh x S1 t e1 e2 F1 R1 H1 v rel1 rp
      refine ⟨a, ea, by rw [c.cK]; exact hs, ?_⟩
      rw [c.cK]
      exact w.2 F1 H1 _ Le.refl rel1 wd
    cases e1 : m E S with
    | bad => unfold mWk bnd at h; rw [e1] at h; exact h.elim
    | ex cc fs S1 => exact (pi_list pe).run pins s σ H Q I (viaL fun x S1 t z => by rw [e1] at z; cases z)
    | ok x S1 =>
      have go : ∀ d, x.frz = d → wpAny (model X.prog X.w) X.A (eval e X.env) (fun v s1 => wpAny (model X.prog X.w) X.A (pyIter v) (PIE X pins σ tg Q) X.xe s1) X.xe s := fun d ed => by
        have nope : itV d S1 = none → wpAny (model X.prog X.w) X.A (eval e X.env) (fun v s1 => wpAny (model X.prog X.w) X.A (pyIter v) (PIE X pins σ tg Q) X.xe s1) X.xe s := fun z => by
          unfold mWk bnd at h
          rw [e1] at h
          dsimp only at h
          rw [ed, z] at h
          exact h.elim
        cases d with
        | lst ds =>
          refine (pi_list pe).run pins s σ H Q I (viaL fun x' S1' t z z2 F1 R1 H1 v rel1 rp => ?_)
          rw [e1] at z
          cases z
          rw [ed] at rp z2
          cases z2
          cases rp with
          | lst h1 h2 => exact ⟨_, rfl, ⟨_, .of (rel1.frz _ _ h1)⟩, wd_lst (.of h1) h2⟩
        | scr ds =>
          refine (pi_list pe).run pins s σ H Q I (viaL fun x' S1' t z z2 F1 R1 H1 v rel1 rp => ?_)
          rw [e1] at z
          cases z
          rw [ed] at rp z2
          cases z2
          cases rp with
          | scr h1 h2 => exact ⟨_, rfl, ⟨_, sqL_same rel1.frz h1⟩, wd_lst h1 h2⟩
        | ref j =>
          refine (pi_list pe).run pins s σ H Q I (viaL fun x' S1' t z z2 F1 R1 H1 v rel1 rp => ?_)
          rw [e1] at z
          cases z
          rw [ed] at rp z2
          cases rp with
          | ref hk =>
            rename_i a
            obtain ⟨ds, hs, rfl⟩ := itV_ref z2
            obtain ⟨⟨vs, h1, h2⟩, _⟩ := rel1.cell _ _ a hs hk
            exact ⟨a, rfl, ⟨vs, .of h1⟩, wd_cell hk⟩
        | tup ds =>
          refine (pi_tup pe).run pins s σ H Q I ?_
          refine wk_then rel h' fun F1 R1 H1 x' v S1' t z z2 le rel1 rp w => ?_
          rw [e1] at z
          cases z
          rw [ed] at rp z2
          cases z2
          cases rp with
          | tup h1 h2 =>
            refine ⟨_, rfl, ⟨_, by rw [c.cK]; exact sqT_same rel1.frz h1⟩, ?_⟩
            rw [c.cK]
            exact w.2 F1 H1 _ Le.refl rel1 (wd_tup h1 h2)
        | str zz =>
          refine (pi_str pe).run pins s σ H Q I ?_
          refine wk_then rel h' fun F1 R1 H1 x' v S1' t z z2 le rel1 rp w => ?_
          rw [e1] at z
          cases z
          rw [ed] at rp z2
          cases z2
          cases rp
          exact ⟨_, rfl, w.2 F1 H1 _ Le.refl rel1 wd_str⟩
        | dct kvs =>
          refine (pi_keys (pe_lk pe)).run pins s σ H Q I ?_
          refine wk_then rel h' fun F1 R1 H1 x' v S1' t z z2 le rel1 rp w => ?_
          rw [e1] at z
          cases z
          rw [ed] at rp z2
          cases z2
          cases rp with
          | dct h1 h2 =>
            rename_i a ks
            rcases h1 with h1 | ⟨od, h1⟩
            · refine .inr ⟨a, ks, rfl, rel1.frz _ _ h1, fun od => ?_⟩
              obtain ⟨le2, rel2⟩ := rel1.lock (od := od) h1
              exact ⟨a, od, rfl, .inl ⟨ks, upd_same, w.2 _ _ _ le2 rel2 (wd_keys upd_same (h2.mono le2 _ _))⟩⟩
            · exact .inl ⟨a, od, rfl, .inl ⟨ks, rel1.frz _ _ h1, w.2 F1 H1 _ Le.refl rel1 (wd_keys h1 h2)⟩⟩
        | non => exact nope rfl
        | bl b => exact nope rfl
        | int i => exact nope rfl
        | ty n => exact nope rfl
        | obj n => exact nope rfl
      exact go _ rfl⟩⟩
/-! ranges -/
def fit62 (i : Int) : Bool := decide (-(2 ^ 62) ≤ i) && decide (i < 2 ^ 62)
theorem fit62_ok {i : Int} (h : fit62 i = true) : -(2 ^ 62) ≤ i ∧ i < 2 ^ 62 := by
  unfold fit62 at h
  simp only [Bool.and_eq_true, decide_eq_true_eq] at h
  exact h
def rngL (lo : Int) (n : Nat) : Wk := ⟨(List.range n).map fun i => .int (lo + (i : Nat)), none⟩
def rngC (lo c : Int) (n : Nat) : Wk := ⟨(List.range n).map fun i => .int (lo + (i : Nat) * c), none⟩
def mR1 (ms : M (List D)) : M Wk := bnd ms fun ds _ S => match ds with
  | [.int j] => if fit62 j then .ok (rngL 0 j.toNat) S else .bad
  | _ => .bad
def mR2 (ms : M (List D)) : M Wk := bnd ms fun ds _ S => match ds with
  | [.int i, .int j] => if fit62 i && fit62 j then .ok (rngL i (j - i).toNat) S else .bad
  | _ => .bad
theorem reps1 {K : PySem.W.Frag} {F : Hp} {R : List Addr} {d : D} {vs : List V} (h : Reps K F R [d] vs) : ∃ v, vs = [v] ∧ Rep K F R d v := by
  cases h with
  | cons r t => cases t; exact ⟨_, rfl, r⟩
theorem reps2 {K : PySem.W.Frag} {F : Hp} {R : List Addr} {d e : D} {vs : List V} (h : Reps K F R [d, e] vs) : ∃ v w, vs = [v, w] ∧ Rep K F R d v ∧ Rep K F R e w := by
  cases h with
  | cons r t => cases t with
    | cons r2 t => cases t; exact ⟨_, _, rfl, r, r2⟩
theorem di_rng1 {ms : M (List D)} (hm : G.mg "range" = none) (ha : DA G k N sc [e] ms) (hg : sc.names.lookup ("range" : Str) = some .globalImplicit := by rfl) (hs : ∀ env, starEach [e] env = [(false, eval e env)] := by intro _; rfl) : DI G k N sc tg (.Call (.Name "range" p) [e] [] pos) (mR1 ms) :=
  ⟨fun X W c tk => pi_imp (pi_range1 (gl_of c hg) (by rw [c.cmg]; exact hm) (ha.run X W c tk) (hs _)) fun σ H Q h => by
    obtain ⟨En, F, R, E, S, rel, h⟩ := h
    refine tA_then rel h fun F1 R1 H1 ds vs S1 le rel1 rs h1 => ?_
    split at h1
    · rename_i j
      split at h1
      · rename_i hf
        obtain ⟨v, rfl, r⟩ := reps1 rs
        cases r
        obtain ⟨q1, q2⟩ := fit62_ok hf
        exact ⟨j, rfl, q1, q2, (h1 F1 R1 H1 Le.refl rel1).2 F1 H1 _ Le.refl rel1 wd_rng⟩
      · exact h1.elim
    · exact h1.elim⟩
theorem di_rng2 {a b : Expr} {ms : M (List D)} (hm : G.mg "range" = none) (ha : DA G k N sc [a, b] ms) (hg : sc.names.lookup ("range" : Str) = some .globalImplicit := by rfl) (hs : ∀ env, starEach [a, b] env = [(false, eval a env), (false, eval b env)] := by intro _; rfl)
    (hs2 : ∀ env, starEach [b] env = [(false, eval b env)] := by intro _; rfl) : DI G k N sc tg (.Call (.Name "range" p) [a, b] [] pos) (mR2 ms) :=
  ⟨fun X W c tk => pi_imp (pi_range2 (gl_of c hg) (by rw [c.cmg]; exact hm) (ha.run X W c tk) (hs _) (hs2 _)) fun σ H Q h => by
    obtain ⟨En, F, R, E, S, rel, h⟩ := h
    refine tA_then rel h fun F1 R1 H1 ds vs S1 le rel1 rs h1 => ?_
    split at h1
    · rename_i i j
      split at h1
      · rename_i hf
        obtain ⟨v, w, rfl, r1, r2⟩ := reps2 rs
        cases r1
        cases r2
        rw [Bool.and_eq_true] at hf
        obtain ⟨q1, q2⟩ := fit62_ok hf.1
        obtain ⟨q3, q4⟩ := fit62_ok hf.2
        exact ⟨i, j, rfl, ⟨q1, q2, q3, q4⟩, (h1 F1 R1 H1 Le.refl rel1).2 F1 H1 _ Le.refl rel1 wd_rng⟩
      · exact h1.elim
    · exact h1.elim⟩
/-! dicts by their methods -/
def dctV (f : Key × D → D) (d : D) (_ : Store) : Option Wk := match d with
  | .dct kvs => some ⟨kvs.map f, none⟩
  | _ => none
theorem dct_then {f : Key × D → D} {X : Cx} {W : WX} {σ : L2.St} {H : Hp} {Q : It → Hp → Prop} {J : Addr → Obj → List (Key × V) → It} (h : tI G.K (mWk (dctV f) m) W σ H Q)
    (wd : ∀ (F : Hp) (R : List Addr) (a : Addr) (o : Obj) (kvs : List (Key × D)) (ks : List (Key × V)), F a = some (.frz o (.dK ks)) → RepK G.K F R kvs ks → WalkD G.K F R (J a o ks) ⟨kvs.map f, none⟩) :
    tLk (tD G.K m W) σ H fun x H1 => ∃ d o kvs, x = .ref d ∧ H1 d = some (.frz o (.dK kvs)) ∧ Q (J d o kvs) H1 := by
  obtain ⟨En, F, R, E, S, rel, h⟩ := h
  have h' : PostX G.K En F R E σ W (fun F' R' H' t S' => Wis G.K En E σ Q F' R' t S') (mWk (dctV f) m E S) := h
  refine wk_then rel h' fun F1 R1 H1 x v S1 t z z2 le rel1 rp w => ?_
  cases ed : x.frz with
  | dct kvs =>
    rw [ed] at rp z2
    cases z2
    cases rp with
    | dct h1 h2 =>
      rename_i a ks
      rcases h1 with h1 | ⟨od, h1⟩
      · refine .inr ⟨a, ks, rfl, rel1.frz _ _ h1, fun od => ?_⟩
        obtain ⟨le2, rel2⟩ := rel1.lock (od := od) h1
        exact ⟨a, od, ks, rfl, upd_same, w.2 _ _ _ le2 rel2 (wd _ _ _ _ _ _ upd_same (h2.mono le2 _ _))⟩
      · exact .inl ⟨a, od, ks, rfl, rel1.frz _ _ h1, w.2 F1 H1 _ Le.refl rel1 (wd _ _ _ _ _ _ h1 h2)⟩
  | _ => rw [ed] at z2; cases z2
theorem di_items {apos cpos tpos : Pos} {elts : List Expr} {kk : Nat} (he : DE G k N sc e m) (hbase : ∀ env, attributeBase e "items" env (eval e env) = eval e env := by intro _; rfl) (hline : (apos.endLine == cpos.line) = true := by rfl) :
    DI G k N sc (.Tuple elts kk tpos) (.Call (.Attribute e "items" apos) [] [] cpos) (mWk (dctV fun kv => .tup [kD kv.1, kv.2]) m) :=
  ⟨fun X W c tk => pi_imp (pi_items (pe_lk (he.run X W c tk)) (hbase _) hline) fun σ H Q h => dct_then (X := X) h fun F R a o kvs ks h1 h2 => wd_items h1 h2⟩
theorem di_values {apos cpos : Pos} (he : DE G k N sc e m) (hbase : ∀ env, attributeBase e "values" env (eval e env) = eval e env := by intro _; rfl) (hline : (apos.endLine == cpos.line) = true := by rfl) :
    DI G k N sc tg (.Call (.Attribute e "values" apos) [] [] cpos) (mWk (dctV fun kv => kv.2) m) :=
  ⟨fun X W c tk => pi_imp (pi_values (pe_lk (he.run X W c tk)) (hbase _) hline) fun σ H Q h => dct_then (X := X) h fun F R a o kvs ks h1 h2 => wd_vals h1 h2⟩
theorem di_keys {apos cpos : Pos} (he : DE G k N sc e m) (hbase : ∀ env, attributeBase e "keys" env (eval e env) = eval e env := by intro _; rfl) (hline : (apos.endLine == cpos.line) = true := by rfl) :
    DI G k N sc tg (.Call (.Attribute e "keys" apos) [] [] cpos) (mWk (dctV fun kv => kD kv.1) m) :=
  ⟨fun X W c tk => pi_imp (pi_keysM (pe_lk (he.run X W c tk)) (hbase _) hline) fun σ H Q h => dct_then (X := X) h fun F R a o kvs ks h1 h2 => wd_keys h1 h2⟩
end
end Hm
set_option Elab.async false
set_option linter.all false
set_option maxRecDepth 100000
set_option maxHeartbeats 2000000
namespace Hm
open PySem PySem.Spec L2

/-! ### for -/
open Classical in
noncomputable def chk {α : Type} (t : Wk) (S : Store) (z r : α) : α := match t.gd with
  | none => r
  | some p => if p S then r else z
theorem chk_cases {α : Type} (t : Wk) (S : Store) (z r : α) : (t.ok S ∧ chk t S z r = r) ∨ chk t S z r = z := by
  unfold Wk.ok chk
  cases t.gd with
  | none => exact .inl ⟨trivial, rfl⟩
  | some p =>
    by_cases h : p S
    · exact .inl ⟨h, if_pos h⟩
    · exact .inr (if_neg h)
noncomputable def loopS (g : MG) (b : MS) (t : Wk) : List D → Ev → Store → RS
  | [], E, S => chk t S .bad (.nx E S)
  | d :: ds, E, S => chk t S .bad (match g d E S with
    | none => .bad
    | some E1 => (match b E1 S with
      | .nx E2 S2 => loopS g b t ds E2 S2
      | .ct E2 S2 => loopS g b t ds E2 S2
      | .bk E2 S2 => .nx E2 S2
      | r => r))
noncomputable def forS (mi : M Wk) (g : MG) (b : MS) : MS := withE mi fun t E S => loopS g b t t.ds E S
theorem loop_ok {K : PySem.W.Frag} {En : Ent} {F : Hp} {R : List Addr} {D : Ends} {W : WX} {g : MG} {b : MS} {t : Wk} : ∀ {ds : List Hm.D} {E : Ev} {S : Store}, PostS K En F R D W (loopS g b t ds E S) → t.ok S
  | [], E, S, h => by
    unfold loopS at h
    rcases chk_cases t S RS.bad (.nx E S) with ⟨q, _⟩ | q
    · exact q
    · rw [q] at h; exact h.elim
  | d :: ds, E, S, h => by
    unfold loopS at h
    rcases chk_cases t S RS.bad _ with ⟨q, _⟩ | q
    · exact q
    · rw [q] at h; exact h.elim
section
variable {G : Gs} {k : Nat} {N : List Str} {sc : Scope} {tg e : Expr} {pos p : Pos} {xs : List (Str × Nat)} {g : MG} {mi : M Wk} {b : MS}
theorem ds_for {body : List Stmt} (hi : DI G k N sc tg e mi) (hg : DG G k N sc tg xs g) (hb : DSs G k N sc body b) (hs : ∀ env x, foldedSetIterable e env x = pure x := by intro _ _; rfl) : DS G k N sc (.For tg e body [] pos) (forS mi g b) :=
  ⟨fun X W c tk => ps_imp (ps_for c.pas c.e.ccalm (hi.run X W c.e tk) (hg.run X c.e fun x _ => .inl (c.cfn x.1)) (hb.run X W c tk) (hs _)) fun D σ H h => by
    obtain ⟨En, F, R, E, S, rel, h⟩ := h
    refine ⟨En, F, R, E, S, rel, (post_with rel h).imp fun F1 R1 H1 t S1 le rel1 q => ⟨loop_ok q, fun F2 H2 J le2 rel2 wd => ?_⟩⟩
    obtain ⟨⟨Gp, Y, wk, hG, hY⟩⟩ := wd
    refine for_it wk (fun i σ' H' => ∃ F' R' E' S', Le F2 R1 F' R' ∧ Rel G.K En F' R' E' S' σ' H' ∧ PostS G.K En F' R' D W (loopS g b t (t.ds.drop i) E' S')) ?_ ?_ ?_ ?_
    · exact ⟨F2, R1, E, S1, Le.refl, rel2, q.mono le2⟩
    · rintro i σ' H' hi ⟨F', R', E', S', l, r, p⟩
      exact hG En F' R' E' S' σ' H' l r (loop_ok p)
    · rintro i x σ' H' H3 hi ⟨F', R', E', S', l, r, p⟩ y
      obtain ⟨F3, d, le3, rel3, e3, rp⟩ := hY En F' R' E' S' σ' H' i x H3 l r (loop_ok p) hi y
      have hd : t.ds.drop i = d :: t.ds.drop (i + 1) := by
        rw [List.drop_eq_getElem_cons hi, (List.getElem?_eq_some_iff.mp e3).2]
      rw [hd] at p
      unfold loopS at p
      rcases chk_cases t S' RS.bad _ with ⟨_, z⟩ | z
      · rw [z] at p
        refine ⟨En, F3, R', E', S', d, rel3, rp, ?_⟩
        cases eg : g d E' S' with
        | none => rw [eg] at p; exact p.elim
        | some E1 =>
          rw [eg] at p
          dsimp only at p
          intro F4 R4 σ4 H4 le4 rel4 _
          refine ⟨En, F4, R4, E1, S', rel4, ?_⟩
          have le5 := le3.trans le4
          cases eb : b E1 S' with
          | nx E2 S2 =>
            rw [eb] at p
            exact fun F5 R5 σ5 H5 l5 r5 => ⟨F5, R5, E2, S2, l.trans (le5.trans l5), r5, PostS.mono (le5.trans l5) p⟩
          | ct E2 S2 =>
            rw [eb] at p
            exact fun F5 R5 σ5 H5 l5 r5 => ⟨F5, R5, E2, S2, l.trans (le5.trans l5), r5, PostS.mono (le5.trans l5) p⟩
          | bk E2 S2 =>
            rw [eb] at p
            exact fun F5 R5 σ5 H5 l5 r5 => p F5 R5 σ5 H5 (le5.trans l5) r5
          | rt dv S2 =>
            rw [eb] at p
            exact fun F5 R5 H5 v l5 r5 q5 => p F5 R5 H5 v (le5.trans l5) r5 q5
          | ex c fs E2 S2 =>
            rw [eb] at p
            exact fun F5 R5 σ5 H5 d vfs l5 r5 hd rf => p F5 R5 σ5 H5 d vfs (le5.trans l5) r5 hd rf
          | bad => rw [eb] at p; exact p.elim
      · rw [z] at p; exact p.elim
    · rintro σ' H' ⟨F', R', E', S', l, r, p⟩
      have hn : t.ds.drop t.ds.length = [] := List.drop_length
      rw [hn] at p
      unfold loopS at p
      rcases chk_cases t S' RS.bad (.nx E' S') with ⟨_, z⟩ | z
      · rw [z] at p; exact p F' R' σ' H' Le.refl r
      · rw [z] at p; exact p.elim⟩
end

/-! ### comprehensions -/
def valOnly : Option DV → Option DV
  | some (.val d) => some (.val d)
  | _ => none
def wipeE (E : Ev) : List Nat → Ev
  | [] => E
  | v :: vs => (wipeE E vs).set v none
/-- the slots in a comprehension's block -/
def innerE (own : List (Str × Nat)) (E : Ev) : Ev := wipeE (E.map valOnly) (own.map (·.2))
noncomputable def compL (g : MG) (t : M Bool) (e : M DV) (w : Wk) (E0 : Ev) : List D → List D → Store → Res (List D)
  | [], acc, S => chk w S .bad (.ok acc S)
  | d :: ds, acc, S => chk w S .bad (match g d E0 S with
    | none => .bad
    | some E1 => (match t E1 S with
      | .ok true S1 => (match e E1 S1 with
        | .ok x S2 => if acc.length < sizeLine then compL g t e w E0 ds (acc ++ [x.frz]) S2 else .bad
        | _ => .bad)
      | .ok false S1 => compL g t e w E0 ds acc S1
      | _ => .bad))
noncomputable def mLc (mi : M Wk) (g : MG) (t : M Bool) (e : M DV) (own : List (Str × Nat)) : M DV := bnd mi fun w E S => match compL g t e w (innerE own E) w.ds [] S with
  | .ok ds S1 => .ok (.ol ds) S1
  | _ => .bad
def mYes : M Bool := fun _ S => .ok true S
theorem compL_ok {g : MG} {t : M Bool} {e : M DV} {w : Wk} {E0 : Ev} {r : List D} {S1 : Store} : ∀ {ds acc : List D} {S : Store}, compL g t e w E0 ds acc S = .ok r S1 → w.ok S
  | [], acc, S, h => by
    unfold compL at h
    rcases chk_cases w S Res.bad (Res.ok acc S) with ⟨q, _⟩ | q
    · exact q
    · rw [q] at h; cases h
  | d :: ds, acc, S, h => by
    unfold compL at h
    rcases chk_cases w S Res.bad _ with ⟨q, _⟩ | q
    · exact q
    · rw [q] at h; cases h
section
variable {K : PySem.W.Frag} {En : Ent} {F F' : Hp} {R R' : List Addr} {E E' : Ev} {S S' : Store} {σ σ' : L2.St} {H H' : Hp} {W : WX}
theorem wipeE_length (E : Ev) : ∀ vs : List Nat, (wipeE E vs).length = E.length
  | [] => rfl
  | v :: vs => by unfold wipeE; rw [List.length_set, wipeE_length E vs]
theorem wipeE_get {E : Ev} : ∀ {vs : List Nat} {j : Nat} {x : DV}, (wipeE E vs)[j]? = some (some x) → E[j]? = some (some x) ∧ j ∉ vs
  | [], j, x, h => ⟨h, by simp⟩
  | v :: vs, j, x, h => by
    unfold wipeE at h
    by_cases e : v = j
    · subst e
      by_cases hl : v < (wipeE E vs).length
      · rw [List.getElem?_set_self hl] at h; cases h
      · rw [List.getElem?_eq_none (by simpa using hl)] at h; cases h
    · rw [List.getElem?_set_ne e] at h
      obtain ⟨h1, h2⟩ := wipeE_get h
      exact ⟨h1, by simp only [List.mem_cons, not_or]; exact ⟨fun q => e q.symm, h2⟩⟩
theorem wipe_get {σ : L2.St} : ∀ {vs : List Nat} {j : Nat}, j ∉ vs → (wipe σ vs)[j]? = σ[j]?
  | [], _, _ => rfl
  | v :: vs, j, h => by
    rw [List.mem_cons, not_or] at h
    unfold wipe
    rw [List.getElem?_set_ne (Ne.symm h.1)]
    exact wipe_get h.2
theorem wipe_in {σ : L2.St} : ∀ {vs : List Nat} {j : Nat}, j ∈ vs → j < σ.length → (wipe σ vs)[j]? = some none
  | v :: vs, j, h, hl => by
    unfold wipe
    by_cases e : v = j
    · subst e
      exact List.getElem?_set_self (by rw [wipe_length]; exact hl)
    · rw [List.getElem?_set_ne e]
      rcases List.mem_cons.mp h with q | q
      · exact (e q.symm).elim
      · exact wipe_in q hl
theorem wipe_same {own : List (Str × Nat)} (h : Same own (wipe σ (own.map (·.2))) σ') : wipe σ' (own.map (·.2)) = wipe σ (own.map (·.2)) := by
  have hl : σ'.length = σ.length := by rw [h.1, wipe_length]
  apply List.ext_getElem?
  intro j
  by_cases m : j ∈ own.map (·.2)
  · by_cases lt : j < σ.length
    · rw [wipe_in m (by rw [hl]; exact lt), wipe_in m lt]
    · rw [List.getElem?_eq_none (by rw [wipe_length, hl]; omega), List.getElem?_eq_none (by rw [wipe_length]; omega)]
  · rw [wipe_get m, h.2 j m]
theorem valOnly_get {j : Nat} {x : DV} (h : (E.map valOnly)[j]? = some (some x)) : ∃ d, x = .val d ∧ E[j]? = some (some (.val d)) := by
  rw [List.getElem?_map] at h
  cases e : E[j]? with
  | none => rw [e] at h; cases h
  | some y =>
    rw [e] at h
    cases y with
    | none => cases h
    | some dv => cases dv with
      | val d => cases h; exact ⟨d, rfl, rfl⟩
      | ol ds => cases h
      | od ds => cases h
/-- only values that stand -/
def Plain (E : Ev) : Prop := ∀ (j : Nat) (x : DV), E[j]? = some (some x) → ∃ d, x = .val d
theorem plain_inner {own : List (Str × Nat)} : Plain (innerE own E) := fun j x h => by
  obtain ⟨d, e, _⟩ := valOnly_get (wipeE_get h).1
  exact ⟨d, e⟩
/-- into a block -/
theorem Rel.block (r : Rel K En F R E S σ H) (own : List (Str × Nat)) : Rel K ⟨H, F, R⟩ F R (innerE own E) S (wipe σ (own.map (·.2))) H := by
  refine ⟨r.len, r.frz, r.nodup, r.cell, fun j x e => ?_, fun i j x y a e1 e2 o1 _ _ _ => ?_, fun _ _ h _ _ => h, fun _ _ _ h => h, fun _ _ _ h => h, ?_⟩
  · obtain ⟨h1, h2⟩ := wipeE_get e
    obtain ⟨d, rfl, h3⟩ := valOnly_get h1
    obtain ⟨v, e1, rp⟩ := r.slot j _ h3
    exact ⟨v, by rw [wipe_get h2]; exact e1, rp⟩
  · obtain ⟨d, rfl⟩ := plain_inner (own := own) i x e1
    cases o1
  · unfold innerE
    rw [wipeE_length, List.length_map, wipe_length, r.elen]
/-- a new entry where only values stand -/
theorem Rel.again (r : Rel K En F R E S σ H) (p : Plain E) : Rel K ⟨H, F, R⟩ F R E S σ H := by
  refine ⟨r.len, r.frz, r.nodup, r.cell, fun j x e => ?_, r.apart, fun _ _ h _ _ => h, fun _ _ _ h => h, fun _ _ _ h => h, r.elen⟩
  obtain ⟨d, rfl⟩ := p j x e
  exact r.slot j _ e
theorem Plain.noSlot (p : Plain E) {a : Addr} : ¬ OwnSlot E σ a := fun ⟨i, x, e, o, _⟩ => by
  obtain ⟨d, rfl⟩ := p i x e
  cases o
/-- a thing that is nobody's is changed -/
theorem Rel.poke (r : Rel K En F R E S σ H) {p : Addr} {o : HO} (hF : F p = none) (hR : p ∉ R) (hE : En.H p = none) (hS : ¬ OwnSlot E σ p) : Rel K En F R E S σ (upd H p o) := by
  refine ⟨r.len, fun a u e => ?_, r.nodup, fun k c a e1 e2 => ?_, fun i dv e => ?_, r.apart, fun a u e n f => ?_, r.nf, r.nr, r.elen⟩
  · rw [upd_ne (fun z => by rw [z, hF] at e; cases e)]; exact r.frz a u e
  · obtain ⟨q, f⟩ := r.cell k c a e1 e2
    exact ⟨q.mono Le.refl (upd_ne fun z => hR (by rw [← z]; exact List.mem_of_getElem? e2)), f⟩
  · exact (r.slot i dv e).mono Le.refl fun a ea ow f1 f2 f3 => ⟨upd_ne fun z => hS ⟨i, dv, e, ow, by rw [ea, z]⟩, f1, f2⟩
  · rw [upd_ne (fun z => by rw [z, hE] at e; cases e)]; exact r.keep a u e n f
end
end Hm
set_option Elab.async false
set_option linter.all false
set_option maxRecDepth 100000
set_option maxHeartbeats 2000000
namespace Hm
open PySem PySem.Spec L2

def noX : WX := fun _ _ _ _ => False
theorem takes_blk {X : Cx} (hx : X.xe = fun _ _ => False) : Takes X noX := fun u s' x => by
  obtain ⟨_, _, _, _, _, _, _, _, _, _, _, _, _, _, _, _, w⟩ := x
  exact w.elim
/-- what may be stored within a block -/
def stoB (scope sc : Scope) (own : List (Str × Nat)) : Bool := own.all fun p => (scope.names.lookup p.1 == some .cell) || ((relS scope sc).names.lookup p.1 == some .local)
section
variable {G : Gs} {k : Nat} {N : List Str} {sc scope : Scope} {X : Cx}
theorem ctx_blk (c : CtxE G k N sc X) {s : Shared} {H : Hp} {C : Addr} {cl : List (Str × Addr)} {fp : List Addr} : CtxE G k N (relS scope sc) (X.blk s H scope (compEnvC scope cl C X.env) fp) := by
  refine ⟨c.cP, c.cw, c.cK, c.cmg, c.cbase, c.cN, ?_, c.cnd, c.ccalm, c.croom⟩
  have e := c.csc
  subst e
  rfl
theorem sto_blk {own : List (Str × Nat)} (h : stoB scope sc own = true) {s : Shared} {H : Hp} {e : Env} {fp : List Addr} : Sto (relS scope sc) (X.blk s H scope e fp) own := fun p hp => by
  have q := List.all_eq_true.mp h p hp
  rw [Bool.or_eq_true] at q
  rcases q with q | q
  · exact .inl q
  · exact .inr (by simpa using q)
/-- tests of a comprehension -/
structure DTs (G : Gs) (k : Nat) (N : List Str) (sc : Scope) (es : List Expr) (m : M Bool) : Prop where
  run : ∀ (X : Cx) (W : WX), CtxE G k N sc X → Takes X W → PTs X es (tT G.K m W)
theorem dts_nil : DTs G k N sc [] mYes := ⟨fun X W c tk => ⟨fun pins s σ H Q I h => pts_nil.run pins s σ H Q I (by
  obtain ⟨En, F, R, E, S, rel, h⟩ := h
  exact h F R H Le.refl rel)⟩⟩
theorem dts_one {e : Expr} {m : M Bool} (h : DT G k N sc e m) : DTs G k N sc [e] m := ⟨fun X W c tk => pts_one (h.run X W c tk)⟩
end

section
variable {K : PySem.W.Frag} {En : Ent} {F F' : Hp} {R R' : List Addr} {E E' : Ev} {S S' : Store} {σ σ' : L2.St} {H H' : Hp} {W : WX}
/-- a comprehension over data -/
theorem lc_data {w : Wk} {g : MG} {t : M Bool} {e : M DV} {own : List (Str × Nat)} {dsR : List D} {Sn : Store} {J : It} {Q : VK} (rel : Rel K En F R E S σ H) (wd : WalkD K F R J w) (hr : compL g t e w (innerE own E) w.ds [] S = .ok dsR Sn)
    (hQ : ∀ F' R' H' v, Le F R F' R' → Rel K En F' R' E Sn σ H' → Val K En F' R' E σ H' v (.ol dsR) → Q v H') (L : Addr) (hL : H L = none) :
    ∃ Wv : Nat → Nat → Hp → Prop, (∃ m, Wv 0 m (upd H L (.lst []))) ∧ ∀ i m H, Wv i m H →
      (J.stop i H ∧ Q (.ref L) H) ∨ (J.go i H ∧ ∃ Nx : Hp → Prop, (∀ H', Nx H' → ∃ m', m' < m ∧ Wv (i + 1) m' H') ∧ ∀ x H', J.yld i H x H' → tG K own g x (wipe σ (own.map (·.2))) H' fun σ2 H2 => wipe σ2 (own.map (·.2)) = wipe σ (own.map (·.2)) ∧ tT K t noX σ2 H2 fun b H3 =>
        if b = true then tD K e noX σ2 H3 fun y H4 => ∃ acc, H4 L = some (.lst acc) ∧ acc.length < sizeLine ∧ Nx (upd H4 L (.lst (acc ++ [y]))) else Nx H3) := by
  obtain ⟨⟨Gp, Y, wk, hG, hY⟩⟩ := wd
  have pl := plain_inner (own := own) (E := E)
  generalize hE0 : innerE own E = E0 at hr pl
  have relB : Rel K ⟨H, F, R⟩ F R E0 S (wipe σ (own.map (·.2))) H := by rw [← hE0]; exact rel.block own
  obtain ⟨n1, n2, n3, n4⟩ := relB.fresh hL
  refine lc_it wk (fun i H2 => ∃ F2 R2 S2 acc vacc, Le F R F2 R2 ∧ Rel K ⟨H, F, R⟩ F2 R2 E0 S2 (wipe σ (own.map (·.2))) H2 ∧ H2 L = some (.lst vacc) ∧ Reps K F2 R2 acc vacc ∧ F2 L = none ∧ L ∉ R2 ∧ compL g t e w E0 (w.ds.drop i) acc S2 = .ok dsR Sn) ?_ ?_ ?_ ?_
  · exact ⟨F, R, S, [], [], Le.refl, relB.laid hL, upd_same, .nil, n1, n2, hr⟩
  · rintro i H2 hi ⟨F2, R2, S2, acc, vacc, le, r2, hl, rs, f1, f2, hc⟩
    exact hG _ F2 R2 E0 S2 _ H2 le r2 (compL_ok hc)
  · rintro i x H2 H3 hi ⟨F2, R2, S2, acc, vacc, le, r2, hl, rs, f1, f2, hc⟩ y
    have ok := compL_ok hc
    -- the turn's own entry
    obtain ⟨F3, d, le3, r3, e3, rp⟩ := hY _ F2 R2 E0 S2 _ H2 i x H3 le (r2.again pl) ok hi y
    have hd : w.ds.drop i = d :: w.ds.drop (i + 1) := by
      rw [List.drop_eq_getElem_cons hi, (List.getElem?_eq_some_iff.mp e3).2]
    rw [hd] at hc
    unfold compL at hc
    rcases chk_cases w S2 Res.bad _ with ⟨_, z⟩ | z
    · rw [z] at hc
      refine ⟨_, F3, R2, E0, S2, d, r3, rp, ?_⟩
      cases eg : g d E0 S2 with
      | none => rw [eg] at hc; cases hc
      | some E1 =>
        rw [eg] at hc
        dsimp only at hc
        intro F4 R4 σ4 H4 le4 r4 sm
        refine ⟨wipe_same sm, ?_⟩
        refine ⟨_, F4, R4, E1, S2, r4, ?_⟩
        -- the end of a turn: what L holds, and back to the entry
        have fin : ∀ {F5 R5 S5 σ5 H5}, Le F4 R4 F5 R5 → Rel K ⟨H2, F2, R2⟩ F5 R5 E1 S5 σ5 H5 → H5 L = some (.lst vacc) ∧ F5 L = none ∧ L ∉ R5 ∧ Rel K ⟨H, F, R⟩ F5 R5 E0 S5 (wipe σ (own.map (·.2))) H5 := fun {F5 R5 S5 σ5 H5} l r5 => by
          have a1 : F5 L = none := r5.nf L _ hl f1
          have a2 : L ∉ R5 := fun m => f2 (r5.nr L _ hl m)
          exact ⟨r5.keep L _ hl a2 a1, a1, a2, r2.leave (le3.trans (le4.trans l)) r5⟩
        cases et : t E1 S2 with
        | bad => rw [et] at hc; cases hc
        | ex c fs S5 => rw [et] at hc; cases hc
        | ok b S5 =>
          rw [et] at hc
          intro F5 R5 H5 le5 r5
          obtain ⟨a0, a1, a2, a3⟩ := fin le5 r5
          cases b with
          | false =>
            rw [if_neg Bool.false_ne_true]
            exact ⟨F5, R5, S5, acc, vacc, le.trans (le3.trans (le4.trans le5)), a3, a0, rs.mono (le3.trans (le4.trans le5)) _ _, a1, a2, hc⟩
          | true =>
            rw [if_pos rfl]
            dsimp only at hc
            refine ⟨_, F5, R5, E1, S5, r5, ?_⟩
            cases ee : e E1 S5 with
            | bad => rw [ee] at hc; cases hc
            | ex c fs S6 => rw [ee] at hc; cases hc
            | ok yv S6 =>
              rw [ee] at hc
              dsimp only at hc
              intro F6 R6 H6 le6 r6 v hv
              obtain ⟨F7, le7, r7, rpy⟩ := hv.freeze r6
              obtain ⟨b0, b1, b2, b3⟩ := fin (le5.trans (le6.trans le7)) r7
              have lall := le3.trans (le4.trans (le5.trans (le6.trans le7)))
              split at hc
              · rename_i hz
                refine ⟨vacc, b0, by rw [← rs.length]; exact hz, F7, R6, S6, acc ++ [yv.frz], vacc ++ [v], le.trans lall, ?_, upd_same, ?_, b1, b2, hc⟩
                · exact b3.poke b1 b2 hL pl.noSlot
                · exact (rs.mono lall _ _).append (.cons rpy .nil)
              · cases hc
    · rw [z] at hc; cases hc
  · rintro H2 ⟨F2, R2, S2, acc, vacc, le, r2, hl, rs, f1, f2, hc⟩
    have hn : w.ds.drop w.ds.length = [] := List.drop_length
    rw [hn] at hc
    unfold compL at hc
    rcases chk_cases w S2 Res.bad (.ok acc S2) with ⟨_, z⟩ | z
    · rw [z] at hc
      cases hc
      refine hQ F2 R2 H2 (.ref L) le (rel.leave le r2) ?_
      obtain ⟨_, _, m3, m4⟩ := rel.fresh hL
      exact ⟨L, rfl, ⟨vacc, hl, rs⟩, f1, f2, m3, m4⟩
    · rw [z] at hc; cases hc
end

section
variable {G : Gs} {k : Nat} {N : List Str} {sc scope : Scope} {tg it elt : Expr} {pos : Pos} {own : List (Str × Nat)} {g : MG} {mi : M Wk} {t : M Bool} {m : M DV} {ifs : List Expr}
theorem tLc_of {σ : L2.St} {H : Hp} {W : WX} {Q : VK} (h : tD G.K (mLc mi g t m own) W σ H Q) : tLc (tI G.K mi W) (tG G.K own g) (tT G.K t noX) (tD G.K m noX) (own.map (·.2)) σ H Q := by
  obtain ⟨En, F, R, E, S, rel, h⟩ := h
  refine ⟨En, F, R, E, S, rel, (post_bnd h).imp fun F1 R1 H1 w S1 le rel1 q => ?_⟩
  cases ec : compL g t m w (innerE own E) w.ds [] S1 with
  | bad => rw [ec] at q; exact q.elim
  | ex c fs S2 => rw [ec] at q; exact q.elim
  | ok ds S2 =>
    rw [ec] at q
    refine ⟨compL_ok ec, fun F2 H2 J le2 rel2 wd L hL => lc_data rel2 wd ec (fun F' R' H' v l r hv => q F' R' H' (le2.trans l) r v hv) L hL⟩
theorem de_lc (hi : DI G k N sc tg it mi) (hg : DG G k N (relS scope sc) tg own g) (ht : DTs G k N (relS scope sc) ifs t) (he : DE G k N (relS scope sc) elt m) (hb : blkC N sc scope own = true := by decide) (hst : stoB scope sc own = true := by decide)
    (hs : ∀ env x, foldedSetIterable it env x = pure x := by intro _ _; rfl) : DE G k N sc (.ListComp elt [⟨tg, it, ifs, 0⟩] scope pos) (mLc mi g t m own) :=
  ⟨fun X W c tk => pe_imp (pe_lc (own := own) c.ccalm (by rw [c.cN]; exact c.cnd) (hi.run X W c tk) (by rw [c.cN, c.csc]; exact blkOk_by hb) (fun s H C cl fp => hg.run _ (ctx_blk c) (sto_blk hst)) (fun s H C cl fp => ht.run _ noX (ctx_blk c) (takes_blk rfl)) (fun s H C cl fp => he.run _ noX (ctx_blk c) (takes_blk rfl)) (hs _)) fun σ H Q h => tLc_of h⟩
/-- name = [..], the list swapped -/
theorem ds_setLc {x : Str} {px spos : Pos} (i : Nat) (hi : DI G k N sc tg it mi) (hg : DG G k N (relS scope sc) tg own g) (ht : DTs G k N (relS scope sc) ifs t) (he : DE G k N (relS scope sc) elt m) (hN : N[i]? = some x := by rfl) (hx : sc.names.lookup x = some .local := by rfl)
    (hk : sc.kind = .function := by rfl) (hl : (px.line == pos.line) = true := by decide) (hna : (scope.names.any fun (n, k) => n == x && (k == .local || k == .cell)) = false := by decide)
    (hb : blkC N sc scope own = true := by decide) (hst : stoB scope sc own = true := by decide) (hs : ∀ env x, foldedSetIterable it env x = pure x := by intro _ _; rfl) :
    DS G k N sc (.Assign [.Name x px] (.ListComp elt [⟨tg, it, ifs, 0⟩] scope pos) spos) (setS i (mLc mi g t m own)) :=
  ⟨fun X W c tk => ps_imp (ps_setLc (own := own) c.e.ccalm (by rw [c.e.cN]; exact c.e.cnd) (by rw [c.e.cN]; exact hN) (by rw [c.e.csc]; exact hx) (sw_true (by rw [c.e.csc]; exact hk) (by rw [c.e.csc]; exact hx) hl hna) (hi.run X W c.e tk) (by rw [c.e.cN, c.e.csc]; exact blkOk_by hb)
      (fun s H C cl fp => hg.run _ (ctx_blk c.e) (sto_blk hst)) (fun s H C cl fp => ht.run _ noX (ctx_blk c.e) (takes_blk rfl)) (fun s H C cl fp => he.run _ noX (ctx_blk c.e) (takes_blk rfl)) (hs _)) fun D σ H h => by
    refine tLc_of ?_
    obtain ⟨En, F, R, E, S, rel, h⟩ := h
    exact withE_then rel h fun F1 R1 H1 dv v S1 le rel1 hv q => q F1 R1 _ H1 Le.refl (rel1.store hv i)⟩
end
end Hm
set_option Elab.async false
set_option linter.all false
set_option maxRecDepth 100000
set_option maxHeartbeats 2000000
namespace Hm
open PySem PySem.Spec L2

/-! ### calls of built-in functions and types -/
abbrev RL := List V → Hp → VK → Prop
/-- the reading r is met where f says how it goes -/
def SndL (K : PySem.W.Frag) (f : FD) (r : RL) : Prop :=
  ∀ (En : Ent) (F : Hp) (R : List Addr) (E : Ev) (S : Store) (σ : L2.St) (H : Hp) (W : WX) (Q : VK) (ds : List D) (vs : List V), Rel K En F R E S σ H → Reps K F R ds vs → Post K En F R E σ W Q (f ds S) → r vs H Q
def mF (f : FD) (ms : M (List D)) : M DV := bnd ms fun ds _ S => f ds S
section
variable {G : Gs} {k : Nat} {N : List Str} {sc : Scope} {x : Str} {p pos : Pos} {e : Expr} {es : List Expr} {f : FD} {r : RL} {ms : M (List D)} {id : String}
theorem tF_of {σ : L2.St} {H : Hp} {W : WX} {Q : VK} (hs : SndL G.K f r) (h : tD G.K (mF f ms) W σ H Q) : tCB r (tA G.K ms W) σ H Q := by
  obtain ⟨En, F, R, E, S, rel, h⟩ := h
  exact tA_then rel h fun F1 R1 H1 ds vs S1 le rel1 rs h1 => hs En F1 R1 E S1 σ H1 W Q ds vs rel1 rs h1
theorem de_cB (hc : ∀ X, CtxE G k N sc X → CallR X (.builtin id) r) (hs : SndL G.K f r) (hm : G.mg x = none) (ha : DA G k N sc (e :: es) ms) (hv : bootBuiltins x = some (.builtin id) := by rfl) (hg : sc.names.lookup x = some .globalImplicit := by rfl) (hn : x ≠ "__name__" := by decide) (hdb : (x == ("__debug__" : Str)) = false := by decide)
    (he : ∀ env, starEach (e :: es) env = (false, eval e env) :: starEach es env := by intro _; rfl) (hpl : ∀ env, (backTo pos (starEach es env)).any (·.1) = false := by intro _; rfl) : DE G k N sc (.Call (.Name x p) (e :: es) [] pos) (mF f ms) :=
  ⟨fun X W c tk => pe_imp (pe_callB (hc X c) (gl_of c hg) (by rw [c.cmg]; exact hm) hv (ha.run X W c tk) hn hdb (he _) (hpl _)) fun σ H Q h => tF_of hs h⟩
theorem de_cT (hc : ∀ X, CtxE G k N sc X → CallR X (.type id) r) (hs : SndL G.K f r) (hm : G.mg x = none) (ha : DA G k N sc (e :: es) ms) (hv : bootBuiltins x = some (.type id) := by rfl) (hg : sc.names.lookup x = some .globalImplicit := by rfl) (hn : x ≠ "__name__" := by decide) (hdb : (x == ("__debug__" : Str)) = false := by decide)
    (he : ∀ env, starEach (e :: es) env = (false, eval e env) :: starEach es env := by intro _; rfl) (hpl : ∀ env, (backTo pos (starEach es env)).any (·.1) = false := by intro _; rfl) : DE G k N sc (.Call (.Name x p) (e :: es) [] pos) (mF f ms) :=
  ⟨fun X W c tk => pe_imp (pe_callTy (hc X c) (gl_of c hg) (by rw [c.cmg]; exact hm) hv (ha.run X W c tk) hn hdb (he _) (hpl _)) fun σ H Q h => tF_of hs h⟩
end

/-! len -/
def lenOf (S : Store) (d : D) : Option Nat := match view S d with
  | .lst ds => some ds.length
  | .scr ds => some ds.length
  | .tup ds => some ds.length
  | .dct kvs => some kvs.length
  | .str s => if small s.length then some s.length else none
  | _ => none
def lenD : FD := fun ds S => match ds with
  | [d] => (match lenOf S d with
    | some n => fine (.int n) S
    | none => .bad)
  | _ => .bad
def rLen (K : PySem.W.Frag) : RL := fun xs H Q => (∃ x n, xs = [x] ∧ LenV K x H n ∧ Q (.int n) H) ∨ ∃ (a : Addr) (kvs : List (Key × V)), xs = [V.ref a] ∧ Rd H a (.dK kvs) ∧ Q (.int kvs.length) H
theorem cl_len {X : Cx} : CallR X (.builtin "len") (rLen X.K) := call_len.or fun pins s σ H xs us Q I r h => by
  obtain ⟨a, kvs, rfl, ha, q⟩ := h
  obtain ⟨u, rfl, ru⟩ := vals1 r
  cases ru
  exact d_len I ha fun t s' I' => ⟨.int kvs.length, H, I', ⟨t, rfl⟩, q⟩
theorem snd_len {K : PySem.W.Frag} : SndL K lenD (rLen K) := fun En F R E S σ H W Q ds vs rel rs p => by
  unfold lenD at p
  split at p
  · rename_i d
    obtain ⟨v, rfl, rp⟩ := reps1 rs
    split at p
    · rename_i n hn
      have q := p.got rel (.int (n : Nat))
      unfold lenOf at hn
      split at hn
      · rename_i xs e1
        cases hn
        obtain ⟨a, ws, rfl, h1, h2⟩ := view_lst rel rp e1
        exact .inl ⟨_, _, rfl, .inl ⟨ws, .of h1, h2.length⟩, q⟩
      · rename_i xs e1
        cases hn
        obtain ⟨a, ws, rfl, h1, h2⟩ := view_scr rel rp e1
        exact .inl ⟨_, _, rfl, .inl ⟨ws, h1, h2.length⟩, q⟩
      · rename_i xs e1
        cases hn
        obtain ⟨a, ws, rfl, h1, h2⟩ := view_tup rel rp e1
        exact .inl ⟨_, _, rfl, .inr ⟨ws, h1, h2.length⟩, q⟩
      · rename_i xs e1
        cases hn
        obtain ⟨a, ws, rfl, h1, h2⟩ := view_dct rel rp e1
        exact .inr ⟨a, ws, rfl, h1, by rw [← h2.length]; exact q⟩
      · rename_i s0 e1
        have e1 := view_str e1
        subst e1
        cases rp
        split at hn
        · rename_i hz
          cases hn
          exact .inl ⟨_, _, rfl, ⟨of_decide_eq_true hz, rfl⟩, q⟩
        · cases hn
      · cases hn
    · exact p.elim
  · exact p.elim

/-! what lists hold -/
def asBls : List D → Option (List Bool)
  | [] => some []
  | .bl b :: ds => (asBls ds).map (b :: ·)
  | _ => none
def asInts : List D → Option (List Int)
  | [] => some []
  | .int b :: ds => (asInts ds).map (b :: ·)
  | _ => none
def asStrs : List D → Option (List Str)
  | [] => some []
  | .str b :: ds => (asStrs ds).map (b :: ·)
  | _ => none
section
variable {K : PySem.W.Frag} {F : Hp} {R : List Addr}
theorem reps_bls : ∀ {ds : List D} {bs : List Bool} {vs : List V}, Reps K F R ds vs → asBls ds = some bs → vs = bs.map V.bl
  | [], bs, _, .nil, e => by cases e; rfl
  | d :: ds, bs, _, .cons r t, e => by
    cases d with
    | bl b =>
      obtain ⟨cs, e1, rfl⟩ := Option.map_eq_some_iff.mp e
      cases r
      rw [reps_bls t e1]
      rfl
    | _ => cases e
theorem reps_ints : ∀ {ds : List D} {bs : List Int} {vs : List V}, Reps K F R ds vs → asInts ds = some bs → vs = bs.map V.int
  | [], bs, _, .nil, e => by cases e; rfl
  | d :: ds, bs, _, .cons r t, e => by
    cases d with
    | int b =>
      obtain ⟨cs, e1, rfl⟩ := Option.map_eq_some_iff.mp e
      cases r
      rw [reps_ints t e1]
      rfl
    | _ => cases e
theorem reps_strs : ∀ {ds : List D} {bs : List Str} {vs : List V}, Reps K F R ds vs → asStrs ds = some bs → vs = bs.map V.str
  | [], bs, _, .nil, e => by cases e; rfl
  | d :: ds, bs, _, .cons r t, e => by
    cases d with
    | str b =>
      obtain ⟨cs, e1, rfl⟩ := Option.map_eq_some_iff.mp e
      cases r
      rw [reps_strs t e1]
      rfl
    | _ => cases e
theorem ints_reps : ∀ {bs : List Int}, Reps K F R (bs.map D.int) (bs.map V.int)
  | [] => .nil
  | b :: bs => .cons (.int b) ints_reps
theorem strs_reps : ∀ {bs : List Str}, Reps K F R (bs.map D.str) (bs.map V.str)
  | [] => .nil
  | b :: bs => .cons (.str b) strs_reps
/-- a list that is read -/
def seqL (S : Store) (d : D) : Option (List D) := match view S d with
  | .lst ds => some ds
  | .scr ds => some ds
  | _ => none
theorem seqL_ok {En : Ent} {E : Ev} {S : Store} {σ : L2.St} {H : Hp} (rel : Rel K En F R E S σ H) {d : D} {x : V} {ds : List D} (rp : Rep K F R d x) (e : seqL S d = some ds) : ∃ a vs, x = .ref a ∧ SqL K H a vs ∧ Reps K F R ds vs := by
  unfold seqL at e
  split at e
  · rename_i xs e1
    cases e
    obtain ⟨a, ws, rfl, h1, h2⟩ := view_lst rel rp e1
    exact ⟨a, ws, rfl, .of h1, h2⟩
  · rename_i xs e1
    cases e
    obtain ⟨a, ws, rfl, h1, h2⟩ := view_scr rel rp e1
    exact ⟨a, ws, rfl, h1, h2⟩
  · cases e
end
def allD : FD := fun ds S => match ds with
  | [d] => (match (seqL S d).bind asBls with
    | some bs => fine (.bl (bs.all id)) S
    | none => .bad)
  | _ => .bad
def anyD : FD := fun ds S => match ds with
  | [d] => (match (seqL S d).bind asBls with
    | some bs => fine (.bl (bs.any id)) S
    | none => .bad)
  | _ => .bad
def sumD : FD := fun ds S => match ds with
  | [d] => (match (seqL S d).bind asInts with
    | some bs => fine (.int bs.sum) S
    | none => .bad)
  | _ => .bad
theorem snd_all {K : PySem.W.Frag} : SndL K allD (rAll K) := fun En F R E S σ H W Q ds vs rel rs p => by
  unfold allD at p
  split at p
  · obtain ⟨v, rfl, rp⟩ := reps1 rs
    split at p
    · rename_i bs hb
      obtain ⟨xs, e1, e2⟩ := Option.bind_eq_some_iff.mp hb
      obtain ⟨a, ws, rfl, h1, h2⟩ := seqL_ok rel rp e1
      rw [reps_bls h2 e2] at h1
      exact ⟨a, bs, rfl, h1, p.got rel (.bl _)⟩
    · exact p.elim
  · exact p.elim
theorem snd_any {K : PySem.W.Frag} : SndL K anyD (rAny K) := fun En F R E S σ H W Q ds vs rel rs p => by
  unfold anyD at p
  split at p
  · obtain ⟨v, rfl, rp⟩ := reps1 rs
    split at p
    · rename_i bs hb
      obtain ⟨xs, e1, e2⟩ := Option.bind_eq_some_iff.mp hb
      obtain ⟨a, ws, rfl, h1, h2⟩ := seqL_ok rel rp e1
      rw [reps_bls h2 e2] at h1
      exact ⟨a, bs, rfl, h1, p.got rel (.bl _)⟩
    · exact p.elim
  · exact p.elim
theorem snd_sum {K : PySem.W.Frag} : SndL K sumD (rSum K) := fun En F R E S σ H W Q ds vs rel rs p => by
  unfold sumD at p
  split at p
  · obtain ⟨v, rfl, rp⟩ := reps1 rs
    split at p
    · rename_i bs hb
      obtain ⟨xs, e1, e2⟩ := Option.bind_eq_some_iff.mp hb
      obtain ⟨a, ws, rfl, h1, h2⟩ := seqL_ok rel rp e1
      rw [reps_ints h2 e2] at h1
      exact ⟨a, bs, rfl, h1, p.got rel (.int _)⟩
    · exact p.elim
  · exact p.elim

/-! str, int -/
def fitI (i : Int) : Bool := decide (i.natAbs.log2 < 1920)
def strD : FD := fun ds S => match ds with
  | [.int i] => if fitI i then fine (.str (toString i)) S else .bad
  | [.str s] => fine (.str s) S
  | _ => .bad
def rStr : RL := fun xs H Q => (∃ i : Int, xs = [V.int i] ∧ i.natAbs.log2 < 1920 ∧ Q (.str (toString i)) H) ∨ ∃ a, xs = [V.str a] ∧ Q (.str a) H
theorem cl_str {X : Cx} : CallR X (.type "str") rStr := call_str_int.or SkE.call_str_str
theorem snd_str {K : PySem.W.Frag} : SndL K strD rStr := fun En F R E S σ H W Q ds vs rel rs p => by
  unfold strD at p
  split at p
  · obtain ⟨v, rfl, rp⟩ := reps1 rs
    cases rp
    split at p
    · rename_i i hf
      exact .inl ⟨_, rfl, of_decide_eq_true hf, p.got rel (.str _)⟩
    · exact p.elim
  · obtain ⟨v, rfl, rp⟩ := reps1 rs
    cases rp
    exact .inr ⟨_, rfl, p.got rel (.str _)⟩
  · exact p.elim
def intD1 : FD := fun ds S => match ds with
  | [.int i] => fine (.int i) S
  | [.bl b] => fine (.int (if b then 1 else 0)) S
  | [.str s] => (match PySem.intText? s with
    | some n => if s.length ≤ 640 then fine (.int n) S else .bad
    | none => .bad)
  | _ => .bad
def rInt : RL := fun xs H Q => ((∃ i, xs = [V.int i] ∧ Q (.int i) H) ∨ ∃ k, xs = [V.bl k] ∧ Q (.int (if k then 1 else 0)) H) ∨ ∃ a n, xs = [V.str a] ∧ PySem.intText? a = some n ∧ a.length ≤ 640 ∧ Q (.int n) H
theorem cl_int {X : Cx} : CallR X (.type "int") rInt := call_int1.or call_int_str
theorem snd_int {K : PySem.W.Frag} : SndL K intD1 rInt := fun En F R E S σ H W Q ds vs rel rs p => by
  unfold intD1 at p
  split at p
  · obtain ⟨v, rfl, rp⟩ := reps1 rs
    cases rp
    exact .inl (.inl ⟨_, rfl, p.got rel (.int _)⟩)
  · obtain ⟨v, rfl, rp⟩ := reps1 rs
    cases rp
    exact .inl (.inr ⟨_, rfl, p.got rel (.int _)⟩)
  · obtain ⟨v, rfl, rp⟩ := reps1 rs
    cases rp
    split at p
    · rename_i n hn
      split at p
      · rename_i hl
        exact .inr ⟨_, n, rfl, hn, hl, p.got rel (.int _)⟩
      · exact p.elim
    · exact p.elim
  · exact p.elim

/-! tuple, list -/
def tupD : FD := fun ds S => match ds with
  | [d] => (match view S d with
    | .lst xs => fine (.tup xs) S
    | .scr xs => fine (.tup xs) S
    | .tup xs => fine (.tup xs) S
    | _ => .bad)
  | _ => .bad
def rTuple (K : PySem.W.Frag) : RL := fun xs H Q => ∃ p ys, xs = [V.ref p] ∧ ((SqL K H p ys ∧ ∀ l, H l = none → Q (.ref l) (upd H l (.tup ys))) ∨ (SqT K H p ys ∧ Q (.ref p) H))
theorem rep_tup {K : PySem.W.Frag} {En : Ent} {F : Hp} {R : List Addr} {E : Ev} {S : Store} {σ : L2.St} {H : Hp} (rel : Rel K En F R E S σ H) {d : D} {x : V} {ds : List D} (r : Rep K F R d x) (e : view S d = .tup ds) : d = .tup ds := by
  cases d with
  | ref j =>
    cases hs : S[j]? with
    | none => simp only [view, hs] at e; cases e
    | some c => cases c <;> (simp only [view, hs] at e; cases e)
  | _ => exact e
theorem snd_tup {K : PySem.W.Frag} : SndL K tupD (rTuple K) := fun En F R E S σ H W Q ds vs rel rs p => by
  unfold tupD at p
  split at p
  · rename_i d
    obtain ⟨v, rfl, rp⟩ := reps1 rs
    split at p
    · rename_i xs e1
      obtain ⟨a, ws, rfl, h1, h2⟩ := view_lst rel rp e1
      exact ⟨a, ws, rfl, .inl ⟨.of h1, fun l hl => p.tup rel h2 hl⟩⟩
    · rename_i xs e1
      obtain ⟨a, ws, rfl, h1, h2⟩ := view_scr rel rp e1
      exact ⟨a, ws, rfl, .inl ⟨h1, fun l hl => p.tup rel h2 hl⟩⟩
    · rename_i xs e1
      have ed := rep_tup rel rp e1
      obtain ⟨a, ws, rfl, h1, h2⟩ := view_tup rel rp e1
      subst ed
      exact ⟨a, ws, rfl, .inr ⟨h1, p.got rel rp⟩⟩
    · exact p.elim
  · exact p.elim
def lstD : FD := fun ds S => match ds with
  | [d] => (match view S d with
    | .lst xs => .ok (.ol xs) S
    | .scr xs => .ok (.ol xs) S
    | .tup xs => .ok (.ol xs) S
    | _ => .bad)
  | _ => .bad
def rList (K : PySem.W.Frag) : RL := fun xs H Q => ∃ p ys, xs = [V.ref p] ∧ (SqL K H p ys ∨ SqT K H p ys) ∧ ∀ l, H l = none → Q (.ref l) (upd H l (.lst ys))
theorem snd_lst {K : PySem.W.Frag} : SndL K lstD (rList K) := fun En F R E S σ H W Q ds vs rel rs p => by
  unfold lstD at p
  split at p
  · rename_i d
    obtain ⟨v, rfl, rp⟩ := reps1 rs
    split at p
    · rename_i xs e1
      obtain ⟨a, ws, rfl, h1, h2⟩ := view_lst rel rp e1
      exact ⟨a, ws, rfl, .inl (.of h1), fun l hl => p.ol rel h2 hl⟩
    · rename_i xs e1
      obtain ⟨a, ws, rfl, h1, h2⟩ := view_scr rel rp e1
      exact ⟨a, ws, rfl, .inl h1, fun l hl => p.ol rel h2 hl⟩
    · rename_i xs e1
      obtain ⟨a, ws, rfl, h1, h2⟩ := view_tup rel rp e1
      exact ⟨a, ws, rfl, .inr h1, fun l hl => p.ol rel h2 hl⟩
    · exact p.elim
  · exact p.elim

/-! isinstance -/
def kindS (S : Store) (d : D) : Option String := match view S d with
  | .non => some "NoneType"
  | .bl _ => some "bool"
  | .int _ => some "int"
  | .str _ => some "str"
  | .tup _ => some "tuple"
  | .lst _ => some "list"
  | .scr _ => some "list"
  | .dct _ => some "dict"
  | _ => none
def tyIs (K : PySem.W.Frag) (T n : String) : Option Bool := PySem.W.kitOne K (.type T) (.type n)
def isiD (K : PySem.W.Frag) : FD := fun ds S => match ds with
  | [d, .ty n] => (match (kindS S d).bind fun T => tyIs K T n with
    | some b => fine (.bl b) S
    | none => .bad)
  | _ => .bad
theorem sqL_ty {K : PySem.W.Frag} {H : Hp} {a : Addr} {vs : List V} (h : SqL K H a vs) : TyX K H (.ref a) (.type "list") := by
  rcases h with (h | ⟨o, h⟩) | ⟨o, its, n, h, c, _⟩
  · exact .base (.lst h)
  · exact .base (.frz h)
  · exact .kList h c
theorem sqT_ty {K : PySem.W.Frag} {H : Hp} {a : Addr} {vs : List V} (h : SqT K H a vs) : TyX K H (.ref a) (.type "tuple") := by
  rcases h with (h | ⟨o, h⟩) | ⟨o, its, n, h, c, _⟩
  · exact .base (.tup h)
  · exact .fTuple h
  · exact .kTuple h c
theorem kind_ty {K : PySem.W.Frag} {En : Ent} {F : Hp} {R : List Addr} {E : Ev} {S : Store} {σ : L2.St} {H : Hp} (rel : Rel K En F R E S σ H) {d : D} {x : V} {T : String} (r : Rep K F R d x) (e : kindS S d = some T) : TyX K H x (.type T) := by
  unfold kindS at e
  split at e
  · rename_i e1
    cases e
    have e1 := view_non e1
    subst e1; cases r; exact .base .non
  · rename_i b e1
    cases e
    have e1 := view_bl e1
    subst e1; cases r; exact .base (.bl _)
  · rename_i b e1
    cases e
    have e1 := view_int e1
    subst e1; cases r; exact .base (.int _)
  · rename_i b e1
    cases e
    have e1 := view_str e1
    subst e1; cases r; exact .base (.str _)
  · rename_i b e1
    cases e
    obtain ⟨a, ws, rfl, h1, h2⟩ := view_tup rel r e1
    exact sqT_ty h1
  · rename_i b e1
    cases e
    obtain ⟨a, ws, rfl, h1, h2⟩ := view_lst rel r e1
    exact .base (.lst h1)
  · rename_i b e1
    cases e
    obtain ⟨a, ws, rfl, h1, h2⟩ := view_scr rel r e1
    exact sqL_ty h1
  · rename_i b e1
    cases e
    obtain ⟨a, ws, rfl, h1, h2⟩ := view_dct rel r e1
    rcases h1 with h1 | ⟨o, h1⟩
    · exact .base (.dK h1)
    · exact .fDict h1
  · cases e
theorem snd_isi {K : PySem.W.Frag} : SndL K (isiD K) (rIsi K) := fun En F R E S σ H W Q ds vs rel rs p => by
  unfold isiD at p
  split at p
  · rename_i d n
    obtain ⟨v, w, rfl, r1, r2⟩ := reps2 rs
    cases r2
    split at p
    · rename_i b hb
      obtain ⟨T, e1, e2⟩ := Option.bind_eq_some_iff.mp hb
      exact ⟨v, .ty n, .type T, .type n, b, rfl, .ty n, kind_ty rel r1 e1, e2, p.got rel (.bl _)⟩
    · exact p.elim
  · exact p.elim
end Hm
set_option Elab.async false
set_option linter.all false
set_option maxRecDepth 100000
set_option maxHeartbeats 2000000
namespace Hm
open PySem PySem.Spec L2

/-! ### a op b op c -/
def mCh (f g : F2) (a b c : M DV) : M DV := bnd a fun x => bnd b fun y E S => match f x.frz y.frz S with
  | .ok (.val (.bl true)) S1 => bnd c (fun z _ S2 => g y.frz z.frz S2) E S1
  | .ok (.val (.bl false)) S1 => fine (.bl false) S1
  | _ => .bad
section
variable {G : Gs} {k : Nat} {N : List Str} {sc : Scope} {a b c : Expr} {ma mb mc : M DV} {pos : Pos} {f g : F2} {op op' : CmpOp}
theorem chain_of {K : PySem.W.Frag} {r r' : R2} {W : WX} {σ : L2.St} {H : Hp} {Q : VK} (hs : Snd2 K f r) (hs' : Snd2 K g r') (h : tD K (mCh f g ma mb mc) W σ H Q) : tChain r r' (tD K ma W) (tD K mb W) (tD K mc W) σ H Q := by
  obtain ⟨En, F, R, E, S, rel, h⟩ := h
  refine tD_then rel h fun F1 R1 H1 dv v S1 le rel1 rp h1 => ?_
  refine tD_then rel1 h1 fun F2 R2 H2 dw w S2 le2 rel2 rq h2 => ?_
  have rp2 := rp.mono le2 _ _
  refine hs En F2 R2 E S2 σ H2 W _ _ _ v w rel2 rp2 rq ?_
  cases e1 : f dv.frz dw.frz S2 with
  | bad => rw [e1] at h2; exact h2.elim
  | ex cc fs S3 => rw [e1] at h2; exact h2.elim
  | ok z S3 =>
    rw [e1] at h2
    intro F3 R3 H3 le3 rel3 v3 hv
    cases z with
    | ol ds => exact h2.elim
    | od ds => exact h2.elim
    | val d => cases d with
      | bl kk =>
        cases hv
        refine ⟨kk, rfl, ?_⟩
        cases kk with
        | true =>
          rw [if_pos rfl]
          have h3 := PostX.mono le3 h2
          refine tD_then rel3 h3 fun F4 R4 H4 du u S4 le4 rel4 rr h4 => ?_
          exact hs' En F4 R4 E S4 σ H4 W Q _ _ w u rel4 (rq.mono (le3.trans le4) _ _) rr h4
        | false =>
          rw [if_neg Bool.false_ne_true]
          exact Post.got (PostX.mono le3 h2) rel3 (.bl false)
      | _ => exact h2.elim
theorem de_ch (c1 : CmpRule G k N sc op f) (c2 : CmpRule G k N sc op' g) (ha : DE G k N sc a ma) (hb : DE G k N sc b mb) (hc : DE G k N sc c mc) (hm : lastMarks [op, op'] [b, c] = false := by with_unfolding_all rfl) : DE G k N sc (.Compare a [op, op'] [b, c] pos) (mCh f g ma mb mc) := by
  obtain ⟨r, hs, ho⟩ := c1.ex
  obtain ⟨r', hs', ho'⟩ := c2.ex
  exact ⟨fun X W c tk => pe_imp (pe_chain (ho X c) (ho' X c) (ha.run X W c tk) (hb.run X W c tk) (hc.run X W c tk) hm) fun σ H Q h => chain_of hs hs' h⟩
theorem dt_ch (c1 : CmpRule G k N sc op f) (c2 : CmpRule G k N sc op' g) (ha : DE G k N sc a ma) (hb : DE G k N sc b mb) (hc : DE G k N sc c mc) (hm : lastMarks [op, op'] [b, c] = false := by with_unfolding_all rfl) : DT G k N sc (.Compare a [op, op'] [b, c] pos) (mTst (mCh f g ma mb mc)) := by
  obtain ⟨r, hs, ho⟩ := c1.ex
  obtain ⟨r', hs', ho'⟩ := c2.ex
  exact ⟨fun X W c tk => pt_imp (pt_chain (ho X c) (ho' X c) (ha.run X W c tk) (hb.run X W c tk) (hc.run X W c tk) hm) fun σ H Q h => by
    obtain ⟨En, F, R, E, S, rel, h⟩ := tst_of h
    exact chain_of hs hs' ⟨En, F, R, E, S, rel, h⟩⟩
end

/-! ### a text's methods -/
def mM1 (f : Str → F1) (mo me : M DV) : M DV := bnd mo fun x => match x.frz with
  | .str a => bnd me fun y _ S => f a y.frz S
  | _ => fun _ _ => .bad
def SndM (K : PySem.W.Frag) (f : Str → F1) (r : V → List V → Hp → VK → Prop) : Prop :=
  ∀ (En : Ent) (F : Hp) (R : List Addr) (E : Ev) (S : Store) (σ : L2.St) (H : Hp) (W : WX) (Q : VK) (a : Str) (d : D) (y : V), Rel K En F R E S σ H → Rep K F R d y → Post K En F R E σ W Q (f a d S) → r (.str a) [y] H Q
section
variable {G : Gs} {k : Nat} {N : List Str} {sc : Scope} {o e : Expr} {mo me : M DV} {apos pos : Pos} {f : Str → F1} {r : V → List V → Hp → VK → Prop}
theorem tM1_of {σ : L2.St} {H : Hp} {W : WX} {Q : VK} (hs : SndM G.K f r) (h : tD G.K (mM1 f mo me) W σ H Q) : tM1 r (tD G.K mo W) (tD G.K me W) σ H Q := by
  obtain ⟨En, F, R, E, S, rel, h⟩ := h
  refine tD_then rel h fun F1 R1 H1 dv v S1 le rel1 rp h1 => ?_
  cases ed : dv.frz with
  | str a =>
    rw [ed] at rp h1
    cases rp
    refine ⟨⟨a, rfl⟩, ?_⟩
    refine tD_then rel1 h1 fun F2 R2 H2 dw w S2 le2 rel2 rq h2 => ?_
    exact hs En F2 R2 E S2 σ H2 W Q a _ w rel2 rq h2
  | _ => rw [ed] at h1; exact h1.elim
theorem de_m1 {id : String} {name : Str} (slot : Slot "str" name id) (ty : typeOf (.builtin id) = pure (.type "method_descriptor")) (rule : ∀ X, CtxE G k N sc X → MtR X id r) (hs : SndM G.K f r) (ho : DE G k N sc o mo) (he : DE G k N sc e me)
    (hst : ∀ env, starEach [e] env = [(false, eval e env)] := by intro _; rfl) (hbase : ∀ env, attributeBase o name env (eval o env) = eval o env := by intro _; rfl) (hline : (apos.endLine == pos.line) = true := by rfl) :
    DE G k N sc (.Call (.Attribute o name apos) [e] [] pos) (mM1 f mo me) :=
  ⟨fun X W c tk => pe_imp (pe_m1 slot ty (rule X c) (ho.run X W c tk) (he.run X W c tk) (hst _) (hbase _) hline) fun σ H Q h => tM1_of hs h⟩
def swD (a : Str) : F1 := fun d S => match d with
  | .str b => fine (.bl (Txt.startswith a b)) S
  | _ => .bad
def ewD (a : Str) : F1 := fun d S => match d with
  | .str b => fine (.bl (Txt.endswith a b)) S
  | _ => .bad
def splitOk (a b : Str) : Bool := (b.length != 0) && decide (a.length + 2 ≤ sizeLine)
def splitD (a : Str) : F1 := fun d S => match d with
  | .str b => if splitOk a b then .ok (.ol ((Txt.split a b).map .str)) S else .bad
  | _ => .bad
def partD (a : Str) : F1 := fun d S => match d with
  | .str b => if (b.length != 0) && decide (a.length ≤ sizeLine) then fine (.tup [.str (Txt.partition a b).1, .str (Txt.partition a b).2.1, .str (Txt.partition a b).2.2]) S else .bad
  | _ => .bad
/-- the texts of a list, of a tuple -/
def strsOf (S : Store) (d : D) : Option (List Str) := match view S d with
  | .lst ds => asStrs ds
  | .scr ds => asStrs ds
  | .tup ds => asStrs ds
  | _ => none
def joinOk (a : Str) (ys : List Str) : Bool := decide ((ys.map (·.length)).sum + ys.length * a.length ≤ 16777216)
def joinD (a : Str) : F1 := fun d S => match strsOf S d with
  | some ys => if joinOk a ys then fine (.str (Txt.join a ys)) S else .bad
  | none => .bad
theorem de_startswith (ho : DE G k N sc o mo) (he : DE G k N sc e me) (hst : ∀ env, starEach [e] env = [(false, eval e env)] := by intro _; rfl) (hbase : ∀ env, attributeBase o "startswith" env (eval o env) = eval o env := by intro _; rfl) (hline : (apos.endLine == pos.line) = true := by rfl) :
    DE G k N sc (.Call (.Attribute o "startswith" apos) [e] [] pos) (mM1 swD mo me) :=
  de_m1 F.slot_str_startswith F.type_str_startswith (fun _ _ => mt_startswith) (fun En F R E S σ H W Q a d y rel rp p => by
    cases d <;> try exact p.elim
    cases rp
    exact ⟨a, _, rfl, rfl, p.got rel (.bl _)⟩) ho he hst hbase hline
theorem de_endswith (ho : DE G k N sc o mo) (he : DE G k N sc e me) (hst : ∀ env, starEach [e] env = [(false, eval e env)] := by intro _; rfl) (hbase : ∀ env, attributeBase o "endswith" env (eval o env) = eval o env := by intro _; rfl) (hline : (apos.endLine == pos.line) = true := by rfl) :
    DE G k N sc (.Call (.Attribute o "endswith" apos) [e] [] pos) (mM1 ewD mo me) :=
  de_m1 F.slot_str_endswith F.type_str_endswith (fun _ _ => mt_endswith) (fun En F R E S σ H W Q a d y rel rp p => by
    cases d <;> try exact p.elim
    cases rp
    exact ⟨a, _, rfl, rfl, p.got rel (.bl _)⟩) ho he hst hbase hline
theorem map_str (ys : List Str) {K : PySem.W.Frag} {F : Hp} {R : List Addr} : Reps K F R (ys.map D.str) (ys.map V.str) := strs_reps
theorem de_split (ho : DE G k N sc o mo) (he : DE G k N sc e me) (hst : ∀ env, starEach [e] env = [(false, eval e env)] := by intro _; rfl) (hbase : ∀ env, attributeBase o "split" env (eval o env) = eval o env := by intro _; rfl) (hline : (apos.endLine == pos.line) = true := by rfl) :
    DE G k N sc (.Call (.Attribute o "split" apos) [e] [] pos) (mM1 splitD mo me) :=
  de_m1 F.slot_str_split F.type_str_split (fun _ _ => mt_split) (fun En F R E S σ H W Q a d y rel rp p => by
    cases d <;> try exact p.elim
    cases rp
    rename_i b
    unfold splitD at p
    dsimp only at p
    split at p
    · rename_i hz
      unfold splitOk at hz
      simp only [Bool.and_eq_true, bne_iff_ne, decide_eq_true_eq] at hz
      exact ⟨a, b, rfl, rfl, beq_eq_false_iff_ne.mpr hz.1, hz.2, fun l hl => p.ol rel strs_reps hl⟩
    · exact p.elim) ho he hst hbase hline
theorem de_partition (ho : DE G k N sc o mo) (he : DE G k N sc e me) (hst : ∀ env, starEach [e] env = [(false, eval e env)] := by intro _; rfl) (hbase : ∀ env, attributeBase o "partition" env (eval o env) = eval o env := by intro _; rfl) (hline : (apos.endLine == pos.line) = true := by rfl) :
    DE G k N sc (.Call (.Attribute o "partition" apos) [e] [] pos) (mM1 partD mo me) :=
  de_m1 F.slot_str_partition F.type_str_partition (fun _ _ => mt_partition) (fun En F R E S σ H W Q a d y rel rp p => by
    cases d <;> try exact p.elim
    cases rp
    rename_i b
    unfold partD at p
    dsimp only at p
    split at p
    · rename_i hz
      simp only [Bool.and_eq_true, bne_iff_ne, decide_eq_true_eq] at hz
      exact ⟨a, b, rfl, rfl, beq_eq_false_iff_ne.mpr hz.1, hz.2, fun l hl => p.tup rel (.cons (.str _) (.cons (.str _) (.cons (.str _) .nil))) hl⟩
    · exact p.elim) ho he hst hbase hline
theorem strsOf_ok {K : PySem.W.Frag} {En : Ent} {F : Hp} {R : List Addr} {E : Ev} {S : Store} {σ : L2.St} {H : Hp} (rel : Rel K En F R E S σ H) {d : D} {x : V} {ys : List Str} (rp : Rep K F R d x) (h : strsOf S d = some ys) : ∃ p, x = .ref p ∧ (SqL K H p (ys.map V.str) ∨ SqT K H p (ys.map V.str)) := by
  unfold strsOf at h
  split at h
  · rename_i xs e1
    obtain ⟨a, ws, rfl, h1, h2⟩ := view_lst rel rp e1
    rw [reps_strs h2 h] at h1
    exact ⟨a, rfl, .inl (.of h1)⟩
  · rename_i xs e1
    obtain ⟨a, ws, rfl, h1, h2⟩ := view_scr rel rp e1
    rw [reps_strs h2 h] at h1
    exact ⟨a, rfl, .inl h1⟩
  · rename_i xs e1
    obtain ⟨a, ws, rfl, h1, h2⟩ := view_tup rel rp e1
    rw [reps_strs h2 h] at h1
    exact ⟨a, rfl, .inr h1⟩
  · cases h
theorem de_join (ho : DE G k N sc o mo) (he : DE G k N sc e me) (hst : ∀ env, starEach [e] env = [(false, eval e env)] := by intro _; rfl) (hbase : ∀ env, attributeBase o "join" env (eval o env) = eval o env := by intro _; rfl) (hline : (apos.endLine == pos.line) = true := by rfl) :
    DE G k N sc (.Call (.Attribute o "join" apos) [e] [] pos) (mM1 joinD mo me) :=
  de_m1 F.slot_str_join F.type_str_join (fun X c => c.cK ▸ mt_join) (fun En F R E S σ H W Q a d y rel rp p => by
    unfold joinD at p
    split at p
    · rename_i ys hy
      split at p
      · rename_i hz
        obtain ⟨q, rfl, hq⟩ := strsOf_ok rel rp hy
        exact ⟨a, q, ys, rfl, rfl, hq, of_decide_eq_true hz, p.got rel (.str _)⟩
      · exact p.elim
    · exact p.elim) ho he hst hbase hline
end

/-! ### f-strings -/
def fmtD : F1 := fun d S => match d with
  | .str s => if small s.length then fine (.str s) S else .bad
  | .int i => if fitI i then fine (.str (toString i)) S else .bad
  | _ => .bad
structure DJ (G : Gs) (k : Nat) (N : List Str) (sc : Scope) (es : List Expr) (ms : List (M DV)) : Prop where
  run : ∀ (X : Cx) (W : WX), CtxE G k N sc X → Takes X W → PJ X es (ms.map fun m => tD G.K m W)
def mJs : List (M DV) → Str → M DV
  | [], acc => fun _ S => fine (.str acc) S
  | m :: ms, acc => bnd m fun x => match x.frz with
    | .str y => if small (acc ++ y).length then mJs ms (acc ++ y) else fun _ _ => .bad
    | _ => fun _ _ => .bad
section
variable {G : Gs} {k : Nat} {N : List Str} {sc : Scope} {e : Expr} {es : List Expr} {m : M DV} {ms : List (M DV)} {pos : Pos}
theorem de_fmt (he : DE G k N sc e m) : DE G k N sc (.FormattedValue e (-1) none pos) (mUn fmtD m) :=
  ⟨fun X W c tk => pe_imp (pe_fmt (he.run X W c tk)) fun σ H Q h => by
    obtain ⟨En, F, R, E, S, rel, h⟩ := h
    refine tD_then rel h fun F1 R1 H1 dv v S1 le rel1 rp h1 => ?_
    cases ed : dv.frz with
    | str s =>
      rw [ed] at rp h1
      cases rp
      change Post _ _ _ _ _ _ _ _ (if small s.length then fine (.str s) S1 else .bad) at h1
      split at h1
      · rename_i hz
        exact .inl ⟨s, rfl, of_decide_eq_true hz, Post.got h1 rel1 (.str s)⟩
      · exact h1.elim
    | int i =>
      rw [ed] at rp h1
      cases rp
      change Post _ _ _ _ _ _ _ _ (if fitI i then fine (.str (toString i)) S1 else .bad) at h1
      split at h1
      · rename_i hz
        exact .inr ⟨i, rfl, of_decide_eq_true hz, Post.got h1 rel1 (.str _)⟩
      · exact h1.elim
    | _ => rw [ed] at h1; exact h1.elim⟩
theorem dj_nil : DJ G k N sc [] [] := ⟨fun _ _ _ _ => .nil⟩
theorem dj_cons (he : DE G k N sc e m) (hr : DJ G k N sc es ms) : DJ G k N sc (e :: es) (m :: ms) := ⟨fun X W c tk => .cons (he.run X W c tk) (hr.run X W c tk)⟩
theorem tJs_of {K : PySem.W.Frag} {En : Ent} {E : Ev} {σ : L2.St} {W : WX} {Q : VK} : ∀ {ms : List (M DV)} {acc : Str} {F : Hp} {R : List Addr} {S : Store} {H : Hp}, Rel K En F R E S σ H → Post K En F R E σ W Q (mJs ms acc E S) → tJs (ms.map fun m => tD K m W) acc σ H fun out H1 => Q (.str out) H1
  | [], acc, F, R, S, H, rel, h => Post.got h rel (.str acc)
  | m :: ms, acc, F, R, S, H, rel, h => by
    refine tD_then rel h fun F1 R1 H1 dv v S1 le rel1 rp h1 => ?_
    cases ed : dv.frz with
    | str y =>
      rw [ed] at rp h1
      cases rp
      dsimp only at h1
      split at h1
      · rename_i hz
        exact ⟨y, rfl, of_decide_eq_true hz, tJs_of rel1 h1⟩
      · exact h1.elim
    | _ => rw [ed] at h1; exact h1.elim
theorem de_joined {v1 v2 : Expr} (h : DJ G k N sc (v1 :: v2 :: es) ms) : DE G k N sc (.JoinedStr (v1 :: v2 :: es) pos) (mJs ms Str.empty) :=
  ⟨fun X W c tk => pe_imp (pe_joined (h.run X W c tk)) fun σ H Q h => by
    obtain ⟨En, F, R, E, S, rel, h⟩ := h
    exact tJs_of rel h⟩
end
end Hm
set_option Elab.async false
set_option linter.all false
set_option maxRecDepth 100000
set_option maxHeartbeats 2000000
namespace Hm
open PySem PySem.Spec L2

/-! ### places: an own slot, a cell -/
inductive Plc where
  | sl (i : Nat) | ce (k : Nat)
def plcL (E : Ev) (S : Store) : Plc → Option (List D)
  | .sl i => (match E[i]? with
    | some (some (.ol ds)) => some ds
    | _ => none)
  | .ce k => (match S[k]? with
    | some (.lst ds) => some ds
    | _ => none)
def plcK (E : Ev) (S : Store) : Plc → Option (List (Key × D))
  | .sl i => (match E[i]? with
    | some (some (.od ds)) => some ds
    | _ => none)
  | .ce k => (match S[k]? with
    | some (.dct ds) => some ds
    | _ => none)
theorem plcL_sl {E : Ev} {S : Store} {i : Nat} {ds : List D} (h : plcL E S (.sl i) = some ds) : E[i]? = some (some (.ol ds)) := by
  dsimp only [plcL] at h
  split at h
  · rename_i e; cases h; exact e
  · cases h
theorem plcL_ce {E : Ev} {S : Store} {i : Nat} {ds : List D} (h : plcL E S (.ce i) = some ds) : S[i]? = some (.lst ds) := by
  dsimp only [plcL] at h
  split at h
  · rename_i e; cases h; exact e
  · cases h
theorem plcK_sl {E : Ev} {S : Store} {i : Nat} {ds : List (Key × D)} (h : plcK E S (.sl i) = some ds) : E[i]? = some (some (.od ds)) := by
  dsimp only [plcK] at h
  split at h
  · rename_i e; cases h; exact e
  · cases h
theorem plcK_ce {E : Ev} {S : Store} {i : Nat} {ds : List (Key × D)} (h : plcK E S (.ce i) = some ds) : S[i]? = some (.dct ds) := by
  dsimp only [plcK] at h
  split at h
  · rename_i e; cases h; exact e
  · cases h
def putE (E : Ev) (dv : DV) : Plc → Ev
  | .sl i => E.set i (some dv)
  | .ce _ => E
def putS (S : Store) (c : Cell) : Plc → Store
  | .sl _ => S
  | .ce k => S.set k c
def AtP (R : List Addr) (σ : L2.St) (a : Addr) : Plc → Prop
  | .sl i => σ[i]? = some (some (.ref a))
  | .ce k => R[k]? = some a
theorem AtP.mono {F F' : Hp} {R R' : List Addr} {σ : L2.St} {a : Addr} (le : Le F R F' R') : ∀ {p : Plc}, AtP R σ a p → AtP R' σ a p
  | .sl _, h => h
  | .ce _, h => le.r _ _ h
section
variable {K : PySem.W.Frag} {En : Ent} {F F' : Hp} {R R' : List Addr} {E E' : Ev} {S S' : Store} {σ σ' : L2.St} {H H' : Hp} {W : WX}
/-- an own slot's thing is changed -/
theorem Rel.setOwn (r : Rel K En F R E S σ H) {i : Nat} {x dv : DV} {a : Addr} {o : HO} (e : E[i]? = some (some x)) (ox : x.isOwn = true) (od : dv.isOwn = true) (es : σ[i]? = some (some (.ref a))) (h : OwnAt K F R (upd H a o) a dv) : Rel K En F R (E.set i (some dv)) S σ (upd H a o) := by
  have hil : i < E.length := (List.getElem?_eq_some_iff.mp e).1
  have q : F a = none ∧ a ∉ R ∧ En.H a = none := by
    have z := r.slot i x e
    cases x with
    | val d => cases ox
    | ol ds =>
      obtain ⟨b, eb, _, f1, f2, f3⟩ := z
      rw [es] at eb; cases eb
      exact ⟨f1, f2, f3⟩
    | od ds =>
      obtain ⟨b, eb, _, f1, f2, f3⟩ := z
      rw [es] at eb; cases eb
      exact ⟨f1, f2, f3⟩
  obtain ⟨f1, f2, f3⟩ := q
  have hi : ∀ {j : Nat} {y : DV}, (E.set i (some dv))[j]? = some (some y) → (j = i ∧ y = dv) ∨ (j ≠ i ∧ E[j]? = some (some y)) := fun {j y} e2 => by
    by_cases hj : j = i
    · subst hj
      rw [List.getElem?_set_self hil] at e2
      cases e2
      exact .inl ⟨rfl, rfl⟩
    · rw [List.getElem?_set_ne (Ne.symm hj)] at e2
      exact .inr ⟨hj, e2⟩
  refine ⟨r.len, fun b u eb => ?_, r.nodup, fun k c b e1 e2 => ?_, fun j y ej => ?_, fun j1 j2 y1 y2 b e1 e2 o1 o2 s1 s2 => ?_, fun b u eb n f => ?_, r.nf, r.nr, by rw [List.length_set]; exact r.elen⟩
  · rw [upd_ne (fun z => by rw [z, f1] at eb; cases eb)]; exact r.frz b u eb
  · obtain ⟨q, f⟩ := r.cell k c b e1 e2
    exact ⟨q.mono Le.refl (upd_ne fun z => f2 (by rw [← z]; exact List.mem_of_getElem? e2)), f⟩
  · rcases hi ej with ⟨rfl, rfl⟩ | ⟨hj, e2⟩
    · cases y with
      | val d => cases od
      | ol ds => exact ⟨a, es, h, f1, f2, f3⟩
      | od ds => exact ⟨a, es, h, f1, f2, f3⟩
    · exact (r.slot j y e2).mono Le.refl fun b eb ow g1 g2 g3 => ⟨upd_ne fun z => hj (r.apart j i y x a e2 e ow ox (by rw [eb, z]) es), g1, g2⟩
  · rcases hi e1 with ⟨h1, h2⟩ | ⟨h1, h2⟩
    · rcases hi e2 with ⟨g1, g2⟩ | ⟨g1, g2⟩
      · rw [h1, g1]
      · subst h1
        exact r.apart j1 j2 x y2 b e g2 ox o2 s1 s2
    · rcases hi e2 with ⟨g1, g2⟩ | ⟨g1, g2⟩
      · subst g1
        exact r.apart j1 j2 y1 x b h2 e o1 ox s1 s2
      · exact r.apart j1 j2 y1 y2 b h2 g2 o1 o2 s1 s2
  · rw [upd_ne (fun z => by rw [z, f3] at eb; cases eb)]; exact r.keep b u eb n f
/-- a cell is changed -/
theorem Rel.setCell (r : Rel K En F R E S σ H) {k : Nat} {c : Cell} {a : Addr} {o : HO} (hk : R[k]? = some a) (h : CellAt K F R (upd H a o) a c) : Rel K En F R E (S.set k c) σ (upd H a o) := by
  have hkl : k < S.length := by rw [← r.len]; exact (List.getElem?_eq_some_iff.mp hk).1
  have mem : a ∈ R := List.mem_of_getElem? hk
  have f1 : F a = none := (r.cell k _ a (List.getElem?_eq_getElem hkl) hk).2
  refine ⟨by rw [List.length_set]; exact r.len, fun b u eb => ?_, r.nodup, fun j cc b e1 e2 => ?_, fun j y ej => ?_, r.apart, fun b u eb n f => ?_, r.nf, r.nr, r.elen⟩
  · rw [upd_ne (fun z => by rw [z, f1] at eb; cases eb)]; exact r.frz b u eb
  · by_cases hj : j = k
    · subst hj
      rw [List.getElem?_set_self hkl] at e1
      cases e1
      rw [hk] at e2
      cases e2
      exact ⟨h, f1⟩
    · rw [List.getElem?_set_ne (Ne.symm hj)] at e1
      obtain ⟨q, f⟩ := r.cell j cc b e1 e2
      refine ⟨q.mono Le.refl (upd_ne fun z => ?_), f⟩
      subst z
      have l1 : j < R.length := (List.getElem?_eq_some_iff.mp e2).1
      have l2 : k < R.length := (List.getElem?_eq_some_iff.mp hk).1
      have g1 : R[j] = b := (List.getElem?_eq_some_iff.mp e2).2
      have g2 : R[k] = b := (List.getElem?_eq_some_iff.mp hk).2
      exact hj ((List.getElem_inj r.nodup).mp (g1.trans g2.symm))
  · exact (r.slot j y ej).mono Le.refl fun b eb ow g1 g2 g3 => ⟨upd_ne fun z => g2 (by rw [z]; exact mem), g1, g2⟩
  · rw [upd_ne (fun z => n (by rw [z]; exact mem))]; exact r.keep b u eb n f
theorem Rel.plcL (r : Rel K En F R E S σ H) : ∀ {p : Plc} {a : Addr} {ds : List D}, AtP R σ a p → plcL E S p = some ds → ∃ vs, H a = some (.lst vs) ∧ Reps K F R ds vs ∧
    ∀ ds' vs', Reps K F R ds' vs' → Rel K En F R (putE E (.ol ds') p) (putS S (.lst ds') p) σ (upd H a (.lst vs'))
  | .sl i, a, ds, ha, e => by
    have hx := plcL_sl e
    obtain ⟨b, eb, ⟨vs, h1, h2⟩, _⟩ := r.slot i _ hx
    rw [show σ[i]? = some (some (.ref a)) from ha] at eb
    cases eb
    exact ⟨vs, h1, h2, fun ds' vs' rs => r.setOwn hx rfl rfl ha ⟨vs', upd_same, rs⟩⟩
  | .ce k, a, ds, ha, e => by
    obtain ⟨⟨vs, h1, h2⟩, _⟩ := r.cell k _ a (plcL_ce e) ha
    exact ⟨vs, h1, h2, fun ds' vs' rs => r.setCell ha ⟨vs', upd_same, rs⟩⟩
theorem Rel.plcK (r : Rel K En F R E S σ H) : ∀ {p : Plc} {a : Addr} {ds : List (Key × D)}, AtP R σ a p → plcK E S p = some ds → ∃ vs, H a = some (.dK vs) ∧ RepK K F R ds vs ∧
    ∀ ds' vs', RepK K F R ds' vs' → Rel K En F R (putE E (.od ds') p) (putS S (.dct ds') p) σ (upd H a (.dK vs'))
  | .sl i, a, ds, ha, e => by
    have hx := plcK_sl e
    obtain ⟨b, eb, ⟨vs, h1, h2⟩, _⟩ := r.slot i _ hx
    rw [show σ[i]? = some (some (.ref a)) from ha] at eb
    cases eb
    exact ⟨vs, h1, h2, fun ds' vs' rs => r.setOwn hx rfl rfl ha ⟨vs', upd_same, rs⟩⟩
  | .ce k, a, ds, ha, e => by
    obtain ⟨⟨vs, h1, h2⟩, _⟩ := r.cell k _ a (plcK_ce e) ha
    exact ⟨vs, h1, h2, fun ds' vs' rs => r.setCell ha ⟨vs', upd_same, rs⟩⟩
end
def tP (K : PySem.W.Frag) (m : M Plc) (W : WX) : TE := fun σ H Q => ∃ (En : Ent) (F : Hp) (R : List Addr) (E : Ev) (S : Store), Rel K En F R E S σ H ∧ PostX K En F R E σ W (fun _ R' H' p _ => ∀ a, AtP R' σ a p → Q (.ref a) H') (m E S)
structure DP (G : Gs) (k : Nat) (N : List Str) (sc : Scope) (e : Expr) (m : M Plc) : Prop where
  run : ∀ (X : Cx) (W : WX), CtxE G k N sc X → Takes X W → PE X e (tP G.K m W)
def mPv (i : Nat) : M Plc := fun E S => match E[i]? with
  | some (some (.val (.ref k))) => .ok (.ce k) S
  | some (some (.ol _)) => .ok (.sl i) S
  | some (some (.od _)) => .ok (.sl i) S
  | _ => .bad
def mPe (m : M DV) : M Plc := bnd m fun x _ S => match x with
  | .val (.ref k) => .ok (.ce k) S
  | _ => .bad
section
variable {G : Gs} {k : Nat} {N : List Str} {sc : Scope} {e : Expr} {m : M DV} {pos : Pos}
theorem dp_name {x : Str} (i : Nat) (hN : N[i]? = some x := by rfl) (hv : Vis sc x := by first | exact Or.inl rfl | exact Or.inr (Or.inl rfl) | exact Or.inr (Or.inr rfl)) (hd : (x == ("__debug__" : Str)) = false := by decide)
    (hcd : (x == ("__classdict__" : Str)) = false := by decide) : DP G k N sc (.Name x pos) (mPv i) :=
  ⟨fun X W c tk => pe_imp (pe_var (i := i) (by rw [c.cN]; exact hN) (by rw [c.csc]; exact hv) hd hcd) fun σ H Q h => by
    obtain ⟨En, F, R, E, S, rel, h⟩ := h
    unfold mPv at h
    split at h
    · rename_i kk e
      obtain ⟨v, e2, r⟩ := rel.slot i _ e
      cases r with
      | ref hk => exact ⟨_, e2, h F R H Le.refl rel _ hk⟩
    · rename_i ds e
      obtain ⟨a, e2, _⟩ := rel.slot i _ e
      exact ⟨_, e2, h F R H Le.refl rel a e2⟩
    · rename_i ds e
      obtain ⟨a, e2, _⟩ := rel.slot i _ e
      exact ⟨_, e2, h F R H Le.refl rel a e2⟩
    · exact h.elim⟩
theorem dp_val (he : DE G k N sc e m) : DP G k N sc e (mPe m) :=
  ⟨fun X W c tk => pe_imp (he.run X W c tk) fun σ H Q h => by
    obtain ⟨En, F, R, E, S, rel, h⟩ := h
    refine ⟨En, F, R, E, S, rel, (post_bnd h).imp fun F1 R1 H1 x S1 le rel1 q v hv => ?_⟩
    cases x with
    | val d => cases d with
      | ref kk =>
        cases hv with
        | ref hk => exact q F1 R1 H1 Le.refl rel1 _ hk
      | _ => exact q.elim
    | _ => exact q.elim⟩
end
section
variable {K : PySem.W.Frag} {En : Ent} {F : Hp} {R : List Addr} {E : Ev} {S : Store} {σ : L2.St} {H : Hp} {W : WX} {D : Ends}
theorem withP_then {m : M Plc} {f : Plc → MS} {k : V → Hp → Prop} (rel : Rel K En F R E S σ H) (h : PostS K En F R D W (withE m f E S))
    (hk : ∀ F1 R1 H1 p a S1, Le F R F1 R1 → Rel K En F1 R1 E S1 σ H1 → AtP R1 σ a p → PostS K En F1 R1 D W (f p E S1) → k (.ref a) H1) : tP K m W σ H k :=
  ⟨En, F, R, E, S, rel, (post_with rel h).imp fun F1 R1 H1 p S1 le rel1 q a ha => hk F1 R1 H1 p a S1 le rel1 ha q⟩
/-- arguments in a statement -/
theorem withA_then {m : M (List Hm.D)} {f : List Hm.D → MS} {k : List V → Hp → Prop} (rel : Rel K En F R E S σ H) (h : PostS K En F R D W (withE m f E S))
    (hk : ∀ F1 R1 H1 ds vs S1, Le F R F1 R1 → Rel K En F1 R1 E S1 σ H1 → Reps K F1 R1 ds vs → PostS K En F1 R1 D W (f ds E S1) → k vs H1) : tA K m W σ H k :=
  ⟨En, F, R, E, S, rel, (post_with rel h).imp fun F1 R1 H1 ds S1 le rel1 q vs rs => hk F1 R1 H1 ds vs S1 le rel1 rs q⟩
end

/-! ### x.append(e), x.extend(e), x[i] = e -/
def putD (kvs : List (Key × D)) (k : Key) (d : D) : List (Key × D) :=
  if (kvs.any fun kv => decide (kv.1 = k)) = true then kvs.map (fun kv => if kv.1 = k then (kv.1, d) else kv) else kvs ++ [(k, d)]
def appS (mp : M Plc) (ms : M (List D)) : MS := withE mp fun p E S => match plcL E S p with
  | none => .bad
  | some _ => withE ms (fun ds E S => match ds, plcL E S p with
    | [d], some xs => if xs.length < sizeLine then .nx (putE E (.ol (xs ++ [d])) p) (putS S (.lst (xs ++ [d])) p) else .bad
    | _, _ => .bad) E S
def extS (mp : M Plc) (ms : M (List D)) : MS := withE mp fun p E S => match plcL E S p with
  | none => .bad
  | some _ => withE ms (fun ds E S => match ds, plcL E S p with
    | [.lst ys], some xs => if xs.length + ys.length ≤ sizeLine then .nx (putE E (.ol (xs ++ ys)) p) (putS S (.lst (xs ++ ys)) p) else .bad
    | _, _ => .bad) E S
def ixPut (E : Ev) (S : Store) (p : Plc) (di dx : D) : Option (DV × Cell) := match plcL E S p with
  | some xs => (match di with
    | .int k => (ixN xs.length k).map fun j => (.ol (xs.set j dx), .lst (xs.set j dx))
    | _ => none)
  | none => (match plcK E S p with
    | some kvs => (match keyOf di with
      | some key => if kvs.length < sizeLine then some (.od (putD kvs key dx), .dct (putD kvs key dx)) else none
      | none => none)
    | none => none)
def setIxS (me : M DV) (mp : M Plc) (mi : M DV) : MS := withE me fun x => withE mp fun p => withE mi fun i E S => match ixPut E S p i.frz x.frz with
  | some r => .nx (putE E r.1 p) (putS S r.2 p)
  | none => .bad
theorem repK_any {K : PySem.W.Frag} {F : Hp} {R : List Addr} {k : Key} : ∀ {kvs : List (Key × D)} {ks : List (Key × V)}, RepK K F R kvs ks → (kvs.any fun kv => decide (kv.1 = k)) = ks.any fun kv => decide (kv.1 = k)
  | _, _, .nil => rfl
  | _, _, .cons r t => by rw [List.any_cons, List.any_cons, repK_any t]
theorem repK_map {K : PySem.W.Frag} {F : Hp} {R : List Addr} {k : Key} {d : D} {v : V} (r : Rep K F R d v) : ∀ {kvs : List (Key × D)} {ks : List (Key × V)}, RepK K F R kvs ks → RepK K F R (kvs.map fun kv => if kv.1 = k then (kv.1, d) else kv) (ks.map fun kv => if kv.1 = k then (kv.1, v) else kv)
  | _, _, .nil => .nil
  | _, _, .cons (k := k1) r1 t => by
    rw [List.map_cons, List.map_cons]
    by_cases e : k1 = k
    · rw [if_pos e, if_pos e]; exact .cons r (repK_map r t)
    · rw [if_neg e, if_neg e]; exact .cons r1 (repK_map r t)
theorem repK_app {K : PySem.W.Frag} {F : Hp} {R : List Addr} : ∀ {kvs ls : List (Key × D)} {ks ms : List (Key × V)}, RepK K F R kvs ks → RepK K F R ls ms → RepK K F R (kvs ++ ls) (ks ++ ms)
  | _, _, _, _, .nil, h => h
  | _, _, _, _, .cons r t, h => .cons r (repK_app t h)
theorem repK_put {K : PySem.W.Frag} {F : Hp} {R : List Addr} {k : Key} {d : D} {v : V} (r : Rep K F R d v) {kvs : List (Key × D)} {ks : List (Key × V)} (h : RepK K F R kvs ks) : RepK K F R (putD kvs k d) (putK ks k v) := by
  unfold putD putK
  rw [repK_any h]
  split
  · exact repK_map r h
  · exact repK_app h (.cons r .nil)
section
variable {G : Gs} {k : Nat} {N : List Str} {sc : Scope} {o e i : Expr} {es : List Expr} {mp : M Plc} {me mi : M DV} {ms : M (List D)} {apos cpos pos : Pos}
theorem ds_append (ho : DP G k N sc o mp) (ha : DA G k N sc [e] ms) (hs : ∀ env, swapsWith (.Call (.Attribute o "append" apos) [e] [] cpos) none pos.line env = pure false := by intro _; rfl)
    (hbase : ∀ env, attributeBase o "append" env (eval o env) = eval o env := by intro _; rfl) (hfew : ∀ env, ((backTo cpos (starEach [e] env)).all (fun x => !x.1) && (backToKw cpos (keywordEach [] env)).all (fun x => x.1.isSome)
      && decide ([e].length + ([] : List Keyword).length + (if ([] : List Keyword).isEmpty then 0 else 1) < 30)) = true := by intro _; rfl) (hline : (apos.endLine == cpos.line) = true := by rfl)
    (hst : ∀ env, starEach [e] env = (false, eval e env) :: starEach [] env := by intro _; rfl) (hpl : ∀ env, (backTo cpos (starEach [] env)).any (·.1) = false := by intro _; rfl) :
    DS G k N sc (.Expr (.Call (.Attribute o "append" apos) [e] [] cpos) pos) (appS mp ms) :=
  ⟨fun X W c tk => ps_imp (ps_expr (pe_bm F.plainAttrs_list F.slot_list_append F.type_list_append mt_append (ho.run X W c.e tk) (ha.run X W c.e tk) (hbase _) (hfew _) hline (hst _) (hpl _)) (hs _)) fun D σ H h => by
    obtain ⟨En, F, R, E, S, rel, h⟩ := h
    unfold tDrop tBM
    refine withP_then rel h fun F1 R1 H1 p a S1 le rel1 hp q => ?_
    split at q
    · exact q.elim
    · rename_i xs0 hx0
      obtain ⟨vs0, h0, _⟩ := rel1.plcL hp hx0
      refine ⟨.inl ⟨rfl, vs0, .of h0⟩, ?_⟩
      refine withA_then rel1 q fun F2 R2 H2 ds vs S2 le2 rel2 rs q2 => ?_
      split at q2
      · rename_i d xs hx
        split at q2
        · rename_i hz
          obtain ⟨v, rfl, rd⟩ := reps1 rs
          obtain ⟨ws, hw, rw', put⟩ := rel2.plcL (hp.mono le2) hx
          exact ⟨a, ws, v, rfl, rfl, hw, by rw [← rw'.length]; exact hz, q2 F2 R2 σ _ Le.refl (put _ _ (rw'.append (.cons rd .nil)))⟩
        · exact q2.elim
      · exact q2.elim⟩
theorem ds_extend (ho : DP G k N sc o mp) (ha : DA G k N sc [e] ms) (hs : ∀ env, swapsWith (.Call (.Attribute o "extend" apos) [e] [] cpos) none pos.line env = pure false := by intro _; rfl)
    (hbase : ∀ env, attributeBase o "extend" env (eval o env) = eval o env := by intro _; rfl) (hfew : ∀ env, ((backTo cpos (starEach [e] env)).all (fun x => !x.1) && (backToKw cpos (keywordEach [] env)).all (fun x => x.1.isSome)
      && decide ([e].length + ([] : List Keyword).length + (if ([] : List Keyword).isEmpty then 0 else 1) < 30)) = true := by intro _; rfl) (hline : (apos.endLine == cpos.line) = true := by rfl)
    (hst : ∀ env, starEach [e] env = (false, eval e env) :: starEach [] env := by intro _; rfl) (hpl : ∀ env, (backTo cpos (starEach [] env)).any (·.1) = false := by intro _; rfl) :
    DS G k N sc (.Expr (.Call (.Attribute o "extend" apos) [e] [] cpos) pos) (extS mp ms) :=
  ⟨fun X W c tk => ps_imp (ps_expr (pe_bm F.plainAttrs_list F.slot_list_extend F.type_list_extend mt_extend (ho.run X W c.e tk) (ha.run X W c.e tk) (hbase _) (hfew _) hline (hst _) (hpl _)) (hs _)) fun D σ H h => by
    obtain ⟨En, F, R, E, S, rel, h⟩ := h
    unfold tDrop tBM
    refine withP_then rel h fun F1 R1 H1 p a S1 le rel1 hp q => ?_
    split at q
    · exact q.elim
    · rename_i xs0 hx0
      obtain ⟨vs0, h0, _⟩ := rel1.plcL hp hx0
      refine ⟨.inl ⟨rfl, vs0, .of h0⟩, ?_⟩
      refine withA_then rel1 q fun F2 R2 H2 ds vs S2 le2 rel2 rs q2 => ?_
      split at q2
      · rename_i ys xs hx
        split at q2
        · rename_i hz
          obtain ⟨v, rfl, rd⟩ := reps1 rs
          cases rd with
          | lst hb rb =>
            obtain ⟨ws, hw, rw', put⟩ := rel2.plcL (hp.mono le2) hx
            exact ⟨a, _, ws, _, rfl, rfl, hw, rel2.frz _ _ hb, by rw [← rw'.length, ← rb.length]; exact hz, q2 F2 R2 σ _ Le.refl (put _ _ (rw'.append rb))⟩
        · exact q2.elim
      · exact q2.elim⟩
/-- o[i] = e -/
theorem ds_setIx {tpos : Pos} (he : DE G k N sc e me) (ho : DP G k N sc o mp) (hi : DE G k N sc i mi) (hs : ∀ env, swapsWithSole [.Subscript o i tpos] e pos.line env = pure false := by intro _; rfl) (hw : ∀ env, swappedStores [.Subscript o i tpos] e env = pure none := by intro _; rfl)
    (h1 : ∀ env, (assignEach [.Subscript o i tpos] env).map (·.2) = [assign (.Subscript o i tpos) env] := by intro _; rfl)
    (ha : ∀ env v, assign (.Subscript o i tpos) env v = (do
      let ov ← holding [v] (eval o env)
      let iv ← holding [v, ov] (eval i env)
      standAt tpos
      holding [v, ov, iv] (setItem ov iv v)
      release [v, ov, iv] []) := by intro _ _; rfl) : DS G k N sc (.Assign [.Subscript o i tpos] e pos) (setIxS me mp mi) :=
  ⟨fun X W c tk => ⟨fun pins s σ H D I h => by
    have pe := he.run X W c.e tk
    have po := ho.run X W c.e tk
    have pi := hi.run X W c.e tk
    refine (ps_asg (g := fun v σ H Q => tP G.K mp W σ H fun ov H1 => tD G.K mi W σ H1 fun iv H2 => (rSetL ov iv v H2 fun H3 => Q σ H3) ∨ (rSetD ov iv v H2 fun H3 => Q σ H3)) pe ?_ (hs _) (hw _) (h1 _)).run pins s σ H D I ?_
    · exact pg_imp (pg_sub (t := fun o i v H Q => rSetL o i v H Q ∨ rSetD o i v H Q) po pi (fun pins s σ H o i v ov iv u Q I ro ri rv h => h.elim (set_list pins s σ H o i v ov iv u Q I ro ri rv) (set_dict (hu_of c.e.croom) pins s σ H o i v ov iv u Q I ro ri rv)) (ha _)) fun v σ H Q h => h
    · obtain ⟨En, F, R, E, S, rel, h⟩ := h
      refine withE_thenF rel h fun F1 R1 H1 dx x S1 le rel1 rx q => ?_
      refine withP_then rel1 q fun F2 R2 H2 p a S2 le2 rel2 hp q2 => ?_
      refine withE_thenF rel2 q2 fun F3 R3 H3 di iv S3 le3 rel3 ri q3 => ?_
      have rx3 := rx.mono (le2.trans le3) _ _
      cases er : ixPut E S3 p di.frz dx.frz with
      | none => rw [er] at q3; exact q3.elim
      | some r =>
        rw [er] at q3
        unfold ixPut at er
        cases hx : plcL E S3 p with
        | some xs =>
          rw [hx] at er
          dsimp only at er
          split at er
          · rename_i kk ei
            obtain ⟨j, hj, rfl⟩ := Option.map_eq_some_iff.mp er
            rw [ei] at ri
            cases ri
            obtain ⟨ws, hw, rw', put⟩ := rel3.plcL (hp.mono le3) hx
            exact .inl ⟨a, ws, kk, j, rfl, rfl, hw, by rw [← rw'.length]; exact hj, q3 F3 R3 σ _ Le.refl (put _ _ (rw'.set j rx3))⟩
          · cases er
        | none =>
          rw [hx] at er
          dsimp only at er
          cases hk : plcK E S3 p with
          | none => rw [hk] at er; cases er
          | some kvs =>
            rw [hk] at er
            dsimp only at er
            cases hkey : keyOf di.frz with
            | none => rw [hkey] at er; cases er
            | some key =>
              rw [hkey] at er
              dsimp only at er
              split at er
              · rename_i hz
                cases er
                obtain rfl := keyOf_ok ri hkey
                obtain ⟨ws, hw, rw', put⟩ := rel3.plcK (hp.mono le3) hk
                exact .inr ⟨a, _, rfl, .k hw (by rw [← rw'.length]; exact hz), q3 F3 R3 σ _ Le.refl (put _ _ (repK_put rx3 rw'))⟩
              · cases er⟩⟩
end

/-! ### an own slot becomes a cell -/
def celS (i : Nat) (m : MS) : MS := fun E S => match E[i]? with
  | some (some (.ol ds)) => m (E.set i (some (.val (.ref S.length)))) (S ++ [.lst ds])
  | some (some (.od ds)) => m (E.set i (some (.val (.ref S.length)))) (S ++ [.dct ds])
  | _ => m E S
section
variable {K : PySem.W.Frag} {En : Ent} {F F' : Hp} {R R' : List Addr} {E E' : Ev} {S S' : Store} {σ σ' : L2.St} {H H' : Hp} {W : WX}
theorem Rel.celSlot (r : Rel K En F R E S σ H) {i : Nat} {dv : DV} {c : Cell} (e : E[i]? = some (some dv)) (ow : dv.isOwn = true) (hc : ∀ a, OwnAt K F R H a dv → CellAt K F R H a c) : ∃ R', Le F R F R' ∧ Rel K En F R' (E.set i (some (.val (.ref S.length)))) (S ++ [c]) σ H := by
  have hil : i < E.length := (List.getElem?_eq_some_iff.mp e).1
  have q : ∃ a, σ[i]? = some (some (.ref a)) ∧ OwnAt K F R H a dv ∧ F a = none ∧ a ∉ R ∧ En.H a = none := by
    have z := r.slot i dv e
    cases dv with
    | val d => cases ow
    | ol ds => exact z
    | od ds => exact z
  obtain ⟨a, ea, oa, f1, f2, f3⟩ := q
  have le : Le F R F (R ++ [a]) := ⟨fun _ _ h => .inl h, fun j b h => by rw [List.getElem?_append_left ((List.getElem?_eq_some_iff.mp h).1)]; exact h⟩
  have hi : ∀ {j : Nat} {y : DV}, (E.set i (some (.val (.ref S.length))))[j]? = some (some y) → (j = i ∧ y = .val (.ref S.length)) ∨ (j ≠ i ∧ E[j]? = some (some y)) := fun {j y} e2 => by
    by_cases hj : j = i
    · subst hj
      rw [List.getElem?_set_self hil] at e2
      cases e2
      exact .inl ⟨rfl, rfl⟩
    · rw [List.getElem?_set_ne (Ne.symm hj)] at e2
      exact .inr ⟨hj, e2⟩
  refine ⟨R ++ [a], le, by rw [List.length_append, List.length_append, r.len]; rfl, r.frz, ?_, fun j cc b e1 e2 => ?_, fun j y ej => ?_, fun j1 j2 y1 y2 b e1 e2 o1 o2 s1 s2 => ?_, fun b u eb n f => ?_, r.nf, fun b u eb m => ?_, by rw [List.length_set]; exact r.elen⟩
  · rw [List.nodup_append]
    refine ⟨r.nodup, by simp, fun x hx y hy => ?_⟩
    rw [List.mem_singleton.mp hy]
    exact fun z => f2 (by rw [← z]; exact hx)
  · by_cases hj : j < S.length
    · rw [List.getElem?_append_left hj] at e1
      rw [List.getElem?_append_left (by rw [r.len]; exact hj)] at e2
      obtain ⟨q, f⟩ := r.cell j cc b e1 e2
      exact ⟨q.mono le rfl, f⟩
    · rw [List.getElem?_append_right (by omega)] at e1
      rw [List.getElem?_append_right (by rw [r.len]; omega), r.len] at e2
      have hz : j - S.length = 0 := by
        have h1 := (List.getElem?_eq_some_iff.mp e1).1
        rw [List.length_singleton] at h1
        omega
      rw [hz] at e1 e2
      cases e1
      cases e2
      exact ⟨(hc a oa).mono le rfl, f1⟩
  · rcases hi ej with ⟨rfl, rfl⟩ | ⟨hj, e2⟩
    · exact ⟨.ref a, ea, .ref (by rw [List.getElem?_append_right (by rw [r.len]; exact Nat.le_refl _), r.len, Nat.sub_self]; rfl)⟩
    · refine (r.slot j y e2).mono le fun b eb ow2 g1 g2 g3 => ⟨rfl, g1, fun m => ?_⟩
      rcases List.mem_append.mp m with m | m
      · exact g2 m
      · rw [List.mem_singleton.mp m] at eb
        exact hj (r.apart j i y dv a e2 e ow2 ow eb ea)
  · rcases hi e1 with ⟨h1, h2⟩ | ⟨h1, h2⟩
    · subst h2; cases o1
    · rcases hi e2 with ⟨g1, g2⟩ | ⟨g1, g2⟩
      · subst g2; cases o2
      · exact r.apart j1 j2 y1 y2 b h2 g2 o1 o2 s1 s2
  · exact r.keep b u eb (fun m => n (List.mem_append_left _ m)) f
  · rcases List.mem_append.mp m with m | m
    · exact r.nr b u eb m
    · rw [List.mem_singleton.mp m, f3] at eb; cases eb
end
section
variable {G : Gs} {k : Nat} {N : List Str} {sc : Scope} {st : Stmt} {a : MS}
theorem ds_cel (i : Nat) (h : DS G k N sc st a) : DS G k N sc st (celS i a) :=
  ⟨fun X W c tk => ps_imp (h.run X W c tk) fun D σ H q => by
    obtain ⟨En, F, R, E, S, rel, q⟩ := q
    unfold celS at q
    split at q
    · rename_i ds e
      obtain ⟨R', le, r⟩ := rel.celSlot e rfl (c := .lst ds) fun a h => h
      exact ⟨En, F, R', _, _, r, q.mono le⟩
    · rename_i ds e
      obtain ⟨R', le, r⟩ := rel.celSlot e rfl (c := .dct ds) fun a h => h
      exact ⟨En, F, R', _, _, r, q.mono le⟩
    · exact ⟨En, F, R, E, S, rel, q⟩⟩

/-! ### a, b = x, y -/
def parS (i j : Nat) (ms : M (List D)) : MS := withE ms fun ds E S => match ds with
  | [d, e] => .nx ((E.set i (some (.val d))).set j (some (.val e))) S
  | _ => .bad
theorem ds_par {x y : Str} {a b : Expr} {ms : M (List D)} {px py pt pos : Pos} {kt k2 : Nat} {pt2 : Pos} (i j : Nat) (ha : DA G k N sc [a, b] ms) (hN : N[i]? = some x := by rfl) (hN2 : N[j]? = some y := by rfl) (hij : i ≠ j := by decide)
    (hx : sc.names.lookup x = some .local := by rfl) (hy : sc.names.lookup y = some .local := by rfl) (hw : ∀ env, env.scope = sc → swappedStores [.Tuple [.Name x px, .Name y py] kt pt] (.Tuple [a, b] k2 pt2) env = pure (some [x, y]))
    (hs : ∀ env, swapsWithSole [.Tuple [.Name x px, .Name y py] kt pt] (.Tuple [a, b] k2 pt2) pos.line env = pure false := by intro _; rfl) : DS G k N sc (.Assign [.Tuple [.Name x px, .Name y py] kt pt] (.Tuple [a, b] k2 pt2) pos) (parS i j ms) :=
  ⟨fun X W c tk => ps_imp (ps_par (i := i) (j := j) c.e.ccalm (by rw [c.e.cN]; exact c.e.cnd) (by rw [c.e.cN]; exact hN) (by rw [c.e.cN]; exact hN2) hij (by rw [c.e.csc]; exact hx) (by rw [c.e.csc]; exact hy) (ha.run X W c.e tk) (hw _ c.e.csc) (hs _)) fun D σ H h => by
    obtain ⟨En, F, R, E, S, rel, h⟩ := h
    refine withA_then rel h fun F1 R1 H1 ds vs S1 le rel1 rs q => ?_
    split at q
    · rename_i d e
      obtain ⟨v, w, rfl, r1, r2⟩ := reps2 rs
      exact ⟨v, w, rfl, q F1 R1 _ H1 Le.refl (((rel1.store (dv := .val d) r1 i)).store (dv := .val e) r2 j)⟩
    · exact q.elim⟩
end
end Hm
set_option Elab.async false
set_option linter.all false
set_option maxRecDepth 100000
set_option maxHeartbeats 2000000
namespace Hm
open PySem PySem.Spec L2

/-! ### written dicts of the module (text keys) -/
structure TabD (G : Gs) (x : Str) (kvs : List (Str × D)) : Prop where
  ex : ∃ a es n, G.mg x = some (.ref a) ∧ KDict G.K G.w a es n ∧ (∀ z d, kvs.lookup z = some d → ∃ u v, PySem.W.nsIn G.K a z = some (some u) ∧ RelV v u ∧ ∀ F R, Rep G.K F R d v) ∧ ∀ z, kvs.lookup z = none → PySem.W.nsIn G.K a z = some none
/-- the value of plain data -/
def vD (K : PySem.W.Frag) : D → Option V
  | .non => some .non
  | .bl b => some (.bl b)
  | .int i => some (.int i)
  | .str s => some (.str s)
  | .ty n => some (.ty n)
  | .obj x => some (.ref (He.ga K x))
  | _ => none
theorem vD_rep {K : PySem.W.Frag} {F : Hp} {R : List Addr} {d : D} {v : V} (h : vD K d = some v) : Rep K F R d v := by
  cases d <;> first | (cases h; constructor) | cases h
/-- what the written dict at a holds (a Bool over the fragment) -/
def tabB (K : PySem.W.Frag) (a : Addr) (kvs : List (Str × D)) : Bool := (match K.lookup a with
  | some ⟨_, _, .dict es _, _⟩ => es.toList.all fun e => match e.key with
    | .str s _ => (kvs.lookup s).isSome
    | _ => false
  | _ => false) && kvs.all fun kv => match PySem.W.nsIn K a kv.1, vD K kv.2 with
    | some (some u), some v => He.relB v u
    | _, _ => false
theorem tab_of {G : Gs} {x : Str} {kvs : List (Str × D)} {a : Addr} (hm : G.mg x = some (.ref a)) (hk : ∃ es n, KDict G.K G.w a es n) (h : tabB G.K a kvs = true) : TabD G x kvs := by
  obtain ⟨es, n, kd⟩ := hk
  unfold tabB at h
  rw [Bool.and_eq_true, kd.at_] at h
  obtain ⟨h1, h2⟩ := h
  refine ⟨a, es, n, hm, kd, fun z d e => ?_, fun z e => ?_⟩
  · have mem : ∃ k, (k, d) ∈ kvs ∧ k = z := by
      clear h1 h2
      induction kvs with
      | nil => cases e
      | cons kv r ih =>
        obtain ⟨k0, d0⟩ := kv
        rw [List.lookup_cons] at e
        cases hz : z == k0 with
        | true => rw [hz] at e; cases e; exact ⟨k0, List.mem_cons_self, (beq_iff_eq.mp hz).symm⟩
        | false =>
          rw [hz] at e
          obtain ⟨k, hm, hk⟩ := ih e
          exact ⟨k, List.mem_cons_of_mem _ hm, hk⟩
    obtain ⟨k, hm, rfl⟩ := mem
    have q := List.all_eq_true.mp h2 _ hm
    dsimp only at q
    split at q
    · rename_i u v e1 e2
      exact ⟨u, v, e1, He.relB_ok q, fun F R => vD_rep e2⟩
    · cases q
  · have nf : es.toList.find? (fun d => d.key.isStr z) = none := by
      rw [List.find?_eq_none]
      intro en hen hs
      have q := List.all_eq_true.mp h1 en hen
      split at q
      · rename_i s t ek
        rw [ek] at hs
        have hz : s = z := by
          have hs' : (s == z) = true := hs
          exact beq_iff_eq.mp hs'
        rw [hz, e] at q
        cases q
      · cases q
    unfold PySem.W.nsIn
    rw [kd.at_]
    dsimp only
    rw [nf]
    dsimp only
    rw [if_neg]
    intro ha
    obtain ⟨en, hen, hr⟩ := List.any_eq_true.mp ha
    have q := List.all_eq_true.mp h1 en hen
    split at q
    · rename_i s t ek
      unfold DictEntry.refKey at hr
      rw [ek] at hr
      cases hr
    · cases q
def tabIx (kvs : List (Str × D)) : F1 := fun d S => match d with
  | .str z => (match kvs.lookup z with
    | some v => fine v S
    | none => .bad)
  | _ => .bad
def tabIn (kvs : List (Str × D)) (neg : Bool) : F1 := fun d S => match d with
  | .str z => fine (.bl (if neg then !(kvs.lookup z).isSome else (kvs.lookup z).isSome)) S
  | _ => .bad
def tabGet (kvs : List (Str × D)) : F1 := fun d S => match d with
  | .str z => fine ((kvs.lookup z).getD .non) S
  | _ => .bad
def tabGet2 (kvs : List (Str × D)) : F2 := fun d e S => match d with
  | .str z => fine ((kvs.lookup z).getD e) S
  | _ => .bad
section
variable {G : Gs} {k : Nat} {N : List Str} {sc : Scope} {x : Str} {kvs : List (Str × D)} {b e : Expr} {mb me : M DV} {pos p apos cpos : Pos}
theorem de_tIx (T : TabD G x kvs) (hb : DE G k N sc b mb) (hg : sc.names.lookup x = some .globalImplicit := by rfl) (hs : PlainIx b := by intro _ _; rfl) (hd : (x == ("__debug__" : Str)) = false := by decide) : DE G k N sc (.Subscript (.Name x p) b pos) (mUn (tabIx kvs) mb) := by
  obtain ⟨a, es, n, hm, kd, h1, h2⟩ := T.ex
  refine ⟨fun X W c tk => pe_imp (pe_ix (r := fun x y H Q => x = .ref a ∧ rIxD X.K X.w x y H Q) (fun v sl pins s σ H x y v' u Q I rx ry h hs => ix_kdict v sl pins s σ H x y v' u Q I rx ry h.2 hs) (pe_glob (v := .ref a) (gl_of c hg) (by rw [c.cmg]; exact hm) rfl hd) (hb.run X W c tk) hs) fun σ H Q h => ?_⟩
  obtain ⟨En, F, R, E, S, rel, h⟩ := h
  refine tD_then rel h fun F1 R1 H1 dv v S1 le rel1 rp q => ?_
  cases ed : dv.frz with
  | str z =>
    rw [ed] at rp q
    cases rp
    change Post _ _ _ _ _ _ _ _ (match kvs.lookup z with | some v => fine v S1 | none => .bad) at q
    cases hl : kvs.lookup z with
    | none => rw [hl] at q; exact q.elim
    | some d =>
      rw [hl] at q
      obtain ⟨u, v, e1, rv, rd⟩ := h1 z d hl
      exact ⟨rfl, a, z, v, rfl, rfl, by rw [c.cK, c.cw]; exact ⟨es, n, u, kd.at_, kd.lit, e1, rv⟩, Post.got q rel1 (rd F1 R1)⟩
  | _ => rw [ed] at q; exact q.elim
theorem tIn_of {σ : L2.St} {H : Hp} {W : WX} {Q : VK} {neg : Bool} {a : Addr} (h1 : ∀ z d, kvs.lookup z = some d → ∃ u v, PySem.W.nsIn G.K a z = some (some u) ∧ RelV v u ∧ ∀ F R, Rep G.K F R d v) (h2 : ∀ z, kvs.lookup z = none → PySem.W.nsIn G.K a z = some none)
    (h : tD G.K (mUn (tabIn kvs neg) mb) W σ H Q) : tD G.K mb W σ H fun y H1 => ∃ (z : Str) (r : Option Value), y = .str z ∧ PySem.W.nsIn G.K a z = some r ∧ Q (.bl (if neg then !r.isSome else r.isSome)) H1 := by
  obtain ⟨En, F, R, E, S, rel, h⟩ := h
  refine tD_then rel h fun F1 R1 H1 dv v S1 le rel1 rp q => ?_
  cases ed : dv.frz with
  | str z =>
    rw [ed] at rp q
    cases rp
    have q := Post.got q rel1 (.bl _)
    cases hl : kvs.lookup z with
    | none => rw [hl] at q; exact ⟨z, none, rfl, h2 z hl, q⟩
    | some d =>
      rw [hl] at q
      obtain ⟨u, _, e1, _⟩ := h1 z d hl
      exact ⟨z, some u, rfl, e1, q⟩
  | _ => rw [ed] at q; exact q.elim
theorem de_tIn (T : TabD G x kvs) (hb : DE G k N sc b mb) (hg : sc.names.lookup x = some .globalImplicit := by rfl) (hd : (x == ("__debug__" : Str)) = false := by decide) (hm' : behindInMarks .In (.Name x p) = false := by rfl) : DE G k N sc (.Compare b [.In] [.Name x p] pos) (mUn (tabIn kvs false) mb) := by
  obtain ⟨a, es, n, hm, kd, h1, h2⟩ := T.ex
  refine ⟨fun X W c tk => pe_imp (pe_cmpR (op_in_kd (by rw [c.cK, c.cw]; exact kd)) (hb.run X W c tk) (pe_glob (v := .ref a) (gl_of c hg) (by rw [c.cmg]; exact hm) rfl hd) hm') fun σ H Q h => ?_⟩
  obtain ⟨En, F, R, E, S, rel, q⟩ := tIn_of h1 h2 h
  refine ⟨En, F, R, E, S, rel, q.imp fun F1 R1 H1 dv S1 le rel1 q v hv => ?_⟩
  obtain ⟨z, r, e1, e2, q⟩ := q v hv
  exact ⟨z, r, e1, rfl, by rw [c.cK]; exact e2, q⟩
theorem de_tNin (T : TabD G x kvs) (hb : DE G k N sc b mb) (hg : sc.names.lookup x = some .globalImplicit := by rfl) (hd : (x == ("__debug__" : Str)) = false := by decide) (hm' : behindInMarks .NotIn (.Name x p) = false := by rfl) : DE G k N sc (.Compare b [.NotIn] [.Name x p] pos) (mUn (tabIn kvs true) mb) := by
  obtain ⟨a, es, n, hm, kd, h1, h2⟩ := T.ex
  refine ⟨fun X W c tk => pe_imp (pe_cmpR (op_notIn_kd (by rw [c.cK, c.cw]; exact kd)) (hb.run X W c tk) (pe_glob (v := .ref a) (gl_of c hg) (by rw [c.cmg]; exact hm) rfl hd) hm') fun σ H Q h => ?_⟩
  obtain ⟨En, F, R, E, S, rel, q⟩ := tIn_of h1 h2 h
  refine ⟨En, F, R, E, S, rel, q.imp fun F1 R1 H1 dv S1 le rel1 q v hv => ?_⟩
  obtain ⟨z, r, e1, e2, q⟩ := q v hv
  exact ⟨z, r, e1, rfl, by rw [c.cK]; exact e2, q⟩
theorem dt_tIn (T : TabD G x kvs) (hb : DE G k N sc b mb) (hg : sc.names.lookup x = some .globalImplicit := by rfl) (hd : (x == ("__debug__" : Str)) = false := by decide) (hm' : behindInMarks .In (.Name x p) = false := by rfl) : DT G k N sc (.Compare b [.In] [.Name x p] pos) (mTst (mUn (tabIn kvs false) mb)) := by
  obtain ⟨a, es, n, hm, kd, h1, h2⟩ := T.ex
  refine ⟨fun X W c tk => pt_imp (pt_cmpR (op_in_kd (by rw [c.cK, c.cw]; exact kd)) (hb.run X W c tk) (pe_glob (v := .ref a) (gl_of c hg) (by rw [c.cmg]; exact hm) rfl hd) hm') fun σ H Q h => ?_⟩
  obtain ⟨En, F, R, E, S, rel, q⟩ := tIn_of h1 h2 (tst_of h)
  refine ⟨En, F, R, E, S, rel, q.imp fun F1 R1 H1 dv S1 le rel1 q v hv => ?_⟩
  obtain ⟨z, r, e1, e2, q⟩ := q v hv
  exact ⟨z, r, e1, rfl, by rw [c.cK]; exact e2, q⟩
theorem dt_tNin (T : TabD G x kvs) (hb : DE G k N sc b mb) (hg : sc.names.lookup x = some .globalImplicit := by rfl) (hd : (x == ("__debug__" : Str)) = false := by decide) (hm' : behindInMarks .NotIn (.Name x p) = false := by rfl) : DT G k N sc (.Compare b [.NotIn] [.Name x p] pos) (mTst (mUn (tabIn kvs true) mb)) := by
  obtain ⟨a, es, n, hm, kd, h1, h2⟩ := T.ex
  refine ⟨fun X W c tk => pt_imp (pt_cmpR (op_notIn_kd (by rw [c.cK, c.cw]; exact kd)) (hb.run X W c tk) (pe_glob (v := .ref a) (gl_of c hg) (by rw [c.cmg]; exact hm) rfl hd) hm') fun σ H Q h => ?_⟩
  obtain ⟨En, F, R, E, S, rel, q⟩ := tIn_of h1 h2 (tst_of h)
  refine ⟨En, F, R, E, S, rel, q.imp fun F1 R1 H1 dv S1 le rel1 q v hv => ?_⟩
  obtain ⟨z, r, e1, e2, q⟩ := q v hv
  exact ⟨z, r, e1, rfl, by rw [c.cK]; exact e2, q⟩
/-- o.get(e), o a written dict -/
theorem de_tGet (T : TabD G x kvs) (he : DE G k N sc e me) (hM : ∀ X : Cx, M1 X (.Name x p) "get" apos e cpos := by intro X; exact ⟨rfl, rfl, rfl, rfl⟩) (hg : sc.names.lookup x = some .globalImplicit := by rfl) (hd : (x == ("__debug__" : Str)) = false := by decide) :
    DE G k N sc (.Call (.Attribute (.Name x p) "get" apos) [e] [] cpos) (mUn (tabGet kvs) me) := by
  obtain ⟨a, es, n, hm, kd, h1, h2⟩ := T.ex
  refine ⟨fun X W c tk => ⟨fun pins s σ H Q I h => ?_⟩⟩
  have m := hM X
  have kd' : KDict X.K X.w a es n := by rw [c.cK, c.cw]; exact kd
  have pg : PE X (.Name x p) (tC (.ref a)) := pe_glob (v := .ref a) (gl_of c hg) (by rw [c.cmg]; exact hm) rfl hd
  refine wpAny_Call_method m.base m.few m.line PySem.F.plainAttrs_dict PySem.F.slot_dict_get PySem.F.type_dict_get (thn (pg.run pins s σ H (fun v H1 => v = .ref a ∧ H1 = H) I ⟨rfl, rfl⟩) fun u s1 ⟨v0, H1, I1, rx, ev, eH⟩ => ?_)
  subst ev
  rw [eH] at I1
  obtain rfl : u = Value.ref a := rx
  have mp := PySem.W.mapOf_K (prog := X.prog) (w := X.w) I1.kIn kd'.at_ kd'.lit
  refine ⟨mp.typeIs, mp.noDict, ?_⟩
  rw [m.trees]
  obtain ⟨En, F, R, E, S, rel, h⟩ := h
  have w : tD G.K me W σ H fun y H1 => ∃ (z : Str) (r : Option Value) (v : V), y = .str z ∧ PySem.W.nsIn G.K a z = some r ∧ RelV v (r.getD .none) ∧ Q v H1 := by
    refine tD_then rel h fun F1 R1 H1 dv v S1 le rel1 rp q => ?_
    cases ed : dv.frz with
    | str z =>
      rw [ed] at rp q
      cases rp
      change Post _ _ _ _ _ _ _ _ (fine ((kvs.lookup z).getD .non) S1) at q
      cases hl : kvs.lookup z with
      | none => rw [hl] at q; exact ⟨z, none, .non, rfl, h2 z hl, rfl, Post.got q rel1 .non⟩
      | some d =>
        rw [hl] at q
        obtain ⟨u, v, e1, rv, rd⟩ := h1 z d hl
        exact ⟨z, some u, v, rfl, e1, rv, Post.got q rel1 (rd F1 R1)⟩
    | _ => rw [ed] at q; exact q.elim
  refine Calls.callWith_builtin rfl (Calls.evalArgs_plain (Calls.spliced_cons (thn ((he.run X W c tk).run pins s1 σ H _ I1 w) fun iv s2 ⟨y, H2, I2, ry, z, r, v, ey, e1, rv, q2⟩ => Calls.spliced_nil ?_)))
  subst ey
  obtain ⟨t, rfl⟩ := ry
  have mp2 := PySem.W.mapOf_K (prog := X.prog) (w := X.w) I2.kIn kd'.at_ kd'.lit
  refine call_meetsIn PySem.F.slot_dict_get mp2.typeIs PySem.F.entry_dict_get (PySem.F.args_dict_get_2 _ _) (meets_dict_get (strKind X.prog X.w) a (strKind_is X.prog X.w z t) kd'.low) ⟨_, mp2, ?_⟩
  rw [PySem.W.find_K kd'.at_ (by rw [c.cK]; exact e1)]
  exact ⟨v, H2, I2.tok _, rv, q2⟩
end

/-! ### f(e, ..), f a local name that holds a def -/
def mCallV (i : Nat) (tbl : Str → Option FD) (n : Nat) (ms : M (List D)) : M DV := fun E S => match E[i]? with
  | some (some (.val (.obj x))) => (match tbl x with
    | some F => mCall F n ms E S
    | none => .bad)
  | _ => .bad
section
variable {G : Gs} {k : Nat} {N : List Str} {sc : Scope} {pos p : Pos} {ms : M (List D)}
theorem de_callV {e : Expr} {es : List Expr} {x : Str} {n j : Nat} {tbl : Str → Option FD} (i : Nat) (hF : ∀ y F, tbl y = some F → ∃ ps, ps.length = n ∧ FOk G j (He.ga G.K y) ps F) (ha : DA G k N sc (e :: es) ms) (hj : j ≤ k := by decide)
    (hN : N[i]? = some x := by rfl) (hv : Vis sc x := by first | exact Or.inl rfl | exact Or.inr (Or.inl rfl) | exact Or.inr (Or.inr rfl)) (hd : (x == ("__debug__" : Str)) = false := by decide) (hcd : (x == ("__classdict__" : Str)) = false := by decide)
    (he : ∀ env, starEach (e :: es) env = (false, eval e env) :: starEach es env := by intro _; rfl) (hpl : ∀ env, (backTo pos (starEach es env)).any (·.1) = false := by intro _; rfl) :
    DE G k N sc (.Call (.Name x p) (e :: es) [] pos) (mCallV i tbl n ms) :=
  ⟨fun X W c tk => ⟨fun pins s σ H Q I h => by
    obtain ⟨En, F0, R, E, S, rel, h⟩ := h
    unfold mCallV at h
    split at h
    · rename_i y ee
      split at h
      · rename_i F hF0
        obtain ⟨ps, hn, ⟨⟨fd, f1, f2⟩, f3⟩⟩ := hF y F hF0
        obtain ⟨v, ev, rv⟩ := rel.slot i _ ee
        cases rv
        refine wpAny_Call_Name_kw (thn ((pe_var (pos := p) (i := i) (by rw [c.cN]; exact hN) (by rw [c.csc]; exact hv) hd hcd).run pins s σ H (fun v H1 => v = .ref (He.ga G.K y) ∧ H1 = H) I ⟨.ref (He.ga G.K y), ev, rfl, rfl⟩) fun u s1 ⟨v, H1, I1, r1, ev, eH⟩ => ?_)
        subst ev
        rw [eH] at I1
        cases r1
        have w : tA G.K ms W σ H fun vs H1 => spD G.K n F vs H1 Q (WE W σ) := by
          refine tA_then rel h fun F1 R1 H1 ds vs S1 le rel1 rs q => ?_
          split at q
          · rename_i hl
            exact sp_call (by rw [← rs.length]; exact hl) rel1 rs q
          · exact q.elim
        refine PySem.W.callWith_K (h₀ := X.base) I.ok.mod.kin (by rw [c.cK]; exact f3) (thn ((ha.run X W c tk).run pos pins s1 σ H _ I1 w) fun us s2 ⟨vs, H2, I2, r, q⟩ => ⟨I2.kIn, ?_⟩) (he _) (hpl _)
        subst hn
        exact run_fnS (ctx_fn c f1) (c.croom.mono hj) (by rw [c.cK]; exact f2) (passAt tk σ) I2 r q
      · exact h.elim
    · exact h.elim⟩⟩
end
end Hm
set_option Elab.async false
set_option linter.all false
set_option maxRecDepth 100000
set_option maxHeartbeats 2000000
namespace Hm
open PySem PySem.Spec L2

/-! ### f(k = e, ..): keywords alone -/
structure DK (G : Gs) (k : Nat) (N : List Str) (sc : Scope) (kws : List Keyword) (m : M (List D)) : Prop where
  run : ∀ (X : Cx) (W : WX), CtxE G k N sc X → Takes X W → PK X kws (tA G.K m W)
theorem pk_imp {X : Cx} {e : List Keyword} {t t' : TA} (h : PK X e t) (k : ∀ σ H Q, t' σ H Q → t σ H Q) : PK X e t' :=
  ⟨fun pos pins s σ H Q I q => h.run pos pins s σ H Q I (k σ H Q q)⟩
structure FOkW (G : Gs) (k : Nat) (f : Addr) (ps : List Str) (F : FD) : Prop where
  ex : ∃ fd, FnOk G.P G.w G.K G.mg G.base (L2.CX G.P G.w) k f fd ps (spD G.K ps.length F) ∧ ∀ (s : Shared) (ws : List Value), G.K.In s.heap → ws.length = ps.length → BindsTo s fd ⟨[], ps.zip ws⟩ (ps.zip ws)
  kp : PySem.W.keepIn G.K (.ref f) = true
section
variable {G : Gs} {k : Nat} {N : List Str} {sc : Scope} {e : Expr} {m : M DV} {ms : M (List D)} {kws : List Keyword} {nm : Option Str} {kpos p pos : Pos} {a : MS}
theorem dk_nil : DK G k N sc [] mNil := ⟨fun X W c tk => pk_imp pk_nil fun σ H Q h => by
  obtain ⟨En, F, R, E, S, rel, h⟩ := h
  exact h F R H Le.refl rel [] .nil⟩
theorem dk_cons (he : DE G k N sc e m) (hr : DK G k N sc kws ms) : DK G k N sc (⟨nm, e, kpos⟩ :: kws) (mCons m ms) :=
  ⟨fun X W c tk => pk_imp (pk_cons (he.run X W c tk) (hr.run X W c tk)) fun σ H Q h => by
    obtain ⟨En, F, R, E, S, rel, h⟩ := h
    refine tD_then rel h fun F1 R1 H1 dv v S1 le rel1 rp h1 => ?_
    refine ⟨En, F1, R1, E, S1, rel1, (post_bnd h1).imp fun F2 R2 H2 ds S2 le2 rel2 q vs rs => ?_⟩
    exact q F2 R2 H2 Le.refl rel2 (v :: vs) (.cons (rp.mono le2 _ _) rs)⟩
theorem fokW {x qual : Str} {params : Arguments} {body : List Stmt} {f : Addr} {fd : FuncData} {ps : List Str} (Fn : FunD G.K x qual params body sc [] [] f fd) (Sc : FnScope N ps sc)
    (hb : ∀ (kV doc pm : Value) (an : Option Addr) (cdv ct : Value) (ws : List Value), ws.length = ps.length → bindArgs (PySem.W.fnOf x qual params body sc .none kV doc pm an cdv ct) ⟨[], ps.zip ws⟩ = pure (ps.zip ws))
    (hbody : DSs G k N sc body a) : FOkW G (k + 1) f ps (runB N.length a) := by
  refine ⟨⟨fd, ?_, fun s ws _ hl => ?_⟩, Fn.kp⟩
  · refine Fn.ok Sc (fun vs H Q E h => h.1) fun cdv A outer s H vs Q E hr h => ?_
    obtain ⟨hn, F, R, S, ds, rel, rs, p⟩ := h
    refine ⟨_, hbody.run _ (fun c d _ H' => E c d H') ⟨⟨rfl, rfl, rfl, rfl, rfl, rfl, rfl, Sc.nd, rfl, hr⟩, rfl, rfl, rfl, fun _ => rfl, passes_of rfl⟩ (takes_of rfl rfl rfl rfl), ?_⟩
    refine ⟨_, F, R, _, S, rel_start rel rs, ?_⟩
    unfold runB at p
    cases q : a (slots0 N.length ds) S with
    | nx E1 S1 => rw [q] at p; exact fun F1 R1 σ1 H1 le r1 => p F1 R1 H1 le r1.drop .non .non
    | rt dv S1 => rw [q] at p; exact fun F1 R1 H1 v le r1 hv => p F1 R1 H1 le r1 v hv
    | bk E1 S1 => rw [q] at p; exact p.elim
    | ct E1 S1 => rw [q] at p; exact p.elim
    | ex c fs E1 S1 => rw [q] at p; exact fun F1 R1 σ1 H1 d vfs le r1 hd rf => p F1 R1 H1 d vfs le r1.drop hd rf
    | bad => rw [q] at p; exact p.elim
  · obtain ⟨oc, od, dV, kV, doc, pm, an, cdv, ct, osl, rfl, lk, hcd, hD, hK⟩ := Fn.ex
    rcases hD with ⟨_, rfl⟩ | ⟨z, _⟩
    · exact .of_eq (hb kV doc pm an cdv ct ws hl)
    · exact absurd rfl z
theorem de_callK {x : Str} {f : Addr} {ps : List Str} {F : FD} {j : Nat} (h : FOkW G j f ps F) (hm : G.mg x = some (.ref f)) (ha : DK G k N sc kws ms) (hj : j ≤ k := by decide) (hg : sc.names.lookup x = some .globalImplicit := by rfl)
    (hdb : (x == ("__debug__" : Str)) = false := by decide) (hall : ∀ env, (backToKw pos (keywordEach kws env)).all (·.1.isSome) = true := by intro _; rfl) (hks : ∀ env, (backToKw pos (keywordEach kws env)).filterMap (·.1) = ps := by intro _; rfl)
    (hpl : ∀ env, ((backTo pos (starEach [] env)).any (·.1) || (backToKw pos (keywordEach kws env)).any (·.1.isNone)) = false := by intro _; rfl) :
    DE G k N sc (.Call (.Name x p) [] kws pos) (mCall F ps.length ms) :=
  ⟨fun X W c tk => by
    obtain ⟨⟨fd, h1, h2⟩, h3⟩ := h
    refine ⟨fun pins s σ H Q I q => ?_⟩
    have w : tA G.K ms W σ H fun vs H1 => spD G.K ps.length F vs H1 Q (WE W σ) := by
      obtain ⟨En, F0, R, E, S, rel, q⟩ := q
      refine tA_then rel q fun F1 R1 H1 ds vs S1 le rel1 rs q => ?_
      split at q
      · rename_i hl
        exact sp_call (by rw [← rs.length]; exact hl) rel1 rs q
      · exact q.elim
    refine wpAny_Call_Name_kw (ld_glob I (gl_of c hg) (by rw [c.cmg]; exact hm) ?_ hdb)
    refine PySem.W.callWith_KW0 (h₀ := X.base) I.ok.mod.kin (by rw [c.cK]; exact h3) (hall _) (thn ((ha.run X W c tk).run pos pins s σ H _ I w) fun ws s2 ⟨zs, H2, I2, rz, q2⟩ => ⟨I2.kIn, ?_⟩) (hpl _)
    rw [hks]
    have hl : ws.length = ps.length := by rw [← rz.length]; exact q2.1
    have F' := ctx_fn c h1
    refine wpAny_call (codeAny_mono (F'.run X.A X.stack s2 H2 ⟨[], ps.zip ws⟩ ws zs Q (WE W σ) (c.croom.mono hj) I2.env0 (h2 s2 ws (by rw [← c.cK]; exact I2.kIn) hl) rz q2) fun r s' hq => ?_)
    cases r with
    | error e => exact (passAt tk σ) pins H2 s2 e s' I2 hq
    | ok fl => cases fl with
      | ret u => exact I2.after hq
      | next => exact False.elim hq
      | brk => exact False.elim hq
      | cont => exact False.elim hq⟩
end
end Hm
set_option Elab.async false
set_option linter.all false
set_option maxRecDepth 100000
set_option maxHeartbeats 4000000
namespace Hm
open PySem PySem.Spec L2

/-! ### zip(a, b, strict=True) -/
abbrev IsZipS (h : Heap) (z TI TO : Addr) (f0 : Value) : Prop :=
  h.get? z = some { cls := .type "zip", dict := none, data := .fields #[f0, .bool false, .bool true, .ref TI, .ref TO], slots := #[] }
section
variable {prog : Program} {w : World} {A : Around} {E : Value → Shared → Prop} {s : Shared} {z TI TO i1 i2 : Addr} {fp1 fp2 : List Addr} {n1 n2 i : Nat} {P1 P2 : Nat → Value → Prop} {St1 St2 : Nat → Heap → Prop} {a1 a2 : Value}
/-- one draw that is there -/
theorem drawS_item {it : Addr} {fp : List Addr} {n : Nat} {P : Nat → Value → Prop} {St : Nat → Heap → Prop} {Q : Option Value → Shared → Prop} (Dr : Draws prog w A it fp n P St) (hi : i < n) (st : St i s.heap)
    (hQ : ∀ x h' tk, P i x → St (i + 1) h' → Heap.SameBut it s.heap h' → Q (some x) { s with heap := h', toks := tk }) : wpAny (model prog w) A (Builtin.SmallTypes.nextOrEnd (.ref it)) Q E s := by
  unfold Builtin.SmallTypes.nextOrEnd
  exact wpAny_bind (wpAny_attempt (Dr.item i s _ _ hi st fun x h' tk p st' sb => wpAny_pure (hQ x h' tk p st' sb)))
/-- one that is not -/
theorem drawS_end {it : Addr} {fp : List Addr} {n : Nat} {P : Nat → Value → Prop} {St : Nat → Heap → Prop} {Q : Option Value → Shared → Prop} (Dr : Draws prog w A it fp n P St) (st : St n s.heap)
    (hQ : ∀ h', Heap.ExtBut it s.heap h' → Q none { s with heap := h' }) : wpAny (model prog w) A (Builtin.SmallTypes.nextOrEnd (.ref it)) Q E s := by
  unfold Builtin.SmallTypes.nextOrEnd
  refine wpAny_bind (wpAny_attempt (Dr.done s _ _ st fun h' e eb he => ?_))
  obtain ⟨o, ho, hc⟩ := he
  exact wpAny_bind (wpAny_isInstance (T := "StopIteration") (b := true) ⟨o, ho, hc⟩ isSubtype_stop (wpAny_pure (hQ h' eb)))
theorem zipS_item {Q : Value → Shared → Prop} (S : ZipSep2 z TI TO i1 i2 fp1 fp2) (D1 : Draws prog w A i1 fp1 n1 P1 St1) (D2 : Draws prog w A i2 fp2 n2 P2 St2)
    (hz : IsZipS s.heap z TI TO .none) (hTI : IsTupOf2 s.heap TI (.ref i1) (.ref i2)) (hTO : IsTupOf2 s.heap TO a1 a2) (st1 : St1 i s.heap) (st2 : St2 i s.heap) (l1 : i < n1) (l2 : i < n2)
    (hQ : ∀ x1 x2 h' tk, P1 i x1 → P2 i x2 → IsZipS h' z TI TO (rawInt s.heap.objs.size) → IsTupOf2 h' TO x1 x2 → St1 (i + 1) h' → St2 (i + 1) h' → IsTupOf2 h' s.heap.objs.size x1 x2 → h'.objs.size = s.heap.objs.size + 1 →
      (∀ c o, c ≠ z → c ≠ TO → c ≠ i1 → c ≠ i2 → s.heap.get? c = some o → h'.get? c = some o) → Q (.ref s.heap.objs.size) { s with heap := h', toks := tk }) :
    wpAny (model prog w) A (Builtin.«zip.__next__» ⟨[.ref z], []⟩) (fun fin s' => ∃ v, fin = .done (.ret v) ∧ Q v s') E s := by
  obtain ⟨hp, g, d, tk0, os⟩ := s
  show wpAny _ _ (field (.ref z) 2 >>= _) _ _ _
  refine wpAny_bind (wpAny_field hz rfl (x := .bool true) rfl ?_)
  show wpAny _ _ (field (.ref z) 3 >>= _) _ _ _
  refine wpAny_bind (wpAny_field hz rfl (x := .ref TI) rfl (wpAny_bind (wpAny_seqItems hTI rfl ?_)))
  show wpAny _ _ (Builtin.SmallTypes.ownedTupleIsFree (.ref z) >>= _) _ _ _
  unfold Builtin.SmallTypes.ownedTupleIsFree
  refine wpAny_bind (wpAny_bind (wpAny_field hz rfl (x := .none) rfl (wpAny_pure ?_)))
  simp only [if_true]
  refine wpAny_bind (wpAny_rule (wpAny_bind (wpAny_field hz rfl (x := .ref TO) rfl (wpAny_bind (wpAny_setField_rec hz (by simp) fun g0 z0 s0 => ?_)))))
  replace z0 : IsZipS g0 z TI TO .ellipsis := z0
  replace s0 : Heap.SameBut z hp g0 := s0
  simp only [List.zipIdx_cons, List.zipIdx_nil, List.forIn_cons, List.forIn_nil]
  refine wpAny_bind (wpAny_bind (wpAny_bind (wpAny_onRaise ?_)))
  show wpAny _ _ (Builtin.SmallTypes.nextOrEnd (.ref i1)) _ _ ⟨g0, g, d, tk0, os⟩
  refine drawS_item D1 l1 (D1.over st1 s0 S.zf1) fun x1 p1 tk1 hx1 sn1 b1 => ?_
  replace b1 : Heap.SameBut i1 g0 p1 := b1
  have u1 : IsTupOf2 p1 TO a1 a2 := b1.extBut _ _ S.Ti1 (s0.extBut _ _ S.TOz hTO)
  refine wpAny_bind (wpAny_seqItems (s := ⟨p1, g, d, tk1, os⟩) u1 rfl ?_)
  refine wpAny_bind (updateSeq_IsTupOf2 (s := ⟨p1, g, d, tk1, os⟩) u1 fun g1 t1 c1 => ?_)
  replace t1 : IsTupOf2 g1 TO x1 a2 := t1
  replace c1 : Heap.SameBut TO p1 g1 := c1
  refine wpAny_bind (wpAny_letGo (wpAny_pure ?_))
  refine wpAny_bind (wpAny_bind (wpAny_onRaise ?_))
  show wpAny _ _ (Builtin.SmallTypes.nextOrEnd (.ref i2)) _ _ ⟨g1, g, d, tk1, os⟩
  refine drawS_item D2 l2 (D2.over (D2.over (D2.over st2 s0 S.zf2) b1 S.sep1_2) c1 S.Tf2) fun x2 p2 tk2 hx2 sn2 b2 => ?_
  replace b2 : Heap.SameBut i2 g1 p2 := b2
  have u2 : IsTupOf2 p2 TO x1 a2 := b2.extBut _ _ S.Ti2 t1
  refine wpAny_bind (wpAny_seqItems (s := ⟨p2, g, d, tk2, os⟩) u2 rfl ?_)
  refine wpAny_bind (updateSeq_IsTupOf2 (s := ⟨p2, g, d, tk2, os⟩) u2 fun g2 t2 c2 => ?_)
  replace t2 : IsTupOf2 g2 TO x1 x2 := t2
  replace c2 : Heap.SameBut TO p2 g2 := c2
  refine wpAny_bind (wpAny_letGo (wpAny_pure (wpAny_pure ?_)))
  refine wpAny_bind (wpAny_seqItems (s := ⟨g2, g, d, tk2, os⟩) t2 rfl ?_)
  refine wpAny_bind (wpAny_newTuple ?_)
  have sz : g2.objs.size = hp.objs.size := by rw [c2.1, b2.1, c1.1, b1.1, s0.1]
  have zz : IsZipS g2 z TI TO .ellipsis := c2.extBut _ _ S.TOz.symm (b2.extBut _ _ S.zi2 (c1.extBut _ _ S.TOz.symm (b1.extBut _ _ S.zi1 z0)))
  have kk : ∀ c o, c ≠ z → c ≠ TO → c ≠ i1 → c ≠ i2 → hp.get? c = some o → g2.get? c = some o := fun c o cz cT q1 q2 e =>
    c2.extBut _ _ cT (b2.extBut _ _ q2 (c1.extBut _ _ cT (b1.extBut _ _ q1 (s0.extBut _ _ cz e))))
  have j1 : St1 (i + 1) g2 := D1.over (D1.over (D1.over sn1 c1 S.Tf1) b2 S.sep2_1) c2 S.Tf1
  have j2 : St2 (i + 1) g2 := D2.over sn2 c2 S.Tf2
  have zl : z < g2.objs.size := Heap.lt_size zz
  show wpAny _ _ (Builtin.SmallTypes.ownedTupleHandOut (.ref z) (.ref g2.objs.size) >>= _) _ _ ⟨g2.push { cls := .type "tuple", data := .seq #[x1, x2] }, g, d, tk2, os⟩
  unfold Builtin.SmallTypes.ownedTupleHandOut
  have z6 : IsZipS (g2.push { cls := .type "tuple", data := .seq #[x1, x2] }) z TI TO .ellipsis := Heap.get?_push_of_some _ zz
  refine wpAny_bind (wpAny_bind (wpAny_setField_rec z6 (by simp) fun h7 z7 s7 => ?_))
  replace z7 : IsZipS h7 z TI TO (rawInt g2.objs.size) := z7
  refine wpAny_setField_rec z7 (by simp) fun h8 z8 s8 => ?_
  replace z8 : IsZipS h8 z TI TO (rawInt g2.objs.size) := z8
  replace s7 : Heap.SameBut z (g2.push { cls := .type "tuple", data := .seq #[x1, x2] }) h7 := s7
  replace s8 : Heap.SameBut z h7 h8 := s8
  have up : ∀ c o, c ≠ z → g2.get? c = some o → h8.get? c = some o := fun c o cz e => s8.extBut _ _ cz (s7.extBut _ _ cz (Heap.get?_push_of_some _ e))
  have t8 : IsTupOf2 h8 g2.objs.size x1 x2 := s8.extBut _ _ (Nat.ne_of_gt zl) (s7.extBut _ _ (Nat.ne_of_gt zl) (Heap.get?_push_size _ rfl))
  have y8 : h8.objs.size = g2.objs.size + 1 := by rw [s8.1, s7.1, Heap.size_push]
  rw [sz] at z8 t8 y8
  refine wpAny_pure ⟨_, rfl, ?_⟩
  show Q (.ref g2.objs.size) ⟨h8, g, d, tk2, os⟩
  rw [sz]
  exact hQ x1 x2 h8 tk2 hx1 hx2 z8 (up _ _ S.TOz t2) (D1.frame _ _ _ j1 fun b hb o e => up b o (fun q => S.zf1 (q ▸ hb)) e) (D2.frame _ _ _ j2 fun b hb o e => up b o (fun q => S.zf2 (q ▸ hb)) e) t8 y8 fun c o cz cT q1 q2 e => up c o cz (kk c o cz cT q1 q2 e)
theorem stopS {Q : Fin → Shared → Prop} (hh : A.handled = none) (hE : ∀ h' e, (∀ c o, s.heap.get? c = some o → h'.get? c = some o) → (∃ o, h'.get? e = some o ∧ o.cls = .type "StopIteration") → E (.ref e) { s with heap := h' }) :
    wpAny (model prog w) A Builtin.SmallTypes.stopIteration Q E s := by
  unfold Builtin.SmallTypes.stopIteration
  refine wpAny_bind ?_
  simp only [newExc, newTuple]
  refine wpAny_bind (wpAny_newObj_type ?_ (by size_fits))
  refine wpAny_bind (m := firstArgMember _ _) (wpAny_of_eq (a := Value.none) (by first | rfl | (simp only [firstArgMember]; rfl)) ?_)
  refine wpAny_newObj_type ?_ (by size_fits)
  simp only [raiseNew]
  refine wpAny_bind (wpAny_handled ?_)
  rw [hh]
  refine wpAny_bind (wpAny_pure (wpAny_throw ?_))
  exact hE _ _ (fun c o e => Heap.get?_push_of_some _ (Heap.get?_push_of_some _ e)) ⟨_, Heap.get?_push_size _ rfl, rfl⟩
theorem zipS_end {Q : Fin → Shared → Prop} (hh : A.handled = none) (S : ZipSep2 z TI TO i1 i2 fp1 fp2) (D1 : Draws prog w A i1 fp1 n1 P1 St1) (D2 : Draws prog w A i2 fp2 n1 P2 St2)
    (hz : IsZipS s.heap z TI TO .none) (hTI : IsTupOf2 s.heap TI (.ref i1) (.ref i2)) (hTO : IsTupOf2 s.heap TO a1 a2) (st1 : St1 n1 s.heap) (st2 : St2 n1 s.heap)
    (hE : ∀ h' tk e, (∀ c o, c ≠ z → c ≠ TO → c ≠ i1 → c ≠ i2 → s.heap.get? c = some o → h'.get? c = some o) → (∃ o, h'.get? e = some o ∧ o.cls = .type "StopIteration") → E (.ref e) { s with heap := h', toks := tk }) :
    wpAny (model prog w) A (Builtin.«zip.__next__» ⟨[.ref z], []⟩) Q E s := by
  obtain ⟨hp, g, d, tk0, os⟩ := s
  show wpAny _ _ (field (.ref z) 2 >>= _) _ _ _
  refine wpAny_bind (wpAny_field hz rfl (x := .bool true) rfl ?_)
  show wpAny _ _ (field (.ref z) 3 >>= _) _ _ _
  refine wpAny_bind (wpAny_field hz rfl (x := .ref TI) rfl (wpAny_bind (wpAny_seqItems hTI rfl ?_)))
  show wpAny _ _ (Builtin.SmallTypes.ownedTupleIsFree (.ref z) >>= _) _ _ _
  unfold Builtin.SmallTypes.ownedTupleIsFree
  refine wpAny_bind (wpAny_bind (wpAny_field hz rfl (x := .none) rfl (wpAny_pure ?_)))
  simp only [if_true]
  refine wpAny_bind (wpAny_rule (wpAny_bind (wpAny_field hz rfl (x := .ref TO) rfl (wpAny_bind (wpAny_setField_rec hz (by simp) fun g0 z0 s0 => ?_)))))
  replace z0 : IsZipS g0 z TI TO .ellipsis := z0
  replace s0 : Heap.SameBut z hp g0 := s0
  simp only [List.zipIdx_cons, List.zipIdx_nil, List.forIn_cons, List.forIn_nil]
  refine wpAny_bind (wpAny_bind (wpAny_bind (wpAny_onRaise ?_)))
  show wpAny _ _ (Builtin.SmallTypes.nextOrEnd (.ref i1)) _ _ ⟨g0, g, d, tk0, os⟩
  refine drawS_end D1 (D1.over st1 s0 S.zf1) fun p1 b1 => ?_
  replace b1 : Heap.ExtBut i1 g0 p1 := b1
  have z1 : IsZipS p1 z TI TO .ellipsis := b1 _ _ S.zi1 z0
  refine wpAny_bind (wpAny_setField_rec (s := ⟨p1, g, d, tk0, os⟩) z1 (by simp) fun g1 z2 s1 => ?_)
  replace s1 : Heap.SameBut z p1 g1 := s1
  have st2' : St2 n1 g1 := D2.frame _ _ _ st2 fun b hb o e => s1.extBut _ _ (fun q => S.zf2 (q ▸ hb)) (b1 _ _ (fun q => S.sep1_2 (q ▸ hb)) (s0.extBut _ _ (fun q => S.zf2 (q ▸ hb)) e))
  refine wpAny_bind (wpAny_bind ?_)
  wp_delta
  simp only [List.drop_succ_cons, List.drop_zero, List.zipIdx_cons, List.zipIdx_nil, List.forIn'_cons, List.forIn'_nil]
  refine wpAny_bind (wpAny_bind (drawS_end (s := ⟨g1, g, d, tk0, os⟩) D2 st2' fun q1 c1 => ?_))
  replace c1 : Heap.ExtBut i2 g1 q1 := c1
  dsimp only [Option.isSome]
  rw [if_neg Bool.false_ne_true]
  refine wpAny_pure (wpAny_pure (wpAny_bind (wpAny_rule ?_)))
  refine stopS hh fun h' e kk he => ?_
  exact hE h' _ e (fun c o cz cT c1' c2' x => kk _ _ (c1 _ _ c2' (s1.extBut _ _ cz (b1 _ _ c1' (s0.extBut _ _ cz x))))) he
theorem pyNext_zipS_item {Q : Option Value → Shared → Prop} (S : ZipSep2 z TI TO i1 i2 fp1 fp2) (D1 : Draws prog w A.in1 i1 fp1 n1 P1 St1) (D2 : Draws prog w A.in1 i2 fp2 n2 P2 St2)
    (hz : IsZipS s.heap z TI TO .none) (hTI : IsTupOf2 s.heap TI (.ref i1) (.ref i2)) (hTO : IsTupOf2 s.heap TO a1 a2) (st1 : St1 i s.heap) (st2 : St2 i s.heap) (l1 : i < n1) (l2 : i < n2)
    (hQ : ∀ x1 x2 h' tk, P1 i x1 → P2 i x2 → IsZipS h' z TI TO (rawInt s.heap.objs.size) → IsTupOf2 h' TO x1 x2 → St1 (i + 1) h' → St2 (i + 1) h' → IsTupOf2 h' s.heap.objs.size x1 x2 → h'.objs.size = s.heap.objs.size + 1 →
      (∀ c o, c ≠ z → c ≠ TO → c ≠ i1 → c ≠ i2 → s.heap.get? c = some o → h'.get? c = some o) → Q (some (.ref s.heap.objs.size)) { s with heap := h', toks := tk }) :
    wpAny (model prog w) A (pyNext (.ref z)) Q E s := by
  have ty : s.TypeIs (.ref z) "zip" := ⟨_, hz, rfl⟩
  unfold pyNext
  refine wpAny_bind (wpAny_attempt (wpAny_callSpecial?_slot (name := Str.ofString "__next__") ty F.slot_zip_next (wpAny_call_entry F.slot_zip_next ty F.entry_zip_next ?_ (F.args_zip_next_1 _))))
  exact zipS_item S D1 D2 hz hTI hTO st1 st2 l1 l2 fun x1 x2 h' tk p1 p2 b1 b2 b3 b4 b5 b6 b7 => wpAny_pure (hQ x1 x2 h' tk p1 p2 b1 b2 b3 b4 b5 b6 b7)
theorem pyNext_zipS_end {Q : Option Value → Shared → Prop} (hh : A.handled = none) (S : ZipSep2 z TI TO i1 i2 fp1 fp2) (D1 : Draws prog w A.in1 i1 fp1 n1 P1 St1) (D2 : Draws prog w A.in1 i2 fp2 n1 P2 St2)
    (hz : IsZipS s.heap z TI TO .none) (hTI : IsTupOf2 s.heap TI (.ref i1) (.ref i2)) (hTO : IsTupOf2 s.heap TO a1 a2) (st1 : St1 n1 s.heap) (st2 : St2 n1 s.heap)
    (hQ : ∀ h' tk, (∀ c o, c ≠ z → c ≠ TO → c ≠ i1 → c ≠ i2 → s.heap.get? c = some o → h'.get? c = some o) → Q none { s with heap := h', toks := tk }) : wpAny (model prog w) A (pyNext (.ref z)) Q E s := by
  have ty : s.TypeIs (.ref z) "zip" := ⟨_, hz, rfl⟩
  unfold pyNext
  refine wpAny_bind (wpAny_attempt (wpAny_callSpecial?_slot (name := Str.ofString "__next__") ty F.slot_zip_next (wpAny_call_entry F.slot_zip_next ty F.entry_zip_next ?_ (F.args_zip_next_1 _))))
  refine zipS_end (A := A.in1) hh S D1 D2 hz hTI hTO st1 st2 fun h' tk e hk he => ?_
  obtain ⟨o, ho, hc⟩ := he
  exact wpAny_bind (wpAny_isInstance (T := "StopIteration") (b := true) ⟨o, ho, hc⟩ isSubtype_stop (wpAny_pure (hQ h' tk hk)))
theorem letGo_zipS {elts : List Expr} {k : Nat} {pos : Pos} {T : Addr} {Q : Unit → Shared → Prop} (hz : IsZipS s.heap z TI TO (rawInt T)) (hQ : ∀ h', IsZipS h' z TI TO .none → Heap.SameBut z s.heap h' → Q () { s with heap := h' }) :
    wpAny (model prog w) A (letOwnedTupleGo (.Tuple elts k pos) (.ref z) (.ref T)) Q E s := by
  unfold letOwnedTupleGo
  refine wpAny_bind (wpAny_load hz ?_)
  dsimp only
  rw [if_pos (by simp)]
  refine wpAny_bind (wpAny_rule ?_)
  exact wpAny_setField_rec hz (by simp) fun h' z' s' => hQ h' z' s'
theorem pyIter_zipS {f0 : Value} {Q : Value → Shared → Prop} (hz : IsZipS s.heap z TI TO f0) (h : Q (.ref z) s) : wpAny (model prog w) A (pyIter (.ref z)) Q E s := by
  have ty : s.TypeIs (.ref z) "zip" := ⟨_, hz, rfl⟩
  refine wpAny_pyIter_slot ty F.slot_zip_iter (wpAny_call_entry F.slot_zip_iter ty F.entry_zip_iter ?_ (F.args_zip_iter_1 _))
  show wpAny _ _ (ret (.ref z)) _ _ s
  exact wpAny_pure ⟨_, rfl, "zip", _, ty, F.slot_zip_next.lookup, h⟩
end
abbrev zsZ (h : Heap) (o1 o2 : Obj) : Heap := (gzO2 h o1 o2).push { cls := .type "zip", data := .fields #[.none, .bool false, .bool true, .ref ((h.push o1).push o2).objs.size, .ref (gzT2 h o1 o2).objs.size] }
theorem typeCall_zipS (a b : Value) : checkTypeCall "zip" ⟨[a, b], [(Str.ofString "strict", .bool true)]⟩ = pure () := by kernel_rfl
theorem newCall_zipS (a b : Value) : checkBuiltinCall "zip.__new__" ⟨[.type "zip", a, b], [(Str.ofString "strict", .bool true)]⟩ = pure () := by kernel_rfl
theorem args_init_zipS (obj a b : Value) : argsOk "object.__init__" ⟨[obj, a, b], [(Str.ofString "strict", .bool true)]⟩ := by unfold argsOk; kernel_rfl
theorem meets_zipS {v1 v2 : Value} {o1 o2 : Obj} {H1 H2 : Heap → Prop} (B1 : Begins v1 o1 H1) (B2 : Begins v2 o2 H2) :
    Meets (Builtin.«zip.__new__» ⟨[.type "zip", v1, v2], [(Str.ofString "strict", .bool true)]⟩) (fun _ R s => (H1 s.heap ∧ H2 s.heap) ∧
      R (.ok (.ret (.ref (gzO2 s.heap o1 o2).objs.size))) { s with heap := zsZ s.heap o1 o2 }) :=
  .of_wp fun prog w A R s h => by
    obtain ⟨hp, g, d, tk, os⟩ := s
    obtain ⟨⟨h1, h2⟩, h⟩ := h
    have hsub := sub_zip
    have e1 : (Str.ofString "strict" == ("strict" : Str)) = true := by decide +kernel
    have e2 : (Str.ofString "strict" != ("strict" : Str)) = false := by decide +kernel
    have q1 : ∀ {A' : Around} {E : Value → Shared → Prop} {Q : Value → Shared → Prop}, Q (.ref hp.objs.size) ⟨hp.push o1, g, d, tk, os⟩ → wpAny (model prog w) A' (pyIter v1) Q E ⟨hp, g, d, tk, os⟩ :=
      fun q => B1.iter prog w _ _ ⟨hp, g, d, tk, os⟩ _ h1 q
    have q2 : ∀ {A' : Around} {E : Value → Shared → Prop} {Q : Value → Shared → Prop}, Q (.ref (hp.push o1).objs.size) ⟨(hp.push o1).push o2, g, d, tk, os⟩ → wpAny (model prog w) A' (pyIter v2) Q E ⟨hp.push o1, g, d, tk, os⟩ :=
      fun q => B2.iter prog w _ _ ⟨hp.push o1, g, d, tk, os⟩ _ (B2.keeps _ _ h2 fun b o' e => Heap.get?_push_of_some _ e) q
    wp_walk using q1, q2
    exact ⟨_, rfl, h⟩
section
variable {prog : Program} {w : World} {A : Around} {E : Value → Shared → Prop} {s : Shared}
/-- its five new things -/
theorem zipS_begins {v1 v2 : Value} {o1 o2 : Obj} {H1 H2 : Heap → Prop} {Q : Value → Shared → Prop} (B1 : Begins v1 o1 H1) (B2 : Begins v2 o2 H2) (h1 : H1 s.heap) (h2 : H2 s.heap)
    (h : ∀ h', IsZipS h' (s.heap.objs.size + 4) (s.heap.objs.size + 2) (s.heap.objs.size + 3) .none → IsTupOf2 h' (s.heap.objs.size + 2) (.ref s.heap.objs.size) (.ref (s.heap.objs.size + 1)) →
      IsTupOf2 h' (s.heap.objs.size + 3) .none .none → h'.get? s.heap.objs.size = some o1 → h'.get? (s.heap.objs.size + 1) = some o2 → h'.objs.size = s.heap.objs.size + 5 →
      (∀ c o, s.heap.get? c = some o → h'.get? c = some o) → Q (.ref (s.heap.objs.size + 4)) { s with heap := h' }) :
    wpAny (model prog w) A (call (.type "zip") [v1, v2] [(Str.ofString "strict", .bool true)]) Q E s := by
  refine callType_newKw F.called_zip (by decide) (typeCall_zipS _ _) (newCall_zipS _ _) (fun obj => args_init_zipS obj _ _) F.entry_zip_new (meets_zipS B1 B2) ⟨⟨h1, h2⟩, ?_⟩
  have m1 : (s.heap.push o1).objs.size = s.heap.objs.size + 1 := Heap.size_push ..
  have m2 : ((s.heap.push o1).push o2).objs.size = s.heap.objs.size + 2 := by rw [Heap.size_push, m1]
  have m3 : (gzT2 s.heap o1 o2).objs.size = s.heap.objs.size + 3 := by rw [Heap.size_push, m2]
  have m4 : (gzO2 s.heap o1 o2).objs.size = s.heap.objs.size + 4 := by rw [Heap.size_push, m3]
  have m5 : (zsZ s.heap o1 o2).objs.size = s.heap.objs.size + 5 := by rw [Heap.size_push, m4]
  have y5 : (zsZ s.heap o1 o2).get? (gzO2 s.heap o1 o2).objs.size = some _ := Heap.get?_push_size _ rfl
  have y4 : (zsZ s.heap o1 o2).get? (gzT2 s.heap o1 o2).objs.size = some _ := Heap.get?_push_of_some _ (Heap.get?_push_size _ rfl)
  have y3 : (zsZ s.heap o1 o2).get? ((s.heap.push o1).push o2).objs.size = some _ := Heap.get?_push_of_some _ (Heap.get?_push_of_some _ (Heap.get?_push_size _ rfl))
  have y2 : (zsZ s.heap o1 o2).get? (s.heap.push o1).objs.size = some o2 := Heap.get?_push_of_some _ (Heap.get?_push_of_some _ (Heap.get?_push_of_some _ (Heap.get?_push_size _ B2.free)))
  have y1 : (zsZ s.heap o1 o2).get? s.heap.objs.size = some o1 := Heap.get?_push_of_some _ (Heap.get?_push_of_some _ (Heap.get?_push_of_some _ (Heap.get?_push_of_some _ (Heap.get?_push_size _ B1.free))))
  rw [m4, m3, m2] at y5
  rw [m3] at y4
  rw [m2, m1] at y3
  rw [m1] at y2
  show _ ∧ _
  rw [m4]
  exact ⟨⟨_, y5, rfl⟩, h _ y5 y3 y4 y1 y2 m5 fun c o e => Heap.get?_push_of_some _ (Heap.get?_push_of_some _ (Heap.get?_push_of_some _ (Heap.get?_push_of_some _ (Heap.get?_push_of_some _ e))))⟩
end

/-! ### what a strict zip goes through -/
/-- a source: its iterator at it, what it holds told by gd, its footprint fp -/
structure Src (prog : Program) (w : World) (K : PySem.W.Frag) (it : Addr) (fp : List Addr) (gd : Hp → List V → Prop) (tn : Nat → Heap → Prop) : Prop where
  mem : it ∈ fp
  there : ∀ i h, tn i h → ∃ o, h.get? it = some o ∧ ∀ v, o.data ≠ .cell v
  keep : ∀ i h h', tn i h → (∀ o, h.get? it = some o → h'.get? it = some o) → tn i h'
  inj : ∀ (X : Cx) (pins : List (Addr × Obj)) (s : Shared) (σ : L2.St) (H : Hp) (xs ys : List V), X.K = K → Inv X pins σ H s → gd H xs → gd H ys → xs = ys
  draws : ∀ (X : Cx) (pins : List (Addr × Obj)) (s : Shared) (σ : L2.St) (H : Hp) (xs : List V), X.prog = prog → X.w = w → X.K = K → X.A.handled = none → Inv X pins σ H s → gd H xs →
    ∃ (P : Nat → Value → Prop) (St : Nat → Heap → Prop), Draws prog w X.A.in1 it fp xs.length P St ∧ (∀ i v, P i v → ∃ x, xs[i]? = some x ∧ RelV x v) ∧ (∀ i, tn i s.heap → St i s.heap) ∧ ∀ i h, St i h → tn i h
def ItS (g1 g2 : Hp → List V → Prop) : It :=
  ⟨fun i H => ∃ xs ys, g1 H xs ∧ g2 H ys ∧ i < xs.length ∧ i < ys.length, fun i H v H' => ∃ T x y, v = .ref T ∧ H T = none ∧ H' = upd H T (.tup [x, y]) ∧ (∀ xs, g1 H xs → xs[i]? = some x) ∧ ∀ ys, g2 H ys → ys[i]? = some y,
    fun i H => ∃ xs ys, g1 H xs ∧ g2 H ys ∧ i = xs.length ∧ i = ys.length⟩
theorem src_text {prog : Program} {w : World} {K : PySem.W.Frag} {it : Addr} {x : Str} {t : Tok} : Src prog w K it [it] (fun _ xs => xs = x.cps.toList.map fun c => .str ⟨#[c]⟩) (fun i h => h.IsStrIter it (strIterType x) x t i) where
  mem := List.mem_singleton.mpr rfl
  there := fun i h st => by
    obtain ⟨o, e, c, d⟩ := st
    exact ⟨o, e, fun v z => by rw [d] at z; cases z⟩
  keep := fun i h h' st k => by
    obtain ⟨o, e, c, d⟩ := st
    exact ⟨o, k o e, c, d⟩
  inj := fun X pins s σ H xs ys _ _ h1 h2 => by rw [h1, h2]
  draws := fun X pins s σ H xs _ _ _ hh I hx => by
    subst hx
    have hl : (x.cps.toList.map fun c => V.str ⟨#[c]⟩).length = x.cps.size := by rw [List.length_map]; simp
    rw [hl]
    refine ⟨_, _, Draws.text (A := X.A.in1) hh it x t, fun i v hp => ?_, fun i st => st, fun i h st => st⟩
    obtain ⟨c, tk, e, rfl⟩ := hp
    exact ⟨.str ⟨#[c]⟩, by rw [List.getElem?_map, Array.getElem?_toList, e]; rfl, ⟨tk, rfl⟩⟩
theorem src_list {prog : Program} {w : World} {K : PySem.W.Frag} {it a : Addr} (ne : a ≠ it) : Src prog w K it [it, a] (fun H xs => SqL K H a xs) (fun i h => h.IsListIter it a i) where
  mem := List.mem_cons_self
  there := fun i h st => by
    obtain ⟨o, e, c, d⟩ := st
    exact ⟨o, e, fun v z => by rw [d] at z; cases z⟩
  keep := fun i h h' st k => st.at fun o e => k o e
  inj := fun X pins s σ H xs ys hK I h1 h2 => by subst hK; exact I.list_inj h1 h2
  draws := fun X pins s σ H xs _ _ hK hh I hx => by
    subst hK
    obtain ⟨its, rv, p, hz⟩ := I.list hx
    have hl : xs.length = its.toArray.size := by rw [List.size_toArray]; exact rv.length
    rw [hl]
    refine ⟨_, _, Draws.list (A := X.A.in1) hh it a ne its.toArray, fun i v hp => ?_, fun i st => ⟨st, p.isList⟩, fun i h st => st.1⟩
    have hp' : its[i]? = some v := by simpa using hp
    have hi : i < xs.length := by rw [rv.length]; exact (List.getElem?_eq_some_iff.mp hp').1
    obtain ⟨u, hu, ru⟩ := rv.get (List.getElem?_eq_getElem hi)
    rw [hp'] at hu
    cases hu
    exact ⟨xs[i], List.getElem?_eq_getElem hi, ru⟩
theorem src_tup {prog : Program} {w : World} {K : PySem.W.Frag} {it a : Addr} (ne : a ≠ it) : Src prog w K it [it, a] (fun H xs => SqT K H a xs) (fun i h => h.IsTupleIter it a i) where
  mem := List.mem_cons_self
  there := fun i h st => by
    obtain ⟨o, e, c, d⟩ := st
    exact ⟨o, e, fun v z => by rw [d] at z; cases z⟩
  keep := fun i h h' st k => st.at fun o e => k o e
  inj := fun X pins s σ H xs ys hK I h1 h2 => by subst hK; exact I.tuple_inj h1 h2
  draws := fun X pins s σ H xs _ _ hK hh I hx => by
    subst hK
    obtain ⟨its, rv, p, hz⟩ := I.tuple hx
    have hl : xs.length = its.toArray.size := by rw [List.size_toArray]; exact rv.length
    rw [hl]
    refine ⟨_, _, Draws.tuple (A := X.A.in1) hh it a ne its.toArray, fun i v hp => ?_, fun i st => ⟨st, (show s.heap.IsTuple a its.toArray from p)⟩, fun i h st => st.1⟩
    have hp' : its[i]? = some v := by simpa using hp
    have hi : i < xs.length := by rw [rv.length]; exact (List.getElem?_eq_some_iff.mp hp').1
    obtain ⟨u, hu, ru⟩ := rv.get (List.getElem?_eq_getElem hi)
    rw [hp'] at hu
    cases hu
    exact ⟨xs[i], List.getElem?_eq_getElem hi, ru⟩
end Hm
set_option Elab.async false
set_option linter.all false
set_option maxRecDepth 100000
set_option maxHeartbeats 2000000
namespace Hm
open PySem PySem.Spec L2

theorem turn_zipS {P : Program} {w : World} {K : PySem.W.Frag} {elts : List Expr} {kk : Nat} {tpos : Pos} {z TI TO i1 i2 : Addr} {fp1 fp2 : List Addr} {g1 g2 : Hp → List V → Prop} {tn1 tn2 : Nat → Heap → Prop}
    (S : ZipSep2 z TI TO i1 i2 fp1 fp2) (A1 : Src P w K i1 fp1 g1 tn1) (A2 : Src P w K i2 fp2 g2 tn2) :
    Turn P w K (.Tuple elts kk tpos) (ItS g1 g2) [z, TI, TO, i1, i2] z (fun i h => IsZipS h z TI TO .none ∧ IsTupOf2 h TI (.ref i1) (.ref i2) ∧ (∃ a b, IsTupOf2 h TO a b) ∧ tn1 i h ∧ tn2 i h) where
  mem := List.mem_cons_self
  obj := fun i h st b hb => by
    obtain ⟨hz, hTI, ⟨a, c, hTO⟩, s1, s2⟩ := st
    have e : b = z ∨ b = TI ∨ b = TO ∨ b = i1 ∨ b = i2 := by simpa using hb
    rcases e with rfl | rfl | rfl | rfl | rfl
    · exact ⟨_, hz, fun v q => nomatch q⟩
    · exact ⟨_, hTI, fun v q => nomatch q⟩
    · exact ⟨_, hTO, fun v q => nomatch q⟩
    · exact A1.there i h s1
    · exact A2.there i h s2
  keep := fun i h h' st k => by
    obtain ⟨hz, hTI, ⟨a, c, hTO⟩, s1, s2⟩ := st
    exact ⟨k z (by simp) _ hz, k TI (by simp) _ hTI, ⟨a, c, k TO (by simp) _ hTO⟩, A1.keep i h h' s1 fun o e => k i1 (by simp) o e, A2.keep i h h' s2 fun o e => k i2 (by simp) o e⟩
  item := by
    intro X hP hw hK hc i pins s σ H E I hf st hg
    subst hP hw hK
    obtain ⟨hz, hTI, ⟨a, c, hTO⟩, s1, s2⟩ := st
    obtain ⟨xs, ys, q1, q2, l1, l2⟩ := hg
    obtain ⟨P1, St1, D1, v1, u1, d1⟩ := A1.draws X pins s σ H xs rfl rfl rfl (I.ok.hd hc) I q1
    obtain ⟨P2, St2, D2, v2, u2, d2⟩ := A2.draws X pins s σ H ys rfl rfl rfl (I.ok.hd hc) I q2
    refine pyNext_zipS_item S D1 D2 hz hTI hTO (u1 i s1) (u2 i s2) l1 l2 fun x1 x2 h' tk p1 p2 z' t' n1 n2 new sz kp => ?_
    refine ⟨_, rfl, letGo_zipS (s := { s with heap := h', toks := tk }) z' fun h2 z2 sb => ?_⟩
    obtain ⟨x, ex, rx⟩ := v1 i x1 p1
    obtain ⟨y, ey, ry⟩ := v2 i x2 p2
    have zl : z < s.heap.objs.size := Heap.lt_size hz
    have T2 : h2.get? s.heap.objs.size = some { cls := .type "tuple", data := .seq #[x1, x2] } := (sb.2 _ (Nat.ne_of_gt zl)).trans new
    have ob : ObjOk X.prog X.w (upd H s.heap.objs.size (.tup [x, y])) h2 s.heap.objs.size (.tup [x, y]) :=
      ⟨by show 2 ≤ sizeLine; decide, [x1, x2], .cons rx (.cons ry .nil), ⟨_, T2, rfl, _, rfl⟩⟩
    have lt : ∀ b ∈ [z, TI, TO, i1, i2], b < s.heap.objs.size := fun b hb => by
      have e : b = z ∨ b = TI ∨ b = TO ∨ b = i1 ∨ b = i2 := by simpa using hb
      rcases e with rfl | rfl | rfl | rfl | rfl
      · exact zl
      · exact Heap.lt_size hTI
      · exact Heap.lt_size hTO
      · obtain ⟨_, e, _⟩ := A1.there i _ s1; exact Heap.lt_size e
      · obtain ⟨_, e, _⟩ := A2.there i _ s2; exact Heap.lt_size e
    have I1 : Inv X pins σ (upd H s.heap.objs.size (.tup [x, y])) { s with heap := h2, toks := tk } :=
      I.turnedNew (ch := [z, TI, TO, i1, i2]) (fun b o hb e => (sb.2 b (fun q => hb (by simp [q]))).trans (kp b o (fun q => hb (by simp [q])) (fun q => hb (by simp [q])) (fun q => hb (by simp [q])) (fun q => hb (by simp [q])) e)) hf (Nat.le_refl _) ob
    refine ⟨.ref s.heap.objs.size, _, I1, rfl, ⟨_, x, y, rfl, I.hok.fresh (Nat.le_refl _), rfl, fun zs hz' => ?_, fun zs hz' => ?_⟩, ⟨z2, ?_, ⟨x1, x2, ?_⟩, ?_, ?_⟩, fun b hb => ?_⟩
    · rw [A1.inj X pins s σ H zs xs rfl I hz' q1]; exact ex
    · rw [A2.inj X pins s σ H zs ys rfl I hz' q2]; exact ey
    · exact (sb.2 _ S.TIz).trans (kp _ _ S.TIz S.TITO S.TIi1 S.TIi2 hTI)
    · exact (sb.2 _ S.TOz).trans t'
    · exact A1.keep _ _ _ (d1 _ _ n1) fun o e => (sb.2 _ S.zi1.symm).trans e
    · exact A2.keep _ _ _ (d2 _ _ n2) fun o e => (sb.2 _ S.zi2.symm).trans e
    · rw [upd_ne (Nat.ne_of_lt (lt b hb))]
      exact (hf b hb).1
  done := by
    intro X hP hw hK hc i pins s σ H E I hf st hg
    subst hP hw hK
    obtain ⟨hz, hTI, ⟨a, c, hTO⟩, s1, s2⟩ := st
    obtain ⟨xs, ys, q1, q2, rfl, l2⟩ := hg
    obtain ⟨P1, St1, D1, v1, u1, d1⟩ := A1.draws X pins s σ H xs rfl rfl rfl (I.ok.hd hc) I q1
    obtain ⟨P2, St2, D2, v2, u2, d2⟩ := A2.draws X pins s σ H ys rfl rfl rfl (I.ok.hd hc) I q2
    rw [← l2] at D2
    exact pyNext_zipS_end (I.ok.hd hc) S D1 D2 hz hTI hTO (u1 _ s1) (u2 _ s2) fun h' tk hk => ⟨rfl, I.turnedL (t' := tk) (ch := [z, TI, TO, i1, i2]) (fun b o hb q =>
      hk b o (fun q' => hb (by simp [q'])) (fun q' => hb (by simp [q'])) (fun q' => hb (by simp [q'])) (fun q' => hb (by simp [q'])) q) hf⟩
  self := fun A i s Q E st h => pyIter_zipS st.1 h

/-! ### .. in a walk -/
/-- a source's data -/
def srcD (S : Store) (d : D) : Option (List D) := match d with
  | .lst ds => some ds
  | .scr ds => some ds
  | .tup ds => some ds
  | .str z => some (signs z)
  | _ => none
theorem zsep {n : Nat} {fp1 fp2 : List Nat} (f1 : ∀ b ∈ fp1, b = n ∨ b < n) (m1 : n ∈ fp1) (f2 : ∀ b ∈ fp2, b = n + 1 ∨ b < n) (m2 : n + 1 ∈ fp2) : ZipSep2 (n + 4) (n + 2) (n + 3) n (n + 1) fp1 fp2 := by
  have a1 : ∀ k, n < k → k ∉ fp1 := fun k hk h => by rcases f1 _ h with e | e <;> omega
  have a2 : ∀ k, n + 1 < k → k ∉ fp2 := fun k hk h => by rcases f2 _ h with e | e <;> omega
  have a3 : n ∉ fp2 := fun h => by rcases f2 _ h with e | e <;> omega
  have ne : ∀ {a b : Nat}, a < b → a ≠ b := fun h => Nat.ne_of_lt h
  exact ⟨ne (by omega), ne (by omega), ne (by omega), (ne (by omega)).symm, m1, a1 _ (by omega), a1 _ (by omega), (ne (by omega)).symm, m2, a2 _ (by omega), a2 _ (by omega), a3, a1 _ (by omega)⟩
theorem callWith_tyKw {M : Model} {A : Around} {E : Value → Shared → Prop} {s : Shared} {env : Env} {pos : Pos} {T : String} {e : Expr} {rest : List Expr} {kws : List Keyword} {Q : Value → Shared → Prop}
    (h : wpAny M A (spliced (backTo pos (starEach (e :: rest) env))) (fun vs s1 => wpAny M A (evalAll ((backToKw pos (keywordEach kws env)).map (·.2)))
      (fun ks s2 => wpAny M A (call (.type T) vs (((backToKw pos (keywordEach kws env)).filterMap (·.1)).zip ks)) Q E s2) E s1) E s)
    (he : starEach (e :: rest) env = (false, eval e env) :: starEach rest env) (hp : (backTo pos (starEach (e :: rest) env)).any (·.1) = false) (hall : (backToKw pos (keywordEach kws env)).all (·.1.isSome) = true) (hkw : (backToKw pos (keywordEach kws env)).any (·.1.isNone) = false) :
    wpAny M A (callWith pos (.type T) [] (backTo pos (starEach (e :: rest) env)) (backToKw pos (keywordEach kws env))) Q E s := by
  unfold callWith
  refine wpAny_bind (wpAny_holding (PyProof.Rows.evalArgs_kw2 hall (thn h fun vs s1 h1 => thn h1 fun ks s2 h2 => ?_) he))
  refine wpAny_bind (wpAny_standAt ?_)
  simp only [hp, hkw, Bool.or_false]
  exact wpAny_bind (wpAny_pure (wpAny_bind (thn h2 fun r s3 hr => wpAny_bind (wpAny_holding (wpAny_point (wpAny_pure hr))))))
section
variable {K : PySem.W.Frag} {En : Ent} {F : Hp} {R : List Addr} {E : Ev} {S : Store} {σ : L2.St} {H : Hp} {ds es : List D} {vs us : List V}
theorem signs_reps : ∀ (l : List Nat), Reps K F R (l.map fun c => D.str ⟨#[c]⟩) (l.map fun c => V.str ⟨#[c]⟩)
  | [] => .nil
  | c :: l => .cons (.str _) (signs_reps l)
theorem src_at {X : Cx} {pins : List (Addr × Obj)} {s : Shared} (rel : Rel K En F R E S σ H) (I : Inv X pins σ H s) (hK : X.K = K) {d : D} {v : V} {u : Value} (rp : Rep K F R d v) (ru : RelV v u) (e : srcD S d = some ds) :
    ∃ (gd : Hp → List V → Prop) (vs : List V), Reps K F R ds vs ∧ (∀ (En : Ent) (F2 : Hp) (R2 : List Addr) (E : Ev) (S : Store) (σ : L2.St) (H : Hp), Le F R F2 R2 → Rel K En F2 R2 E S σ H → gd H vs) ∧
      ∀ it, s.heap.objs.size ≤ it → ∃ (o : Obj) (Hh : Heap → Prop) (fp : List Addr) (tn : Nat → Heap → Prop), Begins u o Hh ∧ Hh s.heap ∧ Src X.prog X.w K it fp gd tn ∧ (∀ b ∈ fp, b = it ∨ b < s.heap.objs.size) ∧ ∀ h : Heap, h.get? it = some o → tn 0 h := by
  subst hK
  cases d with
  | lst xs =>
    cases e
    cases rp with
    | lst h1 h2 =>
      rename_i a vs
      cases ru
      have sq : SqL X.K H a vs := .of (rel.frz _ _ h1)
      obtain ⟨its, rv, p, hz⟩ := I.list sq
      refine ⟨fun H xs => SqL X.K H a xs, vs, h2, fun En F2 R2 E S σ H le r => sq_of (.of h1) le r, fun it hi => ?_⟩
      have lt : a < s.heap.objs.size := p.lt
      exact ⟨_, _, _, _, begins_list a its.toArray, p.isList, src_list (Nat.ne_of_lt (Nat.lt_of_lt_of_le lt hi)), fun b hb => by
        rcases List.mem_cons.mp hb with q | q
        · exact .inl q
        · exact .inr (by rw [List.mem_singleton.mp q]; exact lt), fun h hh => ⟨_, hh, rfl, rfl⟩⟩
  | scr xs =>
    cases e
    cases rp with
    | scr h1 h2 =>
      rename_i a vs
      cases ru
      have sq : SqL X.K H a vs := sqL_same rel.frz h1
      obtain ⟨its, rv, p, hz⟩ := I.list sq
      refine ⟨fun H xs => SqL X.K H a xs, vs, h2, fun En F2 R2 E S σ H le r => sq_of h1 le r, fun it hi => ?_⟩
      have lt : a < s.heap.objs.size := p.lt
      exact ⟨_, _, _, _, begins_list a its.toArray, p.isList, src_list (Nat.ne_of_lt (Nat.lt_of_lt_of_le lt hi)), fun b hb => by
        rcases List.mem_cons.mp hb with q | q
        · exact .inl q
        · exact .inr (by rw [List.mem_singleton.mp q]; exact lt), fun h hh => ⟨_, hh, rfl, rfl⟩⟩
  | tup xs =>
    cases e
    cases rp with
    | tup h1 h2 =>
      rename_i a vs
      cases ru
      have sq : SqT X.K H a vs := sqT_same rel.frz h1
      obtain ⟨its, rv, p, hz⟩ := I.tuple sq
      obtain ⟨o0, ho0, _⟩ := id p
      refine ⟨fun H xs => SqT X.K H a xs, vs, h2, fun En F2 R2 E S σ H le r => sqt_of h1 le r, fun it hi => ?_⟩
      have lt : a < s.heap.objs.size := Heap.lt_size ho0
      exact ⟨_, _, _, _, begins_tuple a its.toArray, (show s.heap.IsTuple a its.toArray from p), src_tup (Nat.ne_of_lt (Nat.lt_of_lt_of_le lt hi)), fun b hb => by
        rcases List.mem_cons.mp hb with q | q
        · exact .inl q
        · exact .inr (by rw [List.mem_singleton.mp q]; exact lt), fun h hh => ⟨_, hh, rfl, rfl⟩⟩
  | str z =>
    cases e
    cases rp
    obtain ⟨t, rfl⟩ := ru
    refine ⟨fun _ xs => xs = z.cps.toList.map fun c => .str ⟨#[c]⟩, _, signs_reps z.cps.toList, fun _ _ _ _ _ _ _ _ _ => rfl, fun it hi => ?_⟩
    exact ⟨_, _, _, _, begins_text z t, trivial, src_text, fun b hb => .inl (List.mem_singleton.mp hb), fun h hh => ⟨_, hh, rfl, rfl⟩⟩
  | _ => cases e
theorem wd_zipS {g1 g2 : Hp → List V → Prop} (h1 : ∀ (En : Ent) (F2 : Hp) (R2 : List Addr) (E : Ev) (S : Store) (σ : L2.St) (H : Hp), Le F R F2 R2 → Rel K En F2 R2 E S σ H → g1 H vs) (h2 : ∀ (En : Ent) (F2 : Hp) (R2 : List Addr) (E : Ev) (S : Store) (σ : L2.St) (H : Hp), Le F R F2 R2 → Rel K En F2 R2 E S σ H → g2 H us)
    (rs : Reps K F R ds vs) (qs : Reps K F R es us) (hl : ds.length = es.length) : WalkD K F R (ItS g1 g2) ⟨zipL ds es, none⟩ := by
  have hn : (zipL ds es).length = ds.length := by rw [zipL_length, ← hl, Nat.min_self]
  have l1 := rs.length
  have l2 := qs.length
  refine wd_pair (n := ds.length) (xs := fun i => vs[i]?) (ys := fun i => us[i]?) (G := fun H => g1 H vs ∧ g2 H us) ⟨fun i H hi q => ⟨vs, us, q.1, q.2, by omega, by omega⟩, fun H q => ⟨vs, us, q.1, q.2, l1, by omega⟩, fun i H x H' hi q y => ?_⟩ hn.symm (fun En F2 R2 E S σ H le r => ⟨h1 En F2 R2 E S σ H le r, h2 En F2 R2 E S σ H le r⟩) fun i x y e1 e2 => ?_
  · obtain ⟨T, x1, y1, rfl, hT, rfl, e1, e2⟩ := y
    exact ⟨T, x1, y1, rfl, hT, rfl, e1 vs q.1, e2 us q.2⟩
  · obtain ⟨d, e3, r1⟩ := rs.get e1
    obtain ⟨e, e4, r2⟩ := qs.get e2
    exact ⟨d, e, zipL_get ds es i d e e3 e4, r1, r2⟩
end
def mZs (ms : M (List D)) : M Wk := bnd ms fun ds _ S => match ds with
  | [a, b] => (match srcD S a, srcD S b with
    | some xs, some ys => if xs.length = ys.length then .ok ⟨zipL xs ys, none⟩ S else .bad
    | _, _ => .bad)
  | _ => .bad
section
variable {G : Gs} {k : Nat} {N : List Str} {sc : Scope} {a b : Expr} {ms : M (List D)} {p pos tpos kp cp : Pos} {elts : List Expr} {kk j : Nat}
theorem di_zipS (hm : G.mg "zip" = none) (ha : DA G k N sc [a, b] ms) (hg : sc.names.lookup ("zip" : Str) = some .globalImplicit := by rfl)
    (hs : ∀ env, starEach [a, b] env = (false, eval a env) :: starEach [b] env := by intro _; rfl) (hp : ∀ env, (backTo pos (starEach [a, b] env)).any (·.1) = false := by intro _; rfl)
    (hall : ∀ env, (backToKw pos (keywordEach [⟨some "strict", .Constant (.bool true) j cp, kp⟩] env)).all (·.1.isSome) = true := by intro _; rfl) (hkw : ∀ env, (backToKw pos (keywordEach [⟨some "strict", .Constant (.bool true) j cp, kp⟩] env)).any (·.1.isNone) = false := by intro _; rfl)
    (hks : ∀ env, (backToKw pos (keywordEach [⟨some "strict", .Constant (.bool true) j cp, kp⟩] env)).filterMap (·.1) = [Str.ofString "strict"] := by intro _; rfl)
    (hev : ∀ env, eval (.Call (.Name "zip" p) [a, b] [⟨some "strict", .Constant (.bool true) j cp, kp⟩] pos) env = (do callWith pos (← eval (.Name "zip" p) env) [] (backTo pos (starEach [a, b] env)) (backToKw pos (keywordEach [⟨some "strict", .Constant (.bool true) j cp, kp⟩] env))) := by intro _; rfl) :
    DI G k N sc (.Tuple elts kk tpos) (.Call (.Name "zip" p) [a, b] [⟨some "strict", .Constant (.bool true) j cp, kp⟩] pos) (mZs ms) :=
  ⟨fun X W c tk => ⟨fun pins s σ H Q I h => by
    obtain ⟨En, F, R, E, S, rel, h⟩ := h
    rw [hev]
    refine wpAny_bind (ld_blt I (gl_of c hg) (by rw [c.cmg]; exact hm) PyProof.Rows.boot_zip ?_)
    have kw : PK X [⟨some "strict", .Constant (.bool true) j cp, kp⟩] (tCons (tC (.bl true)) tNil) := pk_cons pe_bl pk_nil
    let Wi : List V → Hp → Prop := fun vs H1 => ∃ F1 R1 S1 d e xs ys v w, vs = [v, w] ∧ Rel G.K En F1 R1 E S1 σ H1 ∧ Rep G.K F1 R1 d v ∧ Rep G.K F1 R1 e w ∧ srcD S1 d = some xs ∧ srcD S1 e = some ys ∧ xs.length = ys.length ∧ Wis G.K En E σ Q F1 R1 ⟨zipL xs ys, none⟩ S1
    have w : tA G.K ms W σ H Wi := by
      refine tA_then rel h fun F1 R1 H1 ds vs S1 le rel1 rs q => ?_
      split at q
      · rename_i d e
        obtain ⟨v, w, rfl, r1, r2⟩ := reps2 rs
        split at q
        · rename_i xs ys e1 e2
          split at q
          · rename_i hl
            exact ⟨F1, R1, S1, d, e, xs, ys, v, w, rfl, rel1, r1, r2, e1, e2, hl, q F1 R1 H1 Le.refl rel1⟩
          · exact q.elim
        · exact q.elim
      · exact q.elim
    refine callWith_tyKw (thn ((ha.run X W c tk).run pos pins s σ H _ I w) fun us s1 ⟨vs, H1, I1, rvs, q1⟩ => thn (kw.run pos pins s1 σ H1 (fun zs H2 => zs = [.bl true] ∧ Wi vs H2) I1 ⟨rfl, q1⟩) fun ws s2 ⟨zs, H2, I2, rz, ez, q2⟩ => ?_) (hs _) (hp _) (hall _) (hkw _)
    subst ez
    rw [hks]
    obtain ⟨F1, R1, S1, d, e, xs, ys, v, w', rfl, rel1, r1, r2, e1, e2, hl, wi⟩ := q2
    cases rz with
    | cons rb rz =>
      cases rz
      cases rb
      cases rvs with
      | cons ra rvs => cases rvs with
        | cons rb rvs =>
          cases rvs
          obtain ⟨g1, vs1, q1, h1, b1⟩ := src_at rel1 I2 c.cK r1 ra e1
          obtain ⟨g2, vs2, q2, h2, b2⟩ := src_at rel1 I2 c.cK r2 rb e2
          obtain ⟨o1, Hh1, fp1, tn1, B1, y1, A1, f1, z1⟩ := b1 s2.heap.objs.size (Nat.le_refl _)
          obtain ⟨o2, Hh2, fp2, tn2, B2, y2, A2, f2, z2⟩ := b2 (s2.heap.objs.size + 1) (Nat.le_succ _)
          refine zipS_begins B1 B2 y1 y2 fun h' hz hTI hTO g1' g2' sz kp => pyIter_zipS hz ?_
          have I3 : Inv X pins σ H2 { s2 with heap := h' } := I2.kept (t' := s2.toks) kp
          refine ⟨s2.heap.objs.size + 4, [s2.heap.objs.size + 4, s2.heap.objs.size + 2, s2.heap.objs.size + 3, s2.heap.objs.size, s2.heap.objs.size + 1], _, ItS g1 g2, H2, rfl, I3, turn_zipS (zsep f1 A1.mem f2 A2.mem) (by rw [c.cK]; exact A1) (by rw [c.cK]; exact A2), ⟨hz, hTI, ⟨_, _, hTO⟩, z1 _ g1', z2 _ g2'⟩, fun b hb => ?_, wi.2 F1 H2 _ Le.refl rel1 (wd_zipS h1 h2 q1 q2 hl)⟩
          have hle : s2.heap.objs.size ≤ b := by
            have e' : b = s2.heap.objs.size + 4 ∨ b = s2.heap.objs.size + 2 ∨ b = s2.heap.objs.size + 3 ∨ b = s2.heap.objs.size ∨ b = s2.heap.objs.size + 1 := by simpa using hb
            rcases e' with z | z | z | z | z <;> rw [z] <;> first | exact Nat.le_refl _ | exact Nat.le_add_right _ _
          exact I2.fpOk hle (I2.hok.fresh hle)⟩⟩
end
end Hm
set_option Elab.async false
set_option linter.all false
set_option maxRecDepth 100000
set_option maxHeartbeats 2000000
namespace Hm
open PySem PySem.Spec L2

section
variable {G : Gs} {k : Nat} {N : List Str} {sc : Scope} {pos p : Pos} {e : Expr} {es : List Expr} {m : M DV} {ms : M (List D)}
theorem de_globE {x : Str} {d : D} {v : V} (h : ∃ u, G.mg x = some u ∧ RelV v u) (hr : ∀ F R, Rep G.K F R d v := by intro _ _; constructor) (hg : sc.names.lookup x = some .globalImplicit := by rfl) (hd : (x == ("__debug__" : Str)) = false := by decide) : DE G k N sc (.Name x pos) (mK d) := by
  obtain ⟨u, h1, h2⟩ := h
  exact de_glob h1 hr h2 hg hd
theorem de_bty {x : Str} {T : String} (h : G.mg x = none) (hv : bootBuiltins x = some (.type T) := by rfl) (hg : sc.names.lookup x = some .globalImplicit := by rfl) (hn : x ≠ "__name__" := by decide) (hd : (x == ("__debug__" : Str)) = false := by decide) : DE G k N sc (.Name x pos) (mK (.ty T)) :=
  ⟨fun X W c tk => pe_imp (pe_bltn (v := .ty T) (gl_of c hg) (by rw [c.cmg]; exact h) hv rfl hn hd) fun _ _ _ h => tC_of (fun _ _ => .ty T) h⟩

/-! isinstance of plain kinds -/
def isiTab (T n : String) : Option Bool :=
  if T ∈ ["NoneType", "bool", "int", "str", "tuple", "list", "dict"] ∧ n ∈ ["bool", "int", "str", "tuple", "list", "dict"] then some (T == n || (T == "bool" && n == "int")) else none
theorem isi_ok (K : PySem.W.Frag) {T n : String} {b : Bool} (h : isiTab T n = some b) : tyIs K T n = some b := by
  unfold isiTab at h
  split at h
  · rename_i hc
    cases h
    obtain ⟨h1, h2⟩ := hc
    simp only [List.mem_cons, List.not_mem_nil, or_false] at h1 h2
    rcases h1 with rfl | rfl | rfl | rfl | rfl | rfl | rfl <;> rcases h2 with rfl | rfl | rfl | rfl | rfl | rfl <;> kernel_rfl
  · cases h
def isiT : FD := fun ds S => match ds with
  | [d, .ty n] => (match (kindS S d).bind fun T => isiTab T n with
    | some b => fine (.bl b) S
    | none => .bad)
  | _ => .bad
theorem snd_isiT {K : PySem.W.Frag} : SndL K isiT (rIsi K) := fun En F R E S σ H W Q ds vs rel rs p => by
  refine snd_isi En F R E S σ H W Q ds vs rel rs ?_
  unfold isiT at p
  unfold isiD
  split at p
  · rename_i d n
    try dsimp only
    split at p
    · rename_i b hb
      obtain ⟨T, e1, e2⟩ := Option.bind_eq_some_iff.mp hb
      have e3 : ((kindS S d).bind fun T => tyIs K T n) = some b := Option.bind_eq_some_iff.mpr ⟨T, e1, isi_ok K e2⟩
      rw [e3]
      exact p
    · exact p.elim
  · exact p.elim
theorem de_isi {x : Str} (hm : G.mg x = none) (ha : DA G k N sc (e :: es) ms) (hv : bootBuiltins x = some (.builtin "isinstance") := by rfl) (hg : sc.names.lookup x = some .globalImplicit := by rfl) (hn : x ≠ "__name__" := by decide) (hdb : (x == ("__debug__" : Str)) = false := by decide)
    (he : ∀ env, starEach (e :: es) env = (false, eval e env) :: starEach es env := by intro _; rfl) (hpl : ∀ env, (backTo pos (starEach es env)).any (·.1) = false := by intro _; rfl) : DE G k N sc (.Call (.Name x p) (e :: es) [] pos) (mF isiT ms) :=
  de_cB (fun X c => c.cK ▸ call_isi) snd_isiT hm ha hv hg hn hdb he hpl

/-! a starred target -/
theorem pgs_consS {X : Cx} {tgt : Expr} {e : Expr} {es : List Expr} {t : TG} {u : TGs} (h1 : PG X e t) (h2 : PGs X es u) (hs : (assignEach (tgt :: es) X.env).map (·.2) = assign e X.env :: (assignEach es X.env).map (·.2)) : PGs X (tgt :: es) (gCons t u) :=
  ⟨fun pins s σ H vs us Q I r h => by
    obtain ⟨v, vr, ev, h⟩ := h
    subst ev
    rw [hs]
    cases r with
    | cons r rr => exact PyProof.Rows.assignInOrder_cons (thn (h1.run pins s σ H _ _ _ I r h) fun _ s1 ⟨σ1, H1, I1, q1⟩ => h2.run pins s1 σ1 H1 _ _ Q I1 rr q1)⟩
theorem tgs_of {G : Gs} {own ys : List (Str × Nat)} {g : MG} {gs : MGs} {vs : List V} {σ : L2.St} {H : Hp} {Q : L2.St → Hp → Prop} (h : tGs G.K (own ++ ys) (gConsM g gs) vs σ H Q) : gCons (tG G.K own g) (tGs G.K ys gs) vs σ H Q := by
  obtain ⟨En, F, R, E, S, ds, rel, rs, h⟩ := h
  cases rs with
  | nil => exact h.elim
  | cons r rs =>
    rename_i d v ds vs
    refine ⟨_, _, rfl, En, F, R, E, S, d, rel, r, ?_⟩
    change GoG _ _ _ _ _ _ _ _ (match g d E S with | some E1 => gs ds E1 S | none => none) at h
    cases e1 : g d E S with
    | none => rw [e1] at h; exact h.elim
    | some E1 =>
      rw [e1] at h
      dsimp only at h
      refine fun F1 R1 σ1 H1 le r1 sm => ⟨En, F1, R1, E1, S, ds, r1, rs.mono le _ _, ?_⟩
      cases e2 : gs ds E1 S with
      | none => rw [e2] at h; exact h.elim
      | some E2 =>
        rw [e2] at h
        exact fun F2 R2 σ2 H2 l r s => h F2 R2 σ2 H2 (le.trans l) r (sm.app s)
theorem dgs_star {own ys : List (Str × Nat)} {g : MG} {gs : MGs} {p2 : Pos} (h1 : DG G k N sc e own g) (h2 : DGs G k N sc es ys gs) (hs : ∀ env, (assignEach (.Starred e p2 :: es) env).map (·.2) = assign e env :: (assignEach es env).map (·.2) := by intro _; rfl) : DGs G k N sc (.Starred e p2 :: es) (own ++ ys) (gConsM g gs) :=
  ⟨fun X c st => pgs_imp (pgs_consS (h1.run X c st.left) (h2.run X c st.right) (hs _)) fun v σ H Q h => tgs_of h⟩
/-- a comprehension into a name that a block captures -/
theorem ds_setC {x : Str} {spos px : Pos} {elt : Expr} {gs : List Comprehension} {scope : Scope} (i : Nat) (he : DE G k N sc (.ListComp elt gs scope pos) m) (hN : N[i]? = some x := by rfl) (hx : sc.names.lookup x = some .cell := by rfl) : DS G k N sc (.Assign [.Name x px] (.ListComp elt gs scope pos) spos) (setS i m) :=
  ⟨fun X W c tk => ps_imp (ps_set (i := i) (by rw [c.e.cN]; exact c.e.cnd) (by rw [c.e.cN]; exact hN) (by rw [c.e.csc]; exact .inr hx) (he.run X W c.e tk) (by
      have e := c.e.csc
      have kx : X.env.kindOf x = some .cell := by subst e; exact hx
      unfold swapsWith
      simp only [kx]
      have z : ((some NameKind.cell : Option NameKind) == some NameKind.local) = false := by decide
      rw [z, Bool.and_false, Bool.false_and, Bool.false_and]) (.inl (c.cfn x))) fun D σ H h => by
    obtain ⟨En, F, R, E, S, rel, h⟩ := h
    exact withE_then rel h fun F1 R1 H1 dv v S1 le rel1 hv q => q F1 R1 _ H1 Le.refl (rel1.store hv i)⟩
end

/-! a, b = x, y -/
theorem swap2 {sc : Scope} {x y : Str} {px py pt pt2 : Pos} {kt k2 : Nat} {a b : Expr} (hk : sc.kind = .function) (hx : sc.names.lookup x = some .local) (hy : sc.names.lookup y = some .local) (hl : (px.line == px.line) = true := by decide) (hl2 : (py.line == px.line) = true := by decide) (hne : (x == y) = false := by decide)
    (hs : ([a, b].any fun | .Starred .. => true | _ => false) = false := by rfl) (hf : [a, b].all (foldedForSure 8) = false := by rfl) (hc : [a, b].all (constantsAlone 8) = false := by rfl) :
    ∀ env : Env, env.scope = sc → swappedStores [.Tuple [.Name x px, .Name y py] kt pt] (.Tuple [a, b] k2 pt2) env = pure (some [x, y]) := fun env he => by
  subst he
  have hb : env.blockKind = .function := by unfold Env.blockKind; rw [hk]; rfl
  have kx : env.kindOf x = some .local := hx
  have ky : env.kindOf y = some .local := hy
  unfold swappedStores
  simp only [hb, hs, hf, hc]
  have e0 : (Option.map (fun e : Expr => e.pos.line) [Expr.Name x px, Expr.Name y py].head?).getD 0 = px.line := rfl
  have e1 : ((env.kindOf x == some NameKind.local) && (px.line == px.line)) = true := by rw [kx, hl]; rfl
  have e2 : ((env.kindOf y == some NameKind.local) && (py.line == px.line)) = true := by rw [ky, hl2]; rfl
  have e3 : ([x, y] : List Str).eraseDups = [x, y] := by
    have h : (y == x) = false := by
      cases q : y == x with
      | false => rfl
      | true =>
        have z := beq_iff_eq.mp q
        rw [z, beq_self_eq_true] at hne
        cases hne
    simp [List.eraseDups_cons, h]
  simp only [e0, List.filterMap_cons, List.filterMap_nil, e1, e2, if_true, e3]
  refine (if_neg (by simp)).trans ((if_neg (ne_true_of_eq_false hs)).trans ?_)
  rfl
end Hm
set_option Elab.async false
set_option linter.all false
set_option maxRecDepth 100000
set_option maxHeartbeats 2000000
namespace Hm
open PySem PySem.Spec L2

/-! ### the head's hook: the layer's facts and tables' contents -/
abbrev AlX : Type := He.AlT × List Bool
def obsX (fa : List He.Fa) (fn : List He.DefD) (ts : List He.Tab) (bs : List (PySem.W.Frag → Bool)) (K : PySem.W.Frag) : AlX := (He.obsT fa fn ts K, bs.map fun b => b K)
def valX (fn : List He.DefD) (ts : List He.Tab) (bs : List (PySem.W.Frag → Bool)) (w : World) : AlX := (He.valT fn ts w, bs.map fun _ => true)
def obsXG (n : Nat) (fa : List He.Fa) (fn : List He.DefD) (ts : List He.Tab) (bs : List (PySem.W.Frag → Bool)) (g : Addr → Option Obj) : AlX := obsX fa fn ts bs (He.frG g (He.asD g n))
structure SaysX (fa : List He.Fa) (fn : List He.DefD) (ts : List He.Tab) (bs : List (PySem.W.Frag → Bool)) (w : World) (K : PySem.W.Frag) : Prop where
  mk ::
  eq : obsX fa fn ts bs K = valX fn ts bs w
def hookX (n : Nat) (fa : List He.Fa) (fn : List He.DefD) (ts : List He.Tab) (bs : List (PySem.W.Frag → Bool)) : PySem.W.Hook where
  α := AlX
  obs := fun s => obsXG n fa fn ts bs s.heap.get?
  val := fun w => valX fn ts bs w
  says := fun w h => ∃ K : PySem.W.Frag, K.In h ∧ SaysX fa fn ts bs w K
  of := fun _ _ e => ⟨_, He.frG_in, ⟨e⟩⟩
  keeps := fun _ _ _ ⟨K, hK, c⟩ k => ⟨K, PySem.W.Frag.In.keeps hK k, c⟩
theorem obsXG_eq {n : Nat} {fa : List He.Fa} {fn : List He.DefD} {ts : List He.Tab} {bs : List (PySem.W.Frag → Bool)} {g : Addr → Option Obj} {s : Shared} (h : ∀ a, g a = s.heap.get? a) : obsXG n fa fn ts bs g = (hookX n fa fn ts bs).obs s := by
  have e : g = s.heap.get? := funext h
  rw [e] <;> rfl
section
variable {fa : List He.Fa} {fn : List He.DefD} {ts : List He.Tab} {bs : List (PySem.W.Frag → Bool)} {w : World} {K : PySem.W.Frag}
theorem SaysX.one (c : SaysX fa fn ts bs w K) : He.SaysT fa fn ts w K := congrArg (fun z : AlX => z.1) c.eq
theorem SaysX.bool (c : SaysX fa fn ts bs w K) (i : Nat) {b : PySem.W.Frag → Bool} (h : bs[i]? = some b) : b K = true := by
  have e : bs.map (fun b => b K) = bs.map fun _ => true := congrArg (fun z : AlX => z.2) c.eq
  have e2 : (bs.map fun b => b K)[i]? = (bs.map fun _ => true)[i]? := by rw [e]
  rw [List.getElem?_map, List.getElem?_map, h] at e2
  exact Option.some.inj e2
end

/-! ### the end: the law's promise -/
theorem fokFn {G : Gs} {k : Nat} {N : List Str} {sc : Scope} {a : MS} {x qual : Str} {params : Arguments} {body : List Stmt} {f : Addr} {fd : FuncData} {ps : List Str} (Fn : FunD G.K x qual params body sc [] [] f fd) (Sc : FnScope N ps sc) (hbody : DSs G k N sc body a) :
    FnOk G.P G.w G.K G.mg G.base (L2.CX G.P G.w) (k + 1) f fd ps (spD G.K ps.length (runB N.length a)) := by
  refine Fn.ok Sc (fun vs H Q E h => h.1) fun cdv A outer s H vs Q E hr h => ?_
  obtain ⟨hn, F, R, S, ds, rel, rs, p⟩ := h
  refine ⟨_, hbody.run _ (fun c d _ H' => E c d H') ⟨⟨rfl, rfl, rfl, rfl, rfl, rfl, rfl, Sc.nd, rfl, hr⟩, rfl, rfl, rfl, fun _ => rfl, passes_of rfl⟩ (takes_of rfl rfl rfl rfl), ?_⟩
  refine ⟨_, F, R, _, S, rel_start rel rs, ?_⟩
  unfold runB at p
  cases q : a (slots0 N.length ds) S with
  | nx E1 S1 => rw [q] at p; exact fun F1 R1 σ1 H1 le r1 => p F1 R1 H1 le r1.drop .non .non
  | rt dv S1 => rw [q] at p; exact fun F1 R1 H1 v le r1 hv => p F1 R1 H1 le r1 v hv
  | bk E1 S1 => rw [q] at p; exact p.elim
  | ct E1 S1 => rw [q] at p; exact p.elim
  | ex c fs E1 S1 => rw [q] at p; exact fun F1 R1 σ1 H1 d vfs le r1 hd rf => p F1 R1 H1 d vfs le r1.drop hd rf
  | bad => rw [q] at p; exact p.elim
theorem sp_law {K : PySem.W.Frag} {f : FD} {ns : List Int} {H : Hp} {a : Addr} (hS : SqL K H a (ns.map V.int)) (h : ∃ S, f [.scr (ns.map .int)] [] = .ok (.val (.bl true)) S) : spD K 1 f [.ref a] H (fun v _ => v = .bl true) fun _ _ _ => False := by
  obtain ⟨S, h⟩ := h
  refine ⟨rfl, H, [], [], [.scr (ns.map .int)], ⟨rfl, fun _ _ h => h, List.nodup_nil, fun k c a e => by simp at e, fun i dv e => by simp at e, fun i j x y a e => by simp at e, fun _ _ h _ _ => h, fun _ _ _ h => h, fun _ _ _ h => h, rfl⟩, .cons (.scr hS ints_reps) .nil, ?_⟩
  rw [h]
  intro F' R' H' le rel v hv
  cases hv
  rfl
theorem walkX {l : PySem.W.OpenLaw} {n k : Nat} {q : Program} {loose : List Str} {XP : (Str → Option Value) → Heap → Prop} {YP : World → Heap → Prop} {d : DefRec} {x : Str}
    (hn : l.most = some n) (hn2 : n ≤ sizeLine) (hdf : d.params.defaults = []) (hr : Room k callerA)
    (F : ∀ (w : World) (mg : Str → Option Value) (fa : Addr) (h : Heap), YP w h → h.Ns mainGlobals mg → mg d.name = some (.ref fa) →
      ∃ (K : PySem.W.Frag) (fd : FuncData), K.In h ∧ (∀ (s : Shared) (u : Value), BindsTo s fd ⟨[u], []⟩ [(x, u)]) ∧ ∃ f : FD, (∀ ns : List Int, ns.length ≤ n → ∃ S, f [.scr (ns.map .int)] [] = .ok (.val (.bl true)) S) ∧
        ∀ base : Heap, K.In base → base.Ns mainGlobals mg → FnOk l.prog w K mg base (L2.CX l.prog w) k fa fd [x] (spD K 1 f)) :
    PySem.W.WalkO q loose XP YP l.row.toRowW d [] (fun f vs => PySem.call f vs) := by
  refine Att.attach_call hn hdf fun w s₀ s₁ mg mb fa o pm cd doc a vs ns G Y ho hd hcd hmg hobj hints hlen hg => ?_
  obtain ⟨K, fd, KX, hb, f, hf, hF⟩ := F w mg fa _ Y G.T.g hmg
  exact law_call KX G.T.g G.T.b G.T.builtins G.T.nolimit hg hobj hints (Nat.le_trans hlen hn2) hr hF hb (fun H hO hS => sp_law hS (hf ns hlen)) fun H e s' z => by
    obtain ⟨_, _, _, _, _, _, _, _, _, _, _, _, z⟩ := z
    exact z
end Hm
set_option Elab.async false
set_option linter.all false
set_option maxRecDepth 100000
set_option maxHeartbeats 2000000
namespace Hm
open PySem PySem.Spec L2

/-! ### loops and comprehensions, plainly -/
theorem chk_none {α : Type} {ds : List D} {S : Store} {z r : α} : chk ⟨ds, none⟩ S z r = r := rfl
theorem compL_fun {g : MG} {t : M Bool} {e : M DV} {w E0} {S : Store} (f : D → D) : ∀ {ds acc : List D}, (∀ d ∈ ds, ∃ E1 x, g d E0 S = some E1 ∧ t E1 S = .ok true S ∧ e E1 S = .ok x S ∧ x.frz = f d) → acc.length + ds.length ≤ sizeLine → compL g t e ⟨w, none⟩ E0 ds acc S = .ok (acc ++ ds.map f) S
  | [], acc, _, _ => by unfold compL; rw [chk_none, List.map_nil, List.append_nil]
  | d :: ds, acc, h, hz => by
    obtain ⟨E1, x, h1, h2, h3, h4⟩ := h d List.mem_cons_self
    rw [List.length_cons] at hz
    unfold compL
    rw [chk_none, h1]
    dsimp only
    rw [h2]
    dsimp only
    rw [h3]
    dsimp only
    rw [if_pos (by omega), compL_fun f (fun d hd => h d (List.mem_cons_of_mem _ hd)) (by rw [List.length_append, List.length_singleton]; omega), h4, List.map_cons, List.append_assoc]
    rfl
/-- with a test -/
theorem compL_filter {g : MG} {t : M Bool} {e : M DV} {w E0} {S : Store} (p : D → Bool) (f : D → D) : ∀ {ds acc : List D}, (∀ d ∈ ds, ∃ E1 x, g d E0 S = some E1 ∧ t E1 S = .ok (p d) S ∧ (p d = true → e E1 S = .ok x S ∧ x.frz = f d)) → acc.length + ds.length ≤ sizeLine → compL g t e ⟨w, none⟩ E0 ds acc S = .ok (acc ++ (ds.filter p).map f) S
  | [], acc, _, _ => by unfold compL; rw [chk_none]; simp
  | d :: ds, acc, h, hz => by
    obtain ⟨E1, x, h1, h2, h3⟩ := h d List.mem_cons_self
    rw [List.length_cons] at hz
    unfold compL
    rw [chk_none, h1]
    dsimp only
    rw [h2]
    cases hp : p d with
    | false =>
      dsimp only
      rw [compL_filter p f (fun d hd => h d (List.mem_cons_of_mem _ hd)) (by omega), List.filter_cons_of_neg (by rw [hp]; decide)]
    | true =>
      dsimp only
      obtain ⟨h4, h5⟩ := h3 hp
      rw [h4]
      dsimp only
      rw [if_pos (by omega), compL_filter p f (fun d hd => h d (List.mem_cons_of_mem _ hd)) (by rw [List.length_append, List.length_singleton]; omega), h5, List.filter_cons_of_pos hp, List.map_cons, List.append_assoc]
      rfl
theorem compL_inv {g : MG} {t : M Bool} {e : M DV} {w E0} (P : Store → Prop) (Q : D → Prop) : ∀ {ds acc : List D} {S : Store}, (∀ d ∈ ds, ∀ S, P S → ∃ E1 x S2, g d E0 S = some E1 ∧ t E1 S = .ok true S ∧ e E1 S = .ok x S2 ∧ P S2 ∧ Q x.frz) → acc.length + ds.length ≤ sizeLine → P S →
    ∃ rs S2, compL g t e ⟨w, none⟩ E0 ds acc S = .ok (acc ++ rs) S2 ∧ P S2 ∧ rs.length = ds.length ∧ ∀ r ∈ rs, Q r
  | [], acc, S, _, _, hP => ⟨[], S, by unfold compL; rw [chk_none, List.append_nil], hP, rfl, fun r hr => by cases hr⟩
  | d :: ds, acc, S, h, hz, hP => by
    obtain ⟨E1, x, S1, h1, h2, h3, h4, h5⟩ := h d List.mem_cons_self S hP
    rw [List.length_cons] at hz
    obtain ⟨rs, S2, r1, r2, r3, r4⟩ := compL_inv P Q (g := g) (t := t) (e := e) (w := w) (E0 := E0) (ds := ds) (acc := acc ++ [x.frz]) (S := S1) (fun d hd => h d (List.mem_cons_of_mem _ hd)) (by rw [List.length_append, List.length_singleton]; omega) h4
    refine ⟨x.frz :: rs, S2, ?_, r2, by rw [List.length_cons, r3, List.length_cons], fun r hr => ?_⟩
    · unfold compL
      rw [chk_none, h1]
      dsimp only
      rw [h2]
      dsimp only
      rw [h3]
      dsimp only
      rw [if_pos (by omega), r1, List.append_assoc]
      rfl
    · rcases List.mem_cons.mp hr with q | q
      · rw [q]; exact h5
      · exact r4 r q
theorem mLc_of {mi : M Wk} {g : MG} {t : M Bool} {e : M DV} {own : List (Str × Nat)} {E : Ev} {S S1 S2 : Store} {w : Wk} {ds : List D} (h1 : mi E S = .ok w S1) (h2 : compL g t e w (innerE own E) w.ds [] S1 = .ok ds S2) : mLc mi g t e own E S = .ok (.ol ds) S2 := by
  unfold mLc bnd
  rw [h1]
  dsimp only
  rw [h2]
/-- a loop that goes through: I by the turn -/
theorem loopS_inv {g : MG} {b : MS} {w} (I : Nat → Ev → Store → Prop) : ∀ {ds : List D} {i : Nat} {E : Ev} {S : Store}, (∀ j d, ds[j]? = some d → ∀ E S, I (i + j) E S → ∃ E1 E2 S2, g d E S = some E1 ∧ (b E1 S = .nx E2 S2 ∨ b E1 S = .ct E2 S2) ∧ I (i + j + 1) E2 S2) → I i E S →
    ∃ E2 S2, loopS g b ⟨w, none⟩ ds E S = .nx E2 S2 ∧ I (i + ds.length) E2 S2
  | [], i, E, S, _, h => ⟨E, S, by unfold loopS; rw [chk_none], h⟩
  | d :: ds, i, E, S, hs, h => by
    obtain ⟨E1, E2, S2, h1, h2, h3⟩ := hs 0 d rfl E S h
    obtain ⟨E3, S3, h4, h5⟩ := loopS_inv I (g := g) (b := b) (w := w) (ds := ds) (i := i + 1) (E := E2) (S := S2) (fun j d' hj E S q => by
      have z := hs (j + 1) d' hj E S (by rw [show i + (j + 1) = i + 1 + j by omega]; exact q)
      rw [show i + (j + 1) + 1 = i + 1 + j + 1 by omega] at z
      exact z) h3
    refine ⟨E3, S3, ?_, by rw [List.length_cons, show i + (ds.length + 1) = i + 1 + ds.length by omega]; exact h5⟩
    unfold loopS
    rw [chk_none, h1]
    dsimp only
    rcases h2 with h2 | h2
    · rw [h2]; exact h4
    · rw [h2]; exact h4
theorem forS_of {mi : M Wk} {g : MG} {b : MS} {E : Ev} {S S1 : Store} {w : Wk} {r : RS} (h1 : mi E S = .ok w S1) (h2 : loopS g b w w.ds E S1 = r) : forS mi g b E S = r := by
  unfold forS withE
  rw [h1]
  exact h2
theorem seqS_nx {a b : MS} {E E1 : Ev} {S S1 : Store} (h : a E S = .nx E1 S1) : seqS a b E S = b E1 S1 := by
  unfold seqS
  rw [h]
theorem seqS_rt {a b : MS} {E : Ev} {S S1 : Store} {dv : DV} (h : a E S = .rt dv S1) : seqS a b E S = .rt dv S1 := by
  unfold seqS
  rw [h]
theorem bnd_ok {α β : Type} {m : M α} {f : α → M β} {E : Ev} {S S1 : Store} {a : α} (h : m E S = .ok a S1) : bnd m f E S = f a E S1 := by
  unfold bnd
  rw [h]
theorem ifS_t {t : M Bool} {a b : MS} {E : Ev} {S S1 : Store} (h : t E S = .ok true S1) : ifS t a b E S = a E S1 := by
  unfold ifS withE
  rw [h]
  rfl
theorem ifS_f {t : M Bool} {a b : MS} {E : Ev} {S S1 : Store} (h : t E S = .ok false S1) : ifS t a b E S = b E S1 := by
  unfold ifS withE
  rw [h]
  rfl
theorem eqD_int {i j : Int} {S : Store} : eqD (.int i) (.int j) S = fine (.bl (decide (i = j))) S := by
  show fine (.bl (PyData.eqv (.int i) (.int j))) S = _
  have e : PyData.eqv (.int i) (.int j) = decide (i = j) := by
    simp only [PyData.eqv]
    rfl
  rw [e]
section
variable {E : Ev} {S S1 S2 : Store} {n i j : Int} {m a b : M DV}
theorem var_ok {k : Nat} {d : D} (h : E[k]? = some (some (.val d))) : mVar k E S = .ok (.val d) S := by
  unfold mVar
  rw [h]
theorem bin_ok {f : F2} {x y : DV} {r : Res DV} (h1 : a E S = .ok x S1) (h2 : b E S1 = .ok y S2) (h3 : f x.frz y.frz S2 = r) : mBin f a b E S = r := by
  unfold mBin
  rw [bnd_ok h1, bnd_ok h2]
  exact h3
theorem tst_ok {k : Bool} (h : m E S = .ok (.val (.bl k)) S1) : mTst m E S = .ok k S1 := by
  unfold mTst
  rw [bnd_ok h]
theorem k_ok {d : D} : mK d E S = .ok (.val d) S := rfl
theorem and_t {x y : M Bool} (h : x E S = .ok true S1) : mAnd x y E S = y E S1 := by
  unfold mAnd
  rw [bnd_ok h]
  rfl
theorem and_f {x y : M Bool} (h : x E S = .ok false S1) : mAnd x y E S = .ok false S1 := by
  unfold mAnd
  rw [bnd_ok h]
  rfl
theorem set_ok {k : Nat} {x : DV} (h : m E S = .ok x S1) : setS k m E S = .nx (E.set k (some x)) S1 := by
  unfold setS withE
  rw [h]
theorem mod_ok (h : 0 < j) : modD (.int i) (.int j) S = .ok (.val (.int (i % j))) S := by
  show (match (if 0 < j then some (D.int (i % j)) else none) with | some z => fine z S | none => .bad) = _
  rw [if_pos h]
  rfl
theorem fdiv_ok (h : 0 < j) (h2 : j < 1073741824) : fdivD (.int i) (.int j) S = .ok (.val (.int (i / j))) S := by
  show (match (if 0 < j ∧ j < 1073741824 then some (D.int (i / j)) else none) with | some z => fine z S | none => .bad) = _
  rw [if_pos ⟨h, h2⟩]
  rfl
theorem add_ok : addD (.int i) (.int j) S = .ok (.val (.int (i + j))) S := rfl
theorem mul_ok (h : mulOk i j = true) : mulD (.int i) (.int j) S = .ok (.val (.int (i * j))) S := by
  show (if mulOk i j then fine (.int (i * j)) S else .bad) = _
  rw [if_pos h]
  rfl
theorem mulR (h0 : 0 ≤ j) (h : j < 18446744073709551616) : mulOk i j = true := by
  unfold mulOk
  have h1 : decide (-(2 ^ 64) < j) = true := decide_eq_true (by omega)
  have h2 : decide (j < 2 ^ 64) = true := decide_eq_true (by omega)
  rw [h1, h2]
  simp
theorem lt_ok : ltD (.int i) (.int j) S = .ok (.val (.bl (decide (i < j)))) S := rfl
theorem ge_t (h : j ≤ i) : geD (.int i) (.int j) S = .ok (.val (.bl true)) S := by
  show fine (.bl (decide (j ≤ i))) S = _
  rw [decide_eq_true h]
  rfl
theorem ge_f (h : ¬ j ≤ i) : geD (.int i) (.int j) S = .ok (.val (.bl false)) S := by
  show fine (.bl (decide (j ≤ i))) S = _
  rw [decide_eq_false h]
  rfl
theorem ge_ok : geD (.int i) (.int j) S = .ok (.val (.bl (decide (j ≤ i)))) S := rfl
end
end Hm
set_option Elab.async false
set_option linter.all false
set_option maxRecDepth 100000
set_option maxHeartbeats 2000000
namespace Hm
open PySem PySem.Spec L2 PyProof.Rows

/-! ### own exception classes over ValueError, LookupError, IndexError -/
/-- which built-in class stands below -/
inductive XB where
  | ve | le | ie
def XB.nm : XB → String
  | .ve => "ValueError"
  | .le => "LookupError"
  | .ie => "IndexError"
def XB.newId : XB → String
  | .ve => "ValueError.__new__"
  | .le => "LookupError.__new__"
  | .ie => "IndexError.__new__"
def XB.iniId : XB → String
  | .ve => "ValueError.__init__"
  | .le => "LookupError.__init__"
  | .ie => "IndexError.__init__"
def XB.mro : XB → List Value
  | .ve => [.type "ValueError", .type "Exception", .type "BaseException", .type "object"]
  | .le => [.type "LookupError", .type "Exception", .type "BaseException", .type "object"]
  | .ie => [.type "IndexError", .type "LookupError", .type "Exception", .type "BaseException", .type "object"]
theorem XB.base : ∀ b : XB, ExcBaseFacts b.nm b.newId b.iniId b.mro
  | .ve => F.excBase_ValueError
  | .le => F.excBase_LookupError
  | .ie => F.excBase_IndexError
theorem XB.store : ∀ b : XB, StoreFacts b.nm b.mro "object.__setattr__" "object"
  | .ve => F.store_ValueError
  | .le => F.store_LookupError
  | .ie => F.store_IndexError
/-- what the written part says of such a class -/
structure OxC (K : PySem.W.Frag) (b : XB) (C : Addr) : Prop where
  ini : PySem.W.excInitIn K C b.mro b.newId = true
  ovr : PySem.W.excOver K C b.mro = true
  sa : PySem.W.findIn K (.ref C) "__setattr__" = some (some (.builtin "object.__setattr__"))
  kC : PySem.W.keepIn K (.ref C) = true
  tyC : PySem.W.typeIn K (.ref C) = some (.type "type")
  xf : XfC K C
def oxB (K : PySem.W.Frag) (b : XB) (C : Addr) : Bool := PySem.W.excInitIn K C b.mro b.newId && (PySem.W.excOver K C b.mro && (decide (PySem.W.findIn K (.ref C) "__setattr__" = some (some (.builtin "object.__setattr__"))) &&
  (PySem.W.keepIn K (.ref C) && (decide (PySem.W.typeIn K (.ref C) = some (.type "type")) && xfB K C))))
theorem oxB_ok {K : PySem.W.Frag} {b : XB} {C : Addr} (h : oxB K b C = true) : OxC K b C := by
  obtain ⟨h1, h⟩ := Bool.and_eq_true_iff.mp h
  obtain ⟨h2, h⟩ := Bool.and_eq_true_iff.mp h
  obtain ⟨h3, h⟩ := Bool.and_eq_true_iff.mp h
  obtain ⟨h4, h⟩ := Bool.and_eq_true_iff.mp h
  obtain ⟨h5, h6⟩ := Bool.and_eq_true_iff.mp h
  exact ⟨h1, h2, of_decide_eq_true h3, h4, of_decide_eq_true h5, xfB_ok h6⟩

section
variable {X : Cx} {pins : List (Addr × Obj)} {σ : L2.St} {H : Hp} {s : Shared} {a C dx : Addr} {f : Str} {y : V} {u : Value} {fs : List (Str × V)} {Q : Unit → Shared → Prop} {E : Value → Shared → Prop} {A : Around} {b : XB}
/-- self.f = y on a new exception: its dict is made -/
theorem ox_new (T : OxC X.K b C) (I : Inv X pins σ H s) (e : H a = some (exo a C none)) (hno : PySem.W.takerIn X.K C f = some none) (ry : RelV y u)
    (h : ∀ dx s', H dx = none → dx ≠ a → Inv X pins σ (upd (upd H dx (exd dx [(f, y)])) a (exo a C (some dx))) s' → Q () s') : wpAny (model X.prog X.w) A (setAttr (.ref a) f u) Q E s := by
  obtain ⟨t1, ho⟩ := exo_at I.hok e
  obtain ⟨hp, g, d, t, os⟩ := s
  obtain ⟨cd, hc, hd'⟩ := PySem.W.any_some T.xf.hdC
  have I0 := I.tok (t + 1)
  refine PySem.W.set_plain I.kIn (ox := { cls := .ref C, dict := none, data := .fields #[.ref t1, .none, .none, .none, .bool false, .none] }) (od := none) ⟨ho, rfl, rfl, trivial⟩ T.sa ?_
  refine PySem.W.osa_openX (od := none) b.store I.kIn ⟨ho, rfl, rfl, trivial⟩ T.ovr hno fun bb => ?_
  dsimp only
  refine wpAny_bind (wpAny_pure (wpAny_bind (PySem.W.instanceDict_exc ho (PySem.W.looks_clsIn I.kIn hc) hd' ?_)))
  show wpAny _ _ (Builtin.ObjectAttr.storeInDict hp.objs.size (.str f _) f u) _ _ _
  have lt := Heap.lt_size ho
  have hnd : H hp.objs.size = none := I.hok.fresh (Nat.le_refl _)
  have nda : hp.objs.size ≠ a := (Nat.ne_of_lt lt).symm
  have g1 : ∀ c o, hp.get? c = some o → (hp.push (PySem.W.dictOf [] 0)).get? c = some o := fun c o q => Heap.get?_push_of_some _ q
  have emp : (hp.push (PySem.W.dictOf [] 0)).Ns hp.objs.size (fun _ => none) := ⟨_, #[], _, Heap.get?_push_at rfl rfl, rfl, fun e he => absurd he (by simp), fun _ => rfl⟩
  have J1 : Inv X pins σ (upd H hp.objs.size (exd hp.objs.size [])) ⟨hp.push (PySem.W.dictOf [] 0), g, d, t, os⟩ :=
    I.laid (t' := t) (o := exd hp.objs.size []) g1 (Nat.le_refl _) (exd_ok (Heap.Ns1.of_empty emp) fun _ => trivial)
  have hup : ((hp.push (PySem.W.dictOf [] 0)).update a fun o => { o with dict := some hp.objs.size }).get? a = some ({ cls := .ref C, dict := some hp.objs.size, data := .fields #[.ref t1, .none, .none, .none, .bool false, .none] } : Obj) := Heap.get?_update_self _ (g1 _ _ ho) rfl
  have kup : ∀ c o, c ≠ a → (hp.push (PySem.W.dictOf [] 0)).get? c = some o → ((hp.push (PySem.W.dictOf [] 0)).update a fun o => { o with dict := some hp.objs.size }).get? c = some o := fun c o hn q => (Heap.get?_update_ne _ _ _ _ hn).trans q
  have J2 := J1.write (t' := t) (x := a) (e := a) (o := exo a C (some hp.objs.size)) (by rw [upd_ne nda.symm, e]; exact True.intro) (.inl rfl) kup ⟨_, hup⟩ (exo_ok hup)
  have emp2 : ((hp.push (PySem.W.dictOf [] 0)).update a fun o => { o with dict := some hp.objs.size }).Ns hp.objs.size (fun _ => none) := ⟨_, #[], _, kup _ _ nda (Heap.get?_push_at rfl rfl), rfl, fun e he => absurd he (by simp), fun _ => rfl⟩
  refine PySem.HandSPX.store_in_new emp2 fun h' tk' hn hs => ?_
  refine h hp.objs.size _ hnd nda ?_
  have hd : ∃ o, h'.get? hp.objs.size = some o := by
    obtain ⟨o, _, _, q, _⟩ := hn
    exact ⟨o, q⟩
  have J3 := J2.write (t' := tk') (x := hp.objs.size) (e := hp.objs.size) (o := exd hp.objs.size [(f, y)]) (by rw [upd_ne nda, upd_same]; exact True.intro) (.inl rfl) (fun c o hc q => (hs.2 c hc).trans q) hd (exd_ok hn (relO_put (fs := []) ry fun _ => trivial))
  have eh : upd (upd (upd H hp.objs.size (exd hp.objs.size [])) a (exo a C (some hp.objs.size))) hp.objs.size (exd hp.objs.size [(f, y)]) = upd (upd H hp.objs.size (exd hp.objs.size [(f, y)])) a (exo a C (some hp.objs.size)) := by
    funext c
    by_cases h1 : c = hp.objs.size
    · rw [h1, upd_same, upd_ne nda, upd_same]
    · rw [upd_ne h1]
      by_cases h2 : c = a
      · rw [h2, upd_same, upd_same]
      · rw [upd_ne h2, upd_ne h2, upd_ne h1, upd_ne h1]
  rw [eh] at J3
  exact J3
/-- .. on one that has its dict -/
theorem ox_old (T : OxC X.K b C) (I : Inv X pins σ H s) (e : H a = some (exo a C (some dx))) (ed : H dx = some (exd dx fs)) (hl : fs.length ≤ 900) (hno : PySem.W.takerIn X.K C f = some none) (ry : RelV y u)
    (h : ∀ s', Inv X pins σ (upd H dx (exd dx ((f, y) :: fs))) s' → Q () s') : wpAny (model X.prog X.w) A (setAttr (.ref a) f u) Q E s := by
  obtain ⟨t1, ho⟩ := exo_at I.hok e
  obtain ⟨mA, hns, rel⟩ := exd_at I.hok ed
  have hw := within_of rel
  obtain ⟨hp, g, d, t, os⟩ := s
  obtain ⟨cd, hc, hd'⟩ := PySem.W.any_some T.xf.hdC
  obtain ⟨oD, _, _, hoD, _, _⟩ := hns.count hw
  refine PySem.W.set_plain I.kIn (ox := { cls := .ref C, dict := some dx, data := .fields #[.ref t1, .none, .none, .none, .bool false, .none] }) (od := some oD) ⟨ho, rfl, rfl, hoD⟩ T.sa ?_
  refine PySem.W.osa_openX (od := some oD) b.store I.kIn ⟨ho, rfl, rfl, hoD⟩ T.ovr hno fun bb => ?_
  dsimp only
  refine wpAny_bind (wpAny_pure (wpAny_bind (wpAny_bind (wpAny_loadPart ho (wpAny_bind ((PySem.W.looks_clsIn I.kIn hc).at ?_))))))
  rw [hd']
  refine wpAny_pure (a := some dx) ?_
  refine PySem.OEX.store_in_old hns hw (by rw [List.length_map]; omega) fun h' tk' hn hs => ?_
  have hd : ∃ o, h'.get? dx = some o := by
    obtain ⟨o, _, _, q, _⟩ := hn
    exact ⟨o, q⟩
  exact h _ (I.write (t' := tk') (x := dx) (e := dx) (o := exd dx ((f, y) :: fs)) (by rw [ed]; exact True.intro) (.inl rfl) (fun c o hc q => (hs.2 c hc).trans q) hd (exd_ok hn (relO_put ry rel)))
end
/-- self.f = e -/
def tOx (K : PySem.W.Frag) (f : Str) (to te : TE) : TS := fun D σ H => te σ H fun y H1 => to σ H1 fun x H2 => ∃ (b : XB) (a C : Addr), x = .ref a ∧ OxC K b C ∧ PySem.W.takerIn K C f = some none ∧
  ((H2 a = some (exo a C none) ∧ ∀ dx, H2 dx = none → dx ≠ a → D.nx σ (upd (upd H2 dx (exd dx [(f, y)])) a (exo a C (some dx)))) ∨
    ∃ (dx : Addr) (fs : List (Str × V)), H2 a = some (exo a C (some dx)) ∧ H2 dx = some (exd dx fs) ∧ fs.length ≤ 900 ∧ D.nx σ (upd H2 dx (exd dx ((f, y) :: fs))))
theorem ps_ox {X : Cx} {o e : Expr} {to te : TE} {f : Str} {p' pos : Pos} (ho : PE X o to) (he : PE X e te) (hs : swapsWith e (some (.Attribute o f p')) pos.line X.env = pure false) : PS X (.Assign [.Attribute o f p'] e pos) (tOx X.K f to te) := by
  refine ⟨fun pins s σ H D I h => ?_⟩
  refine plainObj_wpAny_Assign_Attribute (thn (he.run pins s σ H _ I h) fun v s1 ⟨y, H1, I1, r1, q1⟩ => thn (ho.run pins s1 σ H1 _ I1 q1) fun u s2 ⟨x, H2, I2, r2, b, a, C, ex, T, hno, q⟩ => ?_) hs
  subst ex
  obtain rfl : u = Value.ref a := r2
  rcases q with ⟨ea, q⟩ | ⟨dx, fs, ea, ed, hl, q⟩
  · exact ox_new T I2 ea hno r1 fun dx s' n ne J => ⟨σ, _, J, q dx n ne⟩
  · exact ox_old T I2 ea ed hl hno r1 fun s' J => ⟨σ, _, J, q⟩

/-! ### __init__: self.f = a parameter, a text -/
inductive Sc1 where
  | arg (i : Nat) | txt (z : Str)
def Sc1.v (vs : List V) : Sc1 → V
  | .arg i => vs.getD i .non
  | .txt z => .str z
def Sc1.d (ds : List D) : Sc1 → D
  | .arg i => ds.getD i .non
  | .txt z => .str z
abbrev Fs := List (Str × Sc1)
/-- the fields, the last one first -/
def fsV (l : Fs) (vs : List V) (acc : List (Str × V)) : List (Str × V) := l.foldl (fun r p => (p.1, p.2.v vs) :: r) acc
def fsD (l : Fs) (ds : List D) (acc : List (Str × D)) : List (Str × D) := l.foldl (fun r p => (p.1, p.2.d ds) :: r) acc
theorem rep_getD {K : PySem.W.Frag} {F : Hp} {R : List Addr} {ds : List D} {vs : List V} (r : Reps K F R ds vs) (i : Nat) : Rep K F R (ds.getD i .non) (vs.getD i .non) := by
  rw [List.getD_eq_getElem?_getD, List.getD_eq_getElem?_getD]
  cases e : ds[i]? with
  | none =>
    have : vs[i]? = none := by
      rw [List.getElem?_eq_none_iff] at e ⊢
      rw [← r.length]; exact e
    rw [this]; exact .non
  | some d =>
    obtain ⟨v, hv, rv⟩ := r.getD e
    rw [hv]; exact rv
theorem fs_rep {K : PySem.W.Frag} {F : Hp} {R : List Addr} {ds : List D} {vs : List V} (r : Reps K F R ds vs) : ∀ (l : Fs) {ad : List (Str × D)} {av : List (Str × V)}, RepF K F R ad av → RepF K F R (fsD l ds ad) (fsV l vs av)
  | [], _, _, h => h
  | (f, .arg i) :: l, _, _, h => fs_rep r l (.cons (rep_getD r i) h)
  | (f, .txt z) :: l, _, _, h => fs_rep r l (.cons (.str z) h)
inductive IniB (N : List Str) (sc : Scope) : List Stmt → Fs → Prop
  | nil : IniB N sc [] []
  | arg {f x : Str} {i : Nat} {p1 p2 p3 pos : Pos} {rest : List Stmt} {l : Fs} (hN : N[i + 1]? = some x) (hv : Vis sc x) (hd : (x == ("__debug__" : Str)) = false) (hcd : (x == ("__classdict__" : Str)) = false)
      (hs : ∀ env, swapsWith (.Name x p3) (some (.Attribute (.Name "self" p1) f p2)) pos.line env = pure false) (t : IniB N sc rest l) :
      IniB N sc (.Assign [.Attribute (.Name "self" p1) f p2] (.Name x p3) pos :: rest) ((f, .arg i) :: l)
  | txt {f z : Str} {j : Nat} {p1 p2 p3 pos : Pos} {rest : List Stmt} {l : Fs} (hs : ∀ env, swapsWith (.Constant (.str z) j p3) (some (.Attribute (.Name "self" p1) f p2)) pos.line env = pure false) (t : IniB N sc rest l) :
      IniB N sc (.Assign [.Attribute (.Name "self" p1) f p2] (.Constant (.str z) j p3) pos :: rest) ((f, .txt z) :: l)
/-- the state of an exception that is being made: how far it is -/
def XSt (H0 H : Hp) (a C : Addr) : List (Str × V) → Prop
  | [] => H = upd H0 a (exo a C none)
  | fs => ∃ dx, H0 dx = none ∧ dx ≠ a ∧ H = upd (upd H0 dx (exd dx fs)) a (exo a C (some dx))
theorem ini_walk {X : Cx} {K : PySem.W.Frag} {b : XB} {C : Addr} {N : List Str} {sc : Scope} (hK : X.K = K) (hN : X.N = N) (hsc : X.env.scope = sc) (T : OxC K b C) (h0 : N[0]? = some ("self" : Str)) (hv0 : Vis sc "self") :
    ∀ {body : List Stmt} {l : Fs}, IniB N sc body l → (∀ p ∈ l, PySem.W.takerIn K C p.1 = some none) → ∃ t, PSs X body t ∧ ∀ (D : Ends) (σ : L2.St) (H0 H : Hp) (a : Addr) (vs : List V) (fs : List (Str × V)), H0 a = none → σ[0]? = some (some (.ref a)) →
      (∀ i v, vs[i]? = some v → σ[i + 1]? = some (some v)) → (∀ p ∈ l, ∀ i, p.2 = .arg i → i < vs.length) → fs.length + l.length ≤ 900 → XSt H0 H a C fs → (∀ H', XSt H0 H' a C (fsV l vs fs) → D.nx σ H') → t D σ H := by
  subst hK hN hsc
  have pself : ∀ p1, PE X (.Name "self" p1) (tVar 0) := fun p1 => pe_var (i := 0) h0 hv0 (by decide) (by decide)
  intro body l hb
  induction hb with
  | nil =>
    intro _
    refine ⟨_, pss_nil, fun D σ H0 H a vs fs _ _ _ _ _ hx hq => ?_⟩
    exact hq H hx
  | @arg f x i p1 p2 p3 pos rest l hN hv hd hcd hs t ih =>
    intro ht
    obtain ⟨t2, ps2, r2⟩ := ih fun p hp => ht p (List.mem_cons_of_mem _ hp)
    refine ⟨_, pss_cons (ps_ox (pself p1) (pe_var (i := i + 1) hN hv hd hcd) (hs _)) ps2, fun D σ H0 H a vs fs ha hself hvs hlt hlen hx hq => ?_⟩
    have hi : i < vs.length := hlt _ List.mem_cons_self i rfl
    have e1 : vs.getD i .non = vs[i] := by rw [List.getD_eq_getElem?_getD, List.getElem?_eq_getElem hi]; rfl
    refine ⟨vs[i], hvs i _ (List.getElem?_eq_getElem hi), .ref a, hself, b, a, C, rfl, T, ht _ List.mem_cons_self, ?_⟩
    rw [List.length_cons] at hlen
    have go : ∀ H', XSt H0 H' a C ((f, vs[i]) :: fs) → t2 D σ H' := fun H' hx' => r2 D σ H0 H' a vs _ ha hself hvs (fun p hp => hlt p (List.mem_cons_of_mem _ hp)) (by rw [List.length_cons]; omega) hx' fun H2 h2 => hq H2 (by unfold fsV at h2 ⊢; rw [List.foldl_cons]; dsimp only [Sc1.v]; rw [e1]; exact h2)
    cases fs with
    | nil =>
      subst hx
      exact .inl ⟨upd_same, fun dx n ne => go _ ⟨dx, by rw [upd_ne ne] at n; exact n, ne, by
        funext c
        by_cases h1 : c = a
        · rw [h1, upd_same, upd_same]
        · rw [upd_ne h1, upd_ne h1]
          by_cases h2 : c = dx
          · rw [h2, upd_same, upd_same]
          · rw [upd_ne h2, upd_ne h2, upd_ne h1]⟩⟩
    | cons p fs =>
      obtain ⟨dx, n, ne, rfl⟩ := hx
      refine .inr ⟨dx, _, upd_same, by rw [upd_ne ne, upd_same], by omega, go _ ⟨dx, n, ne, ?_⟩⟩
      funext c
      by_cases h1 : c = dx
      · rw [h1, upd_same, upd_ne ne, upd_same]
      · rw [upd_ne h1]
        by_cases h2 : c = a
        · rw [h2, upd_same, upd_same]
        · rw [upd_ne h2, upd_ne h2, upd_ne h1, upd_ne h1]
  | @txt f z j p1 p2 p3 pos rest l hs t ih =>
    intro ht
    obtain ⟨t2, ps2, r2⟩ := ih fun p hp => ht p (List.mem_cons_of_mem _ hp)
    refine ⟨_, pss_cons (ps_ox (pself p1) pe_str (hs _)) ps2, fun D σ H0 H a vs fs ha hself hvs hlt hlen hx hq => ?_⟩
    refine ⟨.ref a, hself, b, a, C, rfl, T, ht _ List.mem_cons_self, ?_⟩
    rw [List.length_cons] at hlen
    have go : ∀ H', XSt H0 H' a C ((f, .str z) :: fs) → t2 D σ H' := fun H' hx' => r2 D σ H0 H' a vs _ ha hself hvs (fun p hp => hlt p (List.mem_cons_of_mem _ hp)) (by rw [List.length_cons]; omega) hx' fun H2 h2 => hq H2 h2
    cases fs with
    | nil =>
      subst hx
      exact .inl ⟨upd_same, fun dx n ne => go _ ⟨dx, by rw [upd_ne ne] at n; exact n, ne, by
        funext c
        by_cases h1 : c = a
        · rw [h1, upd_same, upd_same]
        · rw [upd_ne h1, upd_ne h1]
          by_cases h2 : c = dx
          · rw [h2, upd_same, upd_same]
          · rw [upd_ne h2, upd_ne h2, upd_ne h1]⟩⟩
    | cons p fs =>
      obtain ⟨dx, n, ne, rfl⟩ := hx
      refine .inr ⟨dx, _, upd_same, by rw [upd_ne ne, upd_same], by omega, go _ ⟨dx, n, ne, ?_⟩⟩
      funext c
      by_cases h1 : c = dx
      · rw [h1, upd_same, upd_ne ne, upd_same]
      · rw [upd_ne h1]
        by_cases h2 : c = a
        · rw [h2, upd_same, upd_same]
        · rw [upd_ne h2, upd_ne h2, upd_ne h1, upd_ne h1]
/-- __init__'s promise -/
def spIni (C : Addr) (l : Fs) (n : Nat) : Sp := fun vs H Q _ => vs.length = n ∧ ∃ (H0 : Hp) (a : Addr) (ws : List V), vs = .ref a :: ws ∧ H0 a = none ∧ H = upd H0 a (exo a C none) ∧ ∀ (dx : Addr) , H0 dx = none → dx ≠ a → Q .non (upd (upd H0 dx (exd dx (fsV l ws []))) a (exo a C (some dx)))
theorem fn_ini {P : Program} {w : World} {K : PySem.W.Frag} {mg : Str → Option Value} {base : Heap} {b : XB} {C f : Addr} {x qual : Str} {params : Arguments} {body : List Stmt} {sc : Scope} {dvs : List V} {fd : FuncData} {N ps : List Str} {l : Fs}
    (Fn : FunD K x qual params body sc dvs [] f fd) (Sc : FnScope N ps sc) (T : OxC K b C) (hI : IniB N sc body l) (ht : ∀ p ∈ l, PySem.W.takerIn K C p.1 = some none) (hne : l ≠ []) (hlt : ∀ p ∈ l, ∀ i, p.2 = .arg i → i + 1 < ps.length) (hlen : l.length ≤ 900) (h0 : N[0]? = some ("self" : Str)) (hv0 : Vis sc "self") :
    FnOk P w K mg base (L2.CX P w) 1 f fd ps (spIni C l ps.length) := by
  refine Fn.ok Sc (fun vs H Q E h => h.1) fun cdv A outer s H vs Q E hr h => ?_
  obtain ⟨hn, H0, a, ws, rfl, ha, rfl, q⟩ := h
  obtain ⟨t, pst, r⟩ := ini_walk (X := cxOf (L2.CX P w) P w K mg base N qual sc f cdv A outer s (upd H0 a (exo a C none)) E) rfl rfl rfl T h0 hv0 hI ht
  have st : ∀ i v, (V.ref a :: ws)[i]? = some v → (start N (V.ref a :: ws))[i]? = some (some v) := fun i v hv => by
    unfold L2.start
    rw [List.getElem?_append_left (by rw [List.length_map]; exact (List.getElem?_eq_some_iff.mp hv).1), List.getElem?_map, hv]
    rfl
  refine ⟨t, pst, r _ _ H0 _ a ws [] ha (st 0 _ rfl) (fun i v hv => st (i + 1) v hv) (fun p hp i e => by have z := hlt p hp i e; rw [List.length_cons] at hn; omega) (by simpa using hlen) rfl fun H' hx => ?_⟩
  have ne : fsV l ws [] ≠ [] := by
    have key : ∀ (l : Fs) (acc : List (Str × V)), acc ≠ [] → fsV l ws acc ≠ [] := by
      intro l
      induction l with
      | nil => intro acc h; exact h
      | cons p l ih => intro acc h; exact ih _ (List.cons_ne_nil _ _)
    cases l with
    | nil => exact (hne rfl).elim
    | cons p l => exact key l _ (List.cons_ne_nil _ _)
  obtain ⟨p, r', e⟩ := List.exists_cons_of_ne_nil ne
  rw [e] at hx
  obtain ⟨dx, n, nx, rfl⟩ := hx
  rw [← e]
  exact q dx n nx

/-! ### C(e, ..) -/
/-- the class x may be called with n arguments: l what its fields become of (self, the arguments, the defaults) -/
structure XMk (G : Gs) (x : Str) (n : Nat) (dfl : List D) (l : Fs) : Prop where
  mg : G.mg x = some (.ref (He.ga G.K x))
  ex : ∃ (b : XB) (fI : Addr) (fd : FuncData) (ps : List Str) (ds : List Value) (dvs : List V), OxC G.K b (He.ga G.K x) ∧ PySem.W.findIn G.K (.ref (He.ga G.K x)) "__init__" = some (some (.ref fI)) ∧ PySem.W.typeIn G.K (.ref fI) = some (.type "function") ∧
    FnOk G.P G.w G.K G.mg G.base (L2.CX G.P G.w) 1 fI fd ps (spIni (He.ga G.K x) l ps.length) ∧ Binds G.K fd ps ds ∧ Vals dvs ds ∧ (∀ F R, Reps G.K F R dfl dvs) ∧ 1 + n + dvs.length = ps.length
/-- what is told of C(e, ..) -/
def tMkX (C : Addr) (l : Fs) (n : Nat) (dvs : List V) (vs : List V) (H : Hp) (Q : XK) : Prop := vs.length = n ∧ n ≤ 1000 ∧ ∀ a dx, H a = none → H dx = none → dx ≠ a → Q (.ref C) (some dx) (upd H dx (.xd (fsV l (vs ++ dvs) [])))
section
variable {X : Cx} {G : Gs} {k : Nat} {N : List Str} {sc : Scope} {pins : List (Addr × Obj)} {σ : L2.St} {H1 : Hp} {s1 : Shared} {x : Str} {n : Nat} {dfl : List D} {l : Fs}
theorem noPass {CX : CXT} (h : CX = L2.CX X.prog X.w) : Passes CX X (fun _ _ _ => False) := fun _ _ _ _ _ _ _ q => by
  subst h
  obtain ⟨_, _, _, _, _, _, _, _, _, _, _, _, z⟩ := q
  exact z.elim
theorem mk_call {C fI : Addr} {b : XB} {j : Nat} {fd : FuncData} {ps : List Str} {ds : List Value} {dvs vs : List V} {us : List Value} {Q : XK} (T : OxC X.K b C) (iC : PySem.W.findIn X.K (.ref C) "__init__" = some (some (.ref fI))) (tI : PySem.W.typeIn X.K (.ref fI) = some (.type "function"))
    (F1 : FnOk X.prog X.w X.K X.mg X.base (L2.CX X.prog X.w) j fI fd ps (spIni C l ps.length)) (hr : Room (j + 1) X.A) (hb : Binds X.K fd ps ds) (hd : Vals dvs ds) (hn : 1 + n + dvs.length = ps.length) (I1 : Inv X pins σ H1 s1) (r1 : Vals vs us) (q1 : tMkX C l n dvs vs H1 Q) :
    wpAny (model X.prog X.w) X.A (call (.ref C) us) (MkP X pins σ Q) X.xe s1 := by
  obtain ⟨hvn, hz, q1⟩ := q1
  obtain ⟨hp, g, dr, tk, os⟩ := s1
  have up1 : hp.objs.size ≤ hp.objs.size + 1 := Nat.le_succ _
  have hnew : H1 (hp.objs.size + 1) = none := I1.hok.fresh up1
  have grow : ∀ c o, hp.get? c = some o → ((hp.push (PySem.W.kdv_tup us)).push (PySem.HandSPX.excO C hp.objs.size)).get? c = some o := fun c o e => Heap.get?_push_of_some _ (Heap.get?_push_of_some _ e)
  have at1 : ((hp.push (PySem.W.kdv_tup us)).push (PySem.HandSPX.excO C hp.objs.size)).get? (hp.objs.size + 1) = some (PySem.HandSPX.excO C hp.objs.size) := by heap_get
  have J : Inv X pins σ (upd H1 (hp.objs.size + 1) (exo (hp.objs.size + 1) C none)) ⟨(hp.push (PySem.W.kdv_tup us)).push (PySem.HandSPX.excO C hp.objs.size), g, dr, tk, os⟩ := I1.laid (t' := tk) grow up1 (exo_ok at1)
  have rv : Vals (V.ref (hp.objs.size + 1) :: (vs ++ dvs)) (Value.ref (hp.objs.size + 1) :: (us ++ ds)) := .cons rfl (r1.append hd)
  have lv : (V.ref (hp.objs.size + 1) :: (vs ++ dvs)).length = ps.length := by rw [List.length_cons, List.length_append, hvn]; omega
  have lu : (Value.ref (hp.objs.size + 1) :: us ++ ds).length = ps.length := by rw [← lv]; exact rv.length.symm
  have small : us.length ≤ sizeLine := by
    rw [← Paired.length r1, sizeLine_eq]
    omega
  obtain ⟨nm, N', qn, bs, bm, hdct, sn, sub, ab, col, dd, k0, k1, k2, k3, k5, hC, hT⟩ := PySem.W.excInit_of I1.kIn T.ini
  refine wpAny_call (PySem.HandSPX.call_own b.base hT hC (PySem.W.looks_findIn I1.kIn iC) (fun self => PySem.W.bind_fn I1.kIn self tI) small ?_)
  refine codeAny_mono (F1.run _ X.stack _ _ ⟨Value.ref (hp.objs.size + 1) :: us, []⟩ (Value.ref (hp.objs.size + 1) :: (us ++ ds)) _
    (fun v H2 => v = .non ∧ ∃ (d : Addr) (fs : List (Str × V)), H2 (hp.objs.size + 1) = some (exo (hp.objs.size + 1) C (some d)) ∧ H2 d = some (exd d fs) ∧ H1 d = none ∧ Q (.ref C) (some d) (upd (del H2 (hp.objs.size + 1)) d (.xd fs))) (fun _ _ _ => False)
    (hr.make C us []) (J.env0.make C us []) (hb _ (Value.ref (hp.objs.size + 1) :: us) J.kIn lu) rv ?_) fun r s' hq => ?_
  · refine ⟨lv, H1, hp.objs.size + 1, vs ++ dvs, rfl, hnew, rfl, fun dx n1 n2 => ⟨rfl, dx, _, upd_same, by rw [upd_ne n2, upd_same], n1, ?_⟩⟩
    have eh : upd (del (upd (upd H1 dx (exd dx (fsV l (vs ++ dvs) []))) (hp.objs.size + 1) (exo (hp.objs.size + 1) C (some dx))) (hp.objs.size + 1)) dx (.xd (fsV l (vs ++ dvs) [])) = upd H1 dx (.xd (fsV l (vs ++ dvs) [])) := by
      funext c
      by_cases h1 : c = dx
      · rw [h1, upd_same, upd_same]
      · rw [upd_ne h1, upd_ne h1]
        by_cases h2 : c = hp.objs.size + 1
        · rw [h2, del_same, hnew]
        · rw [del_ne h2, upd_ne h2, upd_ne h1]
    rw [eh]
    exact q1 _ dx hnew n1 n2
  · cases r with
    | error er => exact noPass rfl pins σ _ _ er s' J hq
    | ok fl =>
      cases fl with
      | ret u =>
        obtain ⟨v, H2, os2, bare2, un2, hok2, rv2, ev, d, fs, ea, ed, hd1, q2⟩ := hq
        subst ev
        obtain ⟨h2, g2, d2, t2, os'⟩ := s'
        exact ⟨rv2, mk_end (raises_own T.xf.exC T.tyC) I1 up1 grow un2 hok2 os2 bare2 ea ed hd1 q2⟩
      | next => exact False.elim hq
      | brk => exact False.elim hq
      | cont => exact False.elim hq
end
end Hm
set_option Elab.async false
set_option linter.all false
set_option maxRecDepth 100000
set_option maxHeartbeats 2000000
namespace Hm
open PySem PySem.Spec L2 PyProof.Rows

section
variable {G : Gs} {k : Nat} {N : List Str} {sc : Scope} {x : Str} {n : Nat} {dfl : List D} {l : Fs} {e : Expr} {es : List Expr} {ms : M (List D)} {p pos pos2 : Pos}
theorem CtxE.xk {X : Cx} (c : CtxE G k N sc X) : X.K = G.K := c.cK
/-- C(e, ..) as what makes an exception -/
theorem pmk_x {X : Cx} {ta : TA} (c : CtxE G k N sc X) (mk : XMk G x n dfl l) (hj : 2 ≤ k) (ha : PA X (e :: es) ta) (hg : sc.names.lookup x = some .globalImplicit) (hdb : (x == ("__debug__" : Str)) = false)
    (he : ∀ env, starEach (e :: es) env = (false, eval e env) :: starEach es env) (hpl : ∀ env, (backTo pos (starEach es env)).any (·.1) = false) :
    ∃ dvs : List V, (∀ F R, Reps G.K F R dfl dvs) ∧ PMk X (.Call (.Name x p) (e :: es) [] pos) (fun σ H Q => ta σ H fun vs H1 => tMkX (He.ga G.K x) l n dvs vs H1 Q) := by
  obtain ⟨b, fI, fd, ps, ds, dvs, T, iC, tI, F1, hb, hd, hr, hn⟩ := mk.ex
  refine ⟨dvs, hr, fun pins s σ H Q I h => ?_⟩
  obtain ⟨q1, q2, q3, q4, q5⟩ := c
  have eK := q3
  refine wpAny_Call_Name_kw (ld_glob I (by rw [← ‹X.env.scope = sc›] at hg; exact hg) (by rw [q4]; exact mk.mg) ?_ hdb)
  refine PySem.W.callWith_K (h₀ := X.base) I.ok.mod.kin (by rw [eK]; exact T.kC) (thn (ha.run pos pins s σ H _ I h) fun us s1 ⟨vs, H1, I1, r1, q⟩ => ⟨I1.kIn, ?_⟩) (he _) (hpl _)
  exact mk_call (by rw [eK]; exact T) (by rw [eK]; exact iC) (by rw [eK]; exact tI) (by rw [q1, q2, eK, q4, q5]; exact F1) (Room.mono ‹Room k X.A› hj) (by rw [eK]; exact hb) hd hn I1 r1 q
theorem pmk_x0 {X : Cx} (c : CtxE G k N sc X) (mk : XMk G x n dfl l) (hj : 2 ≤ k) (hg : sc.names.lookup x = some .globalImplicit) (hdb : (x == ("__debug__" : Str)) = false) :
    ∃ dvs : List V, (∀ F R, Reps G.K F R dfl dvs) ∧ PMk X (.Call (.Name x p) [] [] pos) (fun σ H Q => tMkX (He.ga G.K x) l n dvs [] H Q) := by
  obtain ⟨b, fI, fd, ps, ds, dvs, T, iC, tI, F1, hb, hd, hr, hn⟩ := mk.ex
  refine ⟨dvs, hr, fun pins s σ H Q I h => ?_⟩
  obtain ⟨q1, q2, q3, q4, q5⟩ := c
  have eK := q3
  refine wpAny_Call_Name_kw (ld_glob I (by rw [← ‹X.env.scope = sc›] at hg; exact hg) (by rw [q4]; exact mk.mg) ?_ hdb)
  refine PySem.W.callWith_K0 I.kIn (by rw [eK]; exact T.kC) ?_
  exact mk_call (by rw [eK]; exact T) (by rw [eK]; exact iC) (by rw [eK]; exact tI) (by rw [q1, q2, eK, q4, q5]; exact F1) (Room.mono ‹Room k X.A› hj) (by rw [eK]; exact hb) hd hn I .nil h
/-- raise C(e, ..) -/
def raiseS (x : Str) (n : Nat) (dfl : List D) (l : Fs) (ms : M (List D)) : MS := withE ms fun ds E S => if ds.length = n ∧ n ≤ 1000 then .ex x (fsD l (ds ++ dfl) []) E S else .bad
theorem raise_go {En : Ent} {F : Hp} {R : List Addr} {E : Ev} {S : Store} {σ : L2.St} {H : Hp} {D : Ends} {W : WX} {ds : List Hm.D} {vs dvs : List V} (rel : Rel G.K En F R E S σ H) (rs : Reps G.K F R ds vs) (hr : ∀ F R, Reps G.K F R dfl dvs)
    (q : PostS G.K En F R D W (if ds.length = n ∧ n ≤ 1000 then RS.ex x (fsD l (ds ++ dfl) []) E S else .bad)) : tMkX (He.ga G.K x) l n dvs vs H fun cls d H' => W cls d σ H' := by
  split at q
  · rename_i hz
    refine ⟨by rw [← rs.length]; exact hz.1, hz.2, fun a dx _ h2 _ => ?_⟩
    exact q F R σ _ dx _ Le.refl (rel.laid h2) upd_same (fs_rep (rs.append (hr F R)) l .nil)
  · exact q.elim
theorem ds_raise (mk : XMk G x n dfl l) (ha : DA G k N sc (e :: es) ms) (hj : 2 ≤ k := by omega) (hg : sc.names.lookup x = some .globalImplicit := by rfl) (hdb : (x == ("__debug__" : Str)) = false := by decide)
    (he : ∀ env, starEach (e :: es) env = (false, eval e env) :: starEach es env := by intro _; rfl) (hpl : ∀ env, (backTo pos (starEach es env)).any (·.1) = false := by intro _; rfl) :
    DS G k N sc (.Raise (some (.Call (.Name x p) (e :: es) [] pos)) none pos2) (raiseS x n dfl l ms) :=
  ⟨fun X W c tk => by
    obtain ⟨dvs, hr, pm⟩ := pmk_x (p := p) (pos := pos) c.e mk hj (ha.run X W c.e tk) hg hdb he hpl
    refine ps_imp (ps_raise c.e.ccalm tk pm) fun D σ H h => ?_
    obtain ⟨En, F, R, E, S, rel, h⟩ := h
    exact withA_then rel h fun F1 R1 H1 ds vs S1 le rel1 rs q => raise_go rel1 rs hr q⟩
theorem ds_raise0 (mk : XMk G x n dfl l) (hj : 2 ≤ k := by omega) (hg : sc.names.lookup x = some .globalImplicit := by rfl) (hdb : (x == ("__debug__" : Str)) = false := by decide) :
    DS G k N sc (.Raise (some (.Call (.Name x p) [] [] pos)) none pos2) (raiseS x n dfl l mNil) :=
  ⟨fun X W c tk => by
    obtain ⟨dvs, hr, pm⟩ := pmk_x0 (p := p) (pos := pos) c.e mk hj hg hdb
    refine ps_imp (ps_raise c.e.ccalm tk pm) fun D σ H h => ?_
    obtain ⟨En, F, R, E, S, rel, h⟩ := h
    exact raise_go rel .nil hr h⟩

/-! ### C(e, ..).f -/
theorem pe_mkf {X : Cx} {f : Str} {t : L2.St → Hp → XK → Prop} (hm : PMk X e t) (hb : attributeBase e f X.env (eval e X.env) = eval e X.env) :
    PE X (.Attribute e f pos) (fun σ H Q => t σ H fun cls d H1 => ∃ (C dd : Addr) (fs : List (Str × V)) (v : V), cls = .ref C ∧ XfC X.K C ∧ PySem.W.findIn X.K (.ref C) f = some none ∧ d = some dd ∧ H1 dd = some (.xd fs) ∧ fs.lookup f = some v ∧ Q v H1) := by
  refine ⟨fun pins s σ H Q I h => ?_⟩
  refine attr_of hb (wpAny_mono (hm pins s σ H _ I h) (fun u s1 hu => ?_) fun _ _ z => z)
  obtain ⟨a, oe, vs, sI, H1, cls, d, rfl, J, kp, hne, ha, hz, hd, h1, na, os, ag, r, C, dd, fs, v, rfl, T, hno, rfl, hdd, lk, q⟩ := hu
  have hx : ObjOk X.prog X.w H1 sI.heap dd (.xd fs) := J.hok dd _ hdd
  obtain ⟨mA, hns, hr⟩ := hx
  obtain ⟨od, ho, hl⟩ := lookIn_ns hns
  obtain ⟨u, hu, ru⟩ := RelO.some_of (v := v) (o := mA f) (by rw [← lk]; exact hr f)
  have ia : PySem.W.InstAt s1.heap a oe C (some od) := ⟨ha, hz.1, by unfold PySem.W.notCls; rw [hd] <;> rfl, by rw [hz.2]; exact kp _ _ ho⟩
  have J2 : Inv X pins σ H1 s1 := by
    have z := J.call (ch := []) (h' := s1.heap) (g' := s1.gens) (t' := s1.toks) (d' := s1.drawn) (H' := H1) (Un.kept kp) (J.hok.kept kp) ag (fun _ z => nomatch z)
    obtain ⟨a1, a2, a3, a4, a5⟩ := s1
    have e5 : a5 = sI.os := os
    subst e5
    exact z
  exact HandSPX.exc_get J2.kIn ia T.ga T.gg T.exC (PySem.W.findObj_own T.hdC hno rfl (by rw [hl, hu])) (handed_of ru) ⟨v, H1, J2.tok _, ru, q⟩
def mMkF (n : Nat) (dfl : List D) (l : Fs) (f : Str) (ms : M (List D)) : M DV := bnd ms fun ds _ S => if ds.length = n ∧ n ≤ 1000 then (match (fsD l (ds ++ dfl) []).lookup f with
  | some d => fine d S
  | none => .bad) else .bad
theorem repF_lookup {K : PySem.W.Frag} {F : Hp} {R : List Addr} {f : Str} {d : D} : ∀ {ds : List (Str × D)} {vs : List (Str × V)}, RepF K F R ds vs → ds.lookup f = some d → ∃ v, vs.lookup f = some v ∧ Rep K F R d v
  | _, _, .nil, e => by cases e
  | _, _, .cons (k := g) r t, e => by
    rw [List.lookup_cons] at e ⊢
    cases h : f == g with
    | true => rw [h] at e; cases e; exact ⟨_, rfl, r⟩
    | false => rw [h] at e; exact repF_lookup t e
theorem mkf_go {f : Str} {En : Ent} {F : Hp} {R : List Addr} {E : Ev} {S : Store} {σ : L2.St} {H : Hp} {W : WX} {Q : VK} {ds : List Hm.D} {vs dvs : List V} (rel : Rel G.K En F R E S σ H) (rs : Reps G.K F R ds vs) (hr : ∀ F R, Reps G.K F R dfl dvs)
    (T : XfC G.K (He.ga G.K x)) (hno : PySem.W.findIn G.K (.ref (He.ga G.K x)) f = some none)
    (q : Post G.K En F R E σ W Q (if ds.length = n ∧ n ≤ 1000 then (match (fsD l (ds ++ dfl) []).lookup f with
  | some d => fine d S
  | none => .bad) else .bad)) : tMkX (He.ga G.K x) l n dvs vs H fun cls d H1 => ∃ (C dd : Addr) (fs : List (Str × V)) (v : V), cls = .ref C ∧ XfC G.K C ∧ PySem.W.findIn G.K (.ref C) f = some none ∧ d = some dd ∧ H1 dd = some (.xd fs) ∧ fs.lookup f = some v ∧ Q v H1 := by
  split at q
  · rename_i hz
    refine ⟨by rw [← rs.length]; exact hz.1, hz.2, fun a dx _ h2 _ => ?_⟩
    split at q
    · rename_i d e
      obtain ⟨v, hv, rv⟩ := repF_lookup (fs_rep (rs.append (hr F R)) l .nil) e
      exact ⟨_, dx, _, v, rfl, T, hno, rfl, upd_same, hv, q F R _ Le.refl (rel.laid h2) v rv⟩
    · exact q.elim
  · exact q.elim
theorem de_mkF {f : Str} {pa : Pos} (mk : XMk G x n dfl l) (hno : PySem.W.findIn G.K (.ref (He.ga G.K x)) f = some none) (ha : DA G k N sc (e :: es) ms) (hj : 2 ≤ k := by omega) (hg : sc.names.lookup x = some .globalImplicit := by rfl) (hdb : (x == ("__debug__" : Str)) = false := by decide)
    (he : ∀ env, starEach (e :: es) env = (false, eval e env) :: starEach es env := by intro _; rfl) (hpl : ∀ env, (backTo pos (starEach es env)).any (·.1) = false := by intro _; rfl)
    (hb : ∀ env, attributeBase (.Call (.Name x p) (e :: es) [] pos) f env (eval (.Call (.Name x p) (e :: es) [] pos) env) = eval (.Call (.Name x p) (e :: es) [] pos) env := by intro _; rfl) :
    DE G k N sc (.Attribute (.Call (.Name x p) (e :: es) [] pos) f pa) (mMkF n dfl l f ms) :=
  ⟨fun X W c tk => by
    obtain ⟨dvs, hr, pm⟩ := pmk_x (p := p) (pos := pos) c mk hj (ha.run X W c tk) hg hdb he hpl
    obtain ⟨b, _, _, _, _, _, T, _⟩ := mk.ex
    refine pe_imp (pe_mkf pm (hb _)) fun σ H Q h => ?_
    obtain ⟨En, F, R, E, S, rel, h⟩ := h
    rw [c.cK]
    exact tA_then rel h fun F1 R1 H1 ds vs S1 le rel1 rs q => mkf_go rel1 rs hr T.xf hno q⟩
theorem de_mkF0 {f : Str} {pa : Pos} (mk : XMk G x n dfl l) (hno : PySem.W.findIn G.K (.ref (He.ga G.K x)) f = some none) (hj : 2 ≤ k := by omega) (hg : sc.names.lookup x = some .globalImplicit := by rfl) (hdb : (x == ("__debug__" : Str)) = false := by decide)
    (hb : ∀ env, attributeBase (.Call (.Name x p) [] [] pos) f env (eval (.Call (.Name x p) [] [] pos) env) = eval (.Call (.Name x p) [] [] pos) env := by intro _; rfl) :
    DE G k N sc (.Attribute (.Call (.Name x p) [] [] pos) f pa) (mMkF n dfl l f mNil) :=
  ⟨fun X W c tk => by
    obtain ⟨dvs, hr, pm⟩ := pmk_x0 (p := p) (pos := pos) c mk hj hg hdb
    obtain ⟨b, _, _, _, _, _, T, _⟩ := mk.ex
    refine pe_imp (pe_mkf pm (hb _)) fun σ H Q h => ?_
    obtain ⟨En, F, R, E, S, rel, h⟩ := h
    rw [c.cK]
    exact mkf_go rel .nil hr T.xf hno h⟩
end

/-! ### try: .. except C as n: .. -/
/-- the classes of the program that may fly, what they are below, the fields that are read -/
structure XTab (G : Gs) (cs : List Str) (sub : Str → Str → Bool) (ks fs : List Str) : Prop where
  mg : ∀ k ∈ ks, G.mg k = some (.ref (He.ga G.K k))
  xf : ∀ c ∈ cs, XfC G.K (He.ga G.K c)
  no : ∀ c ∈ cs, ∀ f ∈ fs, PySem.W.findIn G.K (.ref (He.ga G.K c)) f = some none
  em : ∀ c ∈ cs, ∀ k ∈ ks, PySem.W.exmOne G.K (.ref (He.ga G.K c)) (.ref (He.ga G.K k)) = some (sub c k)
/-- a suite: c the exception's class, fs its fields -/
abbrev MH := Str → List (Str × D) → MS
def tH (K : PySem.W.Frag) (cs : List Str) (i : Nat) (m : MH) (a : Addr) (cls : Value) (d : Option Addr) : TS := fun D σ H => ∃ (En : Ent) (F : Hp) (R : List Addr) (E : Ev) (S : Store) (c : Str) (fs : List (Str × Hm.D)) (dd : Addr) (vfs : List (Str × V)),
  cls = .ref (He.ga K c) ∧ c ∈ cs ∧ d = some dd ∧ H dd = some (.xd vfs) ∧ RepF K F R fs vfs ∧ σ[i]? = some (some (.ref a)) ∧ Rel K En F R E S σ H ∧ PostS K En F R D noX (m c fs E S)
structure DH (G : Gs) (k : Nat) (N : List Str) (sc : Scope) (cs : List Str) (i : Nat) (suite : List Stmt) (m : MH) : Prop where
  run : ∀ (X : Cx), CtxS G k N sc X → ∀ (a : Addr) (oe : Obj) (cls : Value) (d : Option Addr) (pn : List (Addr × Obj)), Zc cls d oe → (∃ vs, oe.data = .fields vs) → PSs (X.suite a ((a, oe) :: pn)) suite (tH G.K cs i m a cls d)
def wipeS (i : Nat) : RS → RS
  | .nx E S => .nx (E.set i none) S
  | .bk E S => .bk (E.set i none) S
  | .ct E S => .ct (E.set i none) S
  | r => r
def tryS (cs : List Str) (sub : Str → Str → Bool) (k : Str) (i : Nat) (mb : MS) (mh : MH) : MS := fun E S => match mb E S with
  | .ex c fs E1 S1 => if c ∈ cs ∧ i < E1.length then (if sub c k = true then wipeS i (mh c fs (E1.set i none) S1) else .ex c fs E1 S1) else .bad
  | r => r
section
variable {K : PySem.W.Frag} {En : Ent} {F : Hp} {R : List Addr} {E : Ev} {S : Store} {σ : L2.St} {H : Hp} {D : Ends} {W : WX}
/-- a slot is let go -/
theorem Rel.unslot (r : Rel K En F R E S σ H) (i : Nat) (v : Option V) : Rel K En F R (E.set i none) S (σ.set i v) H := by
  have hj : ∀ {j : Nat} {x : DV}, (E.set i none)[j]? = some (some x) → j ≠ i ∧ E[j]? = some (some x) ∧ (σ.set i v)[j]? = σ[j]? := fun {j x} q => by
    by_cases h : j = i
    · subst h
      by_cases hl : j < E.length
      · rw [List.getElem?_set_self hl] at q; cases q
      · rw [List.getElem?_eq_none (by simpa using hl)] at q; cases q
    · rw [List.getElem?_set_ne (Ne.symm h)] at q
      exact ⟨h, q, List.getElem?_set_ne (Ne.symm h)⟩
  refine ⟨r.len, r.frz, r.nodup, r.cell, fun j x q => ?_, fun j1 j2 x y a q1 q2 o1 o2 s1 s2 => ?_, r.keep, r.nf, r.nr, by rw [List.length_set, List.length_set]; exact r.elen⟩
  · obtain ⟨_, h2, h3⟩ := hj q
    rw [h3]; exact r.slot j x h2
  · obtain ⟨_, h2, h3⟩ := hj q1
    obtain ⟨_, g2, g3⟩ := hj q2
    rw [h3] at s1
    rw [g3] at s2
    exact r.apart j1 j2 x y a h2 g2 o1 o2 s1 s2
theorem post_wipe {i : Nat} : ∀ {r : RS}, PostS K En F R D noX (wipeS i r) → PostS K En F R { nx := fun σ' H' => D.nx (σ'.set i none) H', rt := D.rt, bk := fun σ' H' => D.bk (σ'.set i none) H', ct := fun σ' H' => D.ct (σ'.set i none) H' } noX r
  | .nx E S, h => fun F1 R1 σ1 H1 le r => h F1 R1 _ H1 le (r.unslot i none)
  | .rt dv S, h => h
  | .bk E S, h => fun F1 R1 σ1 H1 le r => h F1 R1 _ H1 le (r.unslot i none)
  | .ct E S, h => fun F1 R1 σ1 H1 le r => h F1 R1 _ H1 le (r.unslot i none)
  | .ex c fs E S, h => h
  | .bad, h => h
end
section
variable {G : Gs} {k : Nat} {N : List Str} {sc : Scope} {cs ks fz : List Str} {sub : Str → Str → Bool} {x n : Str} {body suite : List Stmt} {b₀ : Stmt} {mb : MS} {mh : MH} {np pos' pos : Pos}
/-- except suites that let nothing out -/
def noEx : RS → Prop
  | .ex _ _ _ _ => False
  | _ => True
theorem post_noX {K : PySem.W.Frag} {En : Ent} {F : Hp} {R : List Addr} {D : Ends} {W : WX} : ∀ {r : RS}, noEx r → PostS K En F R D W r → PostS K En F R D noX r
  | .nx _ _, _, h => h
  | .rt _ _, _, h => h
  | .bk _ _, _, h => h
  | .ct _ _, _, h => h
  | .ex _ _ _ _, z, _ => z.elim
  | .bad, _, h => h
theorem noEx_wipe {i : Nat} : ∀ {r : RS}, noEx r → noEx (wipeS i r)
  | .nx _ _, _ => trivial
  | .rt _ _, _ => trivial
  | .bk _ _, _ => trivial
  | .ct _ _, _ => trivial
  | .ex _ _ _ _, z => z.elim
  | .bad, _ => trivial
theorem ds_tryAs (T : XTab G cs sub ks fz) (i : Nat) (hb : DSs G k N sc body mb) (hh : DH G k N sc cs i (b₀ :: suite) mh) (hno : ∀ c fs E S, noEx (mh c fs E S)) (hx : x ∈ ks := by simp) (hN : N[i]? = some n := by rfl) (hln : sc.names.lookup n = some .local := by rfl) (hg : sc.names.lookup x = some .globalImplicit := by rfl)
    (hdb : (x == ("__debug__" : Str)) = false := by decide) : DS G k N sc (.Try body [.ExceptHandler (some (.Name x np)) (some n) (b₀ :: suite) pos'] [] [] pos) (tryS cs sub x i mb mh) :=
  ⟨fun X W c tk => by
    have eK := c.e.cK
    refine ps_imp (ps_try_as (i := i) (tb := fun W => tS G.K mb W) c.stk c.fr (by rw [c.e.cN]; exact c.e.cnd) (by rw [c.e.cN]; exact hN) (by rw [← c.e.csc] at hln; exact hln) (c := .ref (He.ga G.K x)) ⟨gl_of c.e hg, hdb, .inl (by rw [c.e.cmg]; exact T.mg x hx)⟩ tk
      (fun W pn xe tk' ps => hb.run _ W ⟨⟨c.e.cP, c.e.cw, c.e.cK, c.e.cmg, c.e.cbase, c.e.cN, c.e.csc, c.e.cnd, c.e.ccalm, c.e.croom⟩, c.stk, c.fr, c.exn, c.cfn, ps⟩ tk')
      (fun a oe cls d pn hz hf => hh.run X c a oe cls d pn hz hf)) fun D σ H h => ?_
    obtain ⟨En, F, R, E, S, rel, h⟩ := h
    refine ⟨En, F, R, E, S, rel, ?_⟩
    unfold tryS at h
    cases q : mb E S with
    | nx E1 S1 => rw [q] at h; exact h
    | rt dv S1 => rw [q] at h; exact h
    | bk E1 S1 => rw [q] at h; exact h
    | ct E1 S1 => rw [q] at h; exact h
    | bad => rw [q] at h; exact h
    | ex cl fs E1 S1 =>
      rw [q] at h
      dsimp only at h
      split at h
      · rename_i hc
        intro F1 R1 σ1 H1 d vfs le r1 hd rf
        refine ⟨sub cl x, by rw [eK]; exact T.em cl hc.1 x hx, fun hy a na => ?_, fun hy => ?_⟩
        · rw [if_pos hy] at h
          have h2 := post_wipe (post_noX (noEx_wipe (hno _ _ _ _)) h)
          have hl : i < σ1.length := by rw [← r1.elen]; exact hc.2
          exact ⟨En, F1, R1, _, S1, cl, fs, d, vfs, rfl, hc.1, rfl, hd, rf, List.getElem?_set_self hl, r1.unslot i _, h2.mono le⟩
        · rw [if_neg (by rw [hy]; exact Bool.false_ne_true)] at h
          exact h F1 R1 σ1 H1 d vfs le r1 hd rf
      · exact h.elim⟩
/-- y = n.f in a suite -/
def fldH (j : Nat) (f : Str) : MH := fun _ fs E S => match fs.lookup f with
  | some d => .nx (E.set j (some (.val d))) S
  | none => .bad
theorem fldH_no {j : Nat} {f : Str} : ∀ c fs E S, noEx (fldH j f c fs E S) := fun c fs E S => by
  unfold fldH
  split <;> exact trivial
theorem dh_fld {y : Str} {p1 p2 p3 : Pos} {i : Nat} {f : Str} (T : XTab G cs sub ks fz) (j : Nat) (hf : f ∈ fz := by simp) (hN : N[j]? = some y := by rfl) (hx : Loc sc y := by first | exact .inl rfl | exact .inr rfl) (hNi : N[i]? = some n := by rfl)
    (hv : Vis sc n := by first | exact Or.inl rfl | exact Or.inr (Or.inl rfl) | exact Or.inr (Or.inr rfl)) (hd : (n == ("__debug__" : Str)) = false := by decide) (hcd : (n == ("__classdict__" : Str)) = false := by decide)
    (hs : ∀ env, swapsWith (.Attribute (.Name n p2) f p3) (some (.Name y p1)) pos.line env = pure false := by intro _; rfl) (hb : ∀ env, attributeBase (.Name n p2) f env (eval (.Name n p2) env) = eval (.Name n p2) env := by intro _; rfl) :
    DH G k N sc cs i [.Assign [.Name y p1] (.Attribute (.Name n p2) f p3) pos] (fldH j f) :=
  ⟨fun X c a oe cls d pn hz hfl => ⟨fun pins s σ H D I h => by
    obtain ⟨En, F, R, E, S, cl, fs, dd, vfs, rfl, hc, rfl, hd', rf, hσ, rel, q⟩ := h
    have eK := c.e.cK
    have T1 : XfC X.K (He.ga G.K cl) := by rw [eK]; exact T.xf cl hc
    have no : PySem.W.findIn X.K (.ref (He.ga G.K cl)) f = some none := by rw [eK]; exact T.no cl hc f hf
    unfold fldH at q
    split at q
    · rename_i z e
      obtain ⟨v, hv', rv⟩ := repF_lookup rf e
      have pv : PE (X.suite a ((a, oe) :: pn)) (.Name n p2) (tVar i) := pe_var (i := i) (by rw [← c.e.cN] at hNi; exact hNi) (by rw [← c.e.csc] at hv; exact hv) hd hcd
      have ps := ps_set (X := X.suite a ((a, oe) :: pn)) (i := j) (x := y) (pos' := p1) (pos := pos) (by rw [← c.e.cN] at *; exact c.e.cN ▸ c.e.cnd) (by rw [← c.e.cN] at hN; exact hN) (by rw [← c.e.csc] at hx; exact hx) (pe_xf (pos := p3) T1 no hz hfl pv (hb _)) (hs _) (.inl (c.cfn y))
      refine (pss_one ps).run pins s σ H D I ?_
      exact ⟨.ref a, hσ, rfl, rfl, dd, vfs, v, rfl, hd', hv', q F R _ H Le.refl (rel.store (dv := .val z) rv j)⟩
    · exact q.elim⟩⟩
end
end Hm
set_option Elab.async false
set_option linter.all false
set_option maxRecDepth 100000
set_option maxHeartbeats 2000000
namespace Hm
open PySem PySem.Spec L2 PyProof.Rows

/-! ### {k: v, ..} -/
def mergeD (kvs more : List (Key × D)) : List (Key × D) := more.foldl (fun acc kv => putD acc kv.1 kv.2) kvs
theorem repK_merge {K : PySem.W.Frag} {F : Hp} {R : List Addr} : ∀ {more : List (Key × D)} {ms : List (Key × V)} {kvs : List (Key × D)} {ks : List (Key × V)}, RepK K F R more ms → RepK K F R kvs ks → RepK K F R (mergeD kvs more) (mergeK ks ms)
  | _, _, _, _, .nil, h => h
  | _, _, kvs, ks, .cons (k := k) (d := d) (v := v) (ds := ds) (vs := vs) r t, h => (show RepK K F R (mergeD (putD kvs k d) ds) (mergeK (putK ks k v) vs) from repK_merge t (repK_put r h))
def pairsM : List (Key × M DV) → M (List (Key × D))
  | [] => fun _ S => .ok [] S
  | (k, m) :: r => bnd m fun x => bnd (pairsM r) fun xs _ S => .ok ((k, x.frz) :: xs) S
def mDct (ps : List (Key × M DV)) : M DV := fun E S => match pairsM ps (E.map valOnly) S with
  | .ok kvs S' => if kvs.length ≤ 15 then .ok (.od (mergeD [] kvs)) S' else .bad
  | _ => .bad
section
variable {G : Gs} {k : Nat} {N : List Str} {sc : Scope} {pos : Pos}
/-- the pairs' reading -/
def tPs (K : PySem.W.Frag) (ps : List (Key × M DV)) (W : WX) (σ : L2.St) (H : Hp) (Q : List (V × V) → Hp → Prop) : Prop := ∃ (En : Ent) (F : Hp) (R : List Addr) (E : Ev) (S : Store), Rel K En F R E S σ H ∧
  PostX K En F R E σ W (fun F' R' H' kvs _ => ∀ vks, RepK K F' R' kvs vks → Q (vks.map fun kv => (kV kv.1, kv.2)) H') (pairsM ps E S)
structure DPs (G : Gs) (k : Nat) (N : List Str) (sc : Scope) (pos : Pos) (keys : List (Option Expr)) (vals : List Expr) (ps : List (Key × M DV)) : Prop where
  run : ∀ (X : Cx) (W : WX), CtxE G k N sc X → Takes X W → ∃ trs, PPs X pos keys vals trs ∧ ∀ σ H Q, tPs G.K ps W σ H Q → tPairs trs σ H Q
theorem dps_nil : DPs G k N sc pos [] [] [] := ⟨fun X W c tk => ⟨[], pps_nil, fun σ H Q h => by
  obtain ⟨En, F, R, E, S, rel, h⟩ := h
  exact h F R H Le.refl rel [] .nil⟩⟩
theorem dps_txt {z : Str} {j : Nat} {p : Pos} {v : Expr} {m : M DV} {ks : List (Option Expr)} {vs : List Expr} {ps : List (Key × M DV)} (hv : DE G k N sc v m) (hr : DPs G k N sc pos ks vs ps) : DPs G k N sc pos (some (.Constant (.str z) j p) :: ks) (v :: vs) ((.inr z, m) :: ps) :=
  ⟨fun X W c tk => by
    obtain ⟨trs, pp, h⟩ := hr.run X W c tk
    refine ⟨_, pps_cons pe_str (hv.run X W c tk) pp, fun σ H Q q => ?_⟩
    obtain ⟨En, F, R, E, S, rel, q⟩ := q
    refine tD_then rel q fun F1 R1 H1 x v S1 le rel1 rp q1 => ?_
    refine h σ H1 _ ⟨En, F1, R1, E, S1, rel1, (post_bnd q1).imp fun F2 R2 H2 xs S2 le2 rel2 q2 vks rk => ?_⟩
    exact q2 F2 R2 H2 Le.refl rel2 ((.inr z, v) :: vks) (.cons (rp.mono le2 _ _) rk)⟩
theorem de_dct {keys : List (Option Expr)} {vals : List Expr} {ps : List (Key × M DV)} (h : DPs G k N sc pos keys vals ps) (hall : keys.all (·.isSome) = true := by rfl) (hl : keys.length = vals.length := by rfl) (h0 : keys ≠ [] := by intro z; cases z) (h15 : keys.length ≤ 15 := by decide) :
    DE G k N sc (.Dict keys vals pos) (mDct ps) :=
  ⟨fun X W c tk => by
    obtain ⟨trs, pp, hp⟩ := h.run X W c tk
    refine pe_imp (pe_disp pp hall hl h0 h15) fun σ H Q q => ?_
    obtain ⟨En, F, R, E, S, rel, q⟩ := q
    intro p new
    obtain ⟨n1, n2, n3, n4⟩ := rel.fresh new
    have rL := rel.laid (o := .dK []) new
    have rB := rL.block []
    refine hp _ _ _ ⟨_, F, R, _, S, rB, ?_⟩
    have ei : innerE [] E = E.map valOnly := rfl
    rw [ei]
    unfold mDct at q
    cases e : pairsM ps (E.map valOnly) S with
    | bad => rw [e] at q; exact q.elim
    | ex c fs S1 => rw [e] at q; exact q.elim
    | ok kvs S1 =>
      rw [e] at q
      dsimp only at q
      split at q
      · rename_i hz
        intro F1 R1 H1 le r1 vks rk
        have a1 : F1 p = none := r1.nf p _ upd_same n1
        have a2 : p ∉ R1 := fun m => n2 (r1.nr p _ upd_same m)
        have a0 : H1 p = some (.dK []) := r1.keep p _ upd_same a2 a1
        have r2 := rL.leave le r1
        refine ⟨a0, vks, rfl, by rw [← rk.length]; exact hz, ?_⟩
        exact q F1 R1 _ le (r2.poke a1 a2 n3 n4) (.ref p) ⟨p, rfl, ⟨_, upd_same, repK_merge rk .nil⟩, a1, a2, n3, n4⟩
      · exact q.elim⟩

/-! ### d.update({..}) -/
def rUpdate : V → List V → Hp → VK → Prop := fun x vs H Q => ∃ (d o : Addr) (kvs more : List (Key × V)), x = .ref d ∧ vs = [.ref o] ∧ d ≠ o ∧ H d = some (.dK kvs) ∧ H o = some (.dK more) ∧ kvs.length + more.length ≤ 1000 ∧ Q .non (upd H d (.dK (mergeK kvs more)))
theorem mt_update {X : Cx} : MtM X "dict.update" rUpdate := by
  intro pins s σ H x vs v us Q I rx rv h
  obtain ⟨d, o, kvs, more, rfl, rfl, ne, hd, ho, hz, q⟩ := h
  cases rx
  obtain ⟨u, rfl, ru⟩ := rv.one
  cases ru
  obtain ⟨z1, s1, vk, r1, d1⟩ := dk_of I.hok hd
  obtain ⟨z2, s2, vm, r2, d2⟩ := dk_of I.hok ho
  refine call_meetsIn PySem.F.slot_dict_update d1.typeIs PySem.F.entry_dict_update (PySem.F.args_dict_update_2 _ _) (meets_dict_update (mixKind X.prog X.w) d o ne s2)
    ⟨vk, vm, d1, d2, by rw [← r1.length, ← r2.length, sizeLine_eq]; omega, fun h' hm _ hs => ?_⟩
  have hl := length_mergeK more kvs
  have he : ∃ q, h'.get? d = some q := let ⟨q, _, _, hq, _⟩ := hm; ⟨q, hq⟩
  exact ⟨.non, _, d_write I (by rw [hd]; exact True.intro) hs he (dk_new (by rw [sizeLine_eq]; omega) s1 (r2.merge r1) hm), rfl, q⟩
def updS (mp : M Plc) (m : M DV) : MS := withE mp fun p E S => match plcK E S p with
  | none => .bad
  | some _ => withE m (fun dv E S => match dv, plcK E S p with
    | .od more, some kvs => if kvs.length + more.length ≤ 1000 then .nx (putE E (.od (mergeD kvs more)) p) (putS S (.dct (mergeD kvs more)) p) else .bad
    | _, _ => .bad) E S
theorem ds_update {o e : Expr} {mp : M Plc} {m : M DV} {apos cpos : Pos} (ho : DP G k N sc o mp) (he : DE G k N sc e m) (hs : ∀ env, swapsWith (.Call (.Attribute o "update" apos) [e] [] cpos) none pos.line env = pure false := by intro _; rfl)
    (hbase : ∀ env, attributeBase o "update" env (eval o env) = eval o env := by intro _; rfl) (hfew : ∀ env, ((backTo cpos (starEach [e] env)).all (fun x => !x.1) && (backToKw cpos (keywordEach [] env)).all (fun x => x.1.isSome)
      && decide ([e].length + ([] : List Keyword).length + (if ([] : List Keyword).isEmpty then 0 else 1) < 30)) = true := by intro _; rfl) (hline : (apos.endLine == cpos.line) = true := by rfl)
    (hst : ∀ env, starEach [e] env = (false, eval e env) :: starEach [] env := by intro _; rfl) (hpl : ∀ env, (backTo cpos (starEach [] env)).any (·.1) = false := by intro _; rfl) :
    DS G k N sc (.Expr (.Call (.Attribute o "update" apos) [e] [] cpos) pos) (updS mp m) :=
  ⟨fun X W c tk => ps_imp (ps_expr (pe_bm F.plainAttrs_dict F.slot_dict_update F.type_dict_update mt_update (ho.run X W c.e tk) (pa_cons (he.run X W c.e tk) pa_nil (hst _)) (hbase _) (hfew _) hline (hst _) (hpl _)) (hs _)) fun D σ H h => by
    obtain ⟨En, F, R, E, S, rel, h⟩ := h
    unfold tDrop tBM
    refine withP_then rel h fun F1 R1 H1 p a S1 le rel1 hp q => ?_
    cases e1 : plcK E S1 p with
    | none => rw [e1] at q; exact q.elim
    | some kvs0 =>
      rw [e1] at q
      dsimp only at q
      obtain ⟨vs0, h0, _⟩ := rel1.plcK hp e1
      refine ⟨.inr (.inr (.inl ⟨rfl, .inl ⟨_, h0⟩⟩)), ?_⟩
      refine withE_then rel1 q fun F2 R2 H2 dv v S2 le2 rel2 hv q2 => ?_
      cases dv with
      | val d => exact q2.elim
      | ol ds => exact q2.elim
      | od more =>
        obtain ⟨o, rfl, ⟨ms, hm, rm⟩, f1, f2, f3, f4⟩ := hv
        cases e2 : plcK E S2 p with
        | none => rw [e2] at q2; exact q2.elim
        | some kvs =>
          rw [e2] at q2
          dsimp only at q2
          have hp2 := hp.mono le2
          obtain ⟨vs2, h2, rs2, fin⟩ := rel2.plcK hp2 e2
          split at q2
          · rename_i hz
            refine ⟨a, o, vs2, ms, rfl, rfl, fun z => ?_, h2, hm, by rw [← rs2.length, ← rm.length]; exact hz, ?_⟩
            · subst z
              cases p with
              | sl i => exact f4 ⟨i, _, plcK_sl e2, rfl, hp2⟩
              | ce j => exact f2 (List.mem_of_getElem? hp2)
            · exact q2 F2 R2 σ _ Le.refl (fin _ _ (repK_merge rm rs2))
          · exact q2.elim⟩
end

/-! ### zip(a, b) of lists, tuples, texts -/
def ItP (g1 g2 : Hp → List V → Prop) : It :=
  ⟨fun i H => ∃ xs ys, g1 H xs ∧ g2 H ys ∧ i < xs.length ∧ i < ys.length, fun i H v H' => ∃ T x y, v = .ref T ∧ H T = none ∧ H' = upd H T (.tup [x, y]) ∧ (∀ xs, g1 H xs → xs[i]? = some x) ∧ ∀ ys, g2 H ys → ys[i]? = some y,
    fun i H => ∃ xs ys, g1 H xs ∧ g2 H ys ∧ i ≤ xs.length ∧ i ≤ ys.length ∧ (i = xs.length ∨ i = ys.length)⟩
theorem turn_zipP {P : Program} {w : World} {K : PySem.W.Frag} {elts : List Expr} {kk : Nat} {tpos : Pos} {z TI TO i1 i2 : Addr} {fp1 fp2 : List Addr} {g1 g2 : Hp → List V → Prop} {tn1 tn2 : Nat → Heap → Prop}
    (S : ZipSep2 z TI TO i1 i2 fp1 fp2) (A1 : Src P w K i1 fp1 g1 tn1) (A2 : Src P w K i2 fp2 g2 tn2) :
    Turn P w K (.Tuple elts kk tpos) (ItP g1 g2) [z, TI, TO, i1, i2] z (fun i h => IsZip h z TI TO .none ∧ IsTupOf2 h TI (.ref i1) (.ref i2) ∧ (∃ a b, IsTupOf2 h TO a b) ∧ tn1 i h ∧ tn2 i h) where
  mem := List.mem_cons_self
  obj := fun i h st b hb => by
    obtain ⟨hz, hTI, ⟨a, c, hTO⟩, s1, s2⟩ := st
    have e : b = z ∨ b = TI ∨ b = TO ∨ b = i1 ∨ b = i2 := by simpa using hb
    rcases e with rfl | rfl | rfl | rfl | rfl
    · exact ⟨_, hz, fun v q => nomatch q⟩
    · exact ⟨_, hTI, fun v q => nomatch q⟩
    · exact ⟨_, hTO, fun v q => nomatch q⟩
    · exact A1.there i h s1
    · exact A2.there i h s2
  keep := fun i h h' st k => by
    obtain ⟨hz, hTI, ⟨a, c, hTO⟩, s1, s2⟩ := st
    exact ⟨k z (by simp) _ hz, k TI (by simp) _ hTI, ⟨a, c, k TO (by simp) _ hTO⟩, A1.keep i h h' s1 fun o e => k i1 (by simp) o e, A2.keep i h h' s2 fun o e => k i2 (by simp) o e⟩
  item := by
    intro X hP hw hK hc i pins s σ H E I hf st hg
    subst hP hw hK
    obtain ⟨hz, hTI, ⟨a, c, hTO⟩, s1, s2⟩ := st
    obtain ⟨xs, ys, q1, q2, l1, l2⟩ := hg
    obtain ⟨P1, St1, D1, v1, u1, d1⟩ := A1.draws X pins s σ H xs rfl rfl rfl (I.ok.hd hc) I q1
    obtain ⟨P2, St2, D2, v2, u2, d2⟩ := A2.draws X pins s σ H ys rfl rfl rfl (I.ok.hd hc) I q2
    refine wpAny_pyNext_zipD2_item S D1 D2 hz hTI hTO (u1 i s1) (u2 i s2) l1 l2 fun x1 x2 h' tk p1 p2 z' t' n1 n2 new sz kp => ?_
    refine ⟨_, rfl, wpAny_letOwnedTupleGo_zip (s := { s with heap := h', toks := tk }) z' fun h2 z2 sb => ?_⟩
    obtain ⟨x, ex, rx⟩ := v1 i x1 p1
    obtain ⟨y, ey, ry⟩ := v2 i x2 p2
    have zl : z < s.heap.objs.size := Heap.lt_size hz
    have T2 : h2.get? s.heap.objs.size = some { cls := .type "tuple", data := .seq #[x1, x2] } := (sb.2 _ (Nat.ne_of_gt zl)).trans new
    have ob : ObjOk X.prog X.w (upd H s.heap.objs.size (.tup [x, y])) h2 s.heap.objs.size (.tup [x, y]) :=
      ⟨by show 2 ≤ sizeLine; decide, [x1, x2], .cons rx (.cons ry .nil), ⟨_, T2, rfl, _, rfl⟩⟩
    have lt : ∀ b ∈ [z, TI, TO, i1, i2], b < s.heap.objs.size := fun b hb => by
      have e : b = z ∨ b = TI ∨ b = TO ∨ b = i1 ∨ b = i2 := by simpa using hb
      rcases e with rfl | rfl | rfl | rfl | rfl
      · exact zl
      · exact Heap.lt_size hTI
      · exact Heap.lt_size hTO
      · obtain ⟨_, e, _⟩ := A1.there i _ s1; exact Heap.lt_size e
      · obtain ⟨_, e, _⟩ := A2.there i _ s2; exact Heap.lt_size e
    have I1 : Inv X pins σ (upd H s.heap.objs.size (.tup [x, y])) { s with heap := h2, toks := tk } :=
      I.turnedNew (ch := [z, TI, TO, i1, i2]) (fun b o hb e => (sb.2 b (fun q => hb (by simp [q]))).trans (kp b o (fun q => hb (by simp [q])) (fun q => hb (by simp [q])) (fun q => hb (by simp [q])) (fun q => hb (by simp [q])) e)) hf (Nat.le_refl _) ob
    refine ⟨.ref s.heap.objs.size, _, I1, rfl, ⟨_, x, y, rfl, I.hok.fresh (Nat.le_refl _), rfl, fun zs hz' => ?_, fun zs hz' => ?_⟩, ⟨z2, ?_, ⟨x1, x2, ?_⟩, ?_, ?_⟩, fun b hb => ?_⟩
    · rw [A1.inj X pins s σ H zs xs rfl I hz' q1]; exact ex
    · rw [A2.inj X pins s σ H zs ys rfl I hz' q2]; exact ey
    · exact (sb.2 _ S.TIz).trans (kp _ _ S.TIz S.TITO S.TIi1 S.TIi2 hTI)
    · exact (sb.2 _ S.TOz).trans t'
    · exact A1.keep _ _ _ (d1 _ _ n1) fun o e => (sb.2 _ S.zi1.symm).trans e
    · exact A2.keep _ _ _ (d2 _ _ n2) fun o e => (sb.2 _ S.zi2.symm).trans e
    · rw [upd_ne (Nat.ne_of_lt (lt b hb))]
      exact (hf b hb).1
  done := by
    intro X hP hw hK hc i pins s σ H E I hf st hg
    subst hP hw hK
    obtain ⟨hz, hTI, ⟨a, c, hTO⟩, s1, s2⟩ := st
    obtain ⟨xs, ys, q1, q2, l1, l2, l3⟩ := hg
    obtain ⟨P1, St1, D1, v1, u1, d1⟩ := A1.draws X pins s σ H xs rfl rfl rfl (I.ok.hd hc) I q1
    obtain ⟨P2, St2, D2, v2, u2, d2⟩ := A2.draws X pins s σ H ys rfl rfl rfl (I.ok.hd hc) I q2
    exact wpAny_pyNext_zipD2_end S D1 D2 hz hTI hTO (u1 _ s1) (u2 _ s2) l1 l2 l3 fun h' tk hk => ⟨rfl, I.turnedL (t' := tk) (ch := [z, TI, TO, i1, i2]) (fun b o hb q =>
      hk b o (fun q' => hb (by simp [q'])) (fun q' => hb (by simp [q'])) (fun q' => hb (by simp [q'])) (fun q' => hb (by simp [q'])) q) hf⟩
  self := fun A i s Q E st h => wpAny_pyIter_zip st.1 h
section
variable {K : PySem.W.Frag} {F : Hp} {R : List Addr} {ds es : List D} {vs us : List V}
theorem wd_zipP {g1 g2 : Hp → List V → Prop} (h1 : ∀ (En : Ent) (F2 : Hp) (R2 : List Addr) (E : Ev) (S : Store) (σ : L2.St) (H : Hp), Le F R F2 R2 → Rel K En F2 R2 E S σ H → g1 H vs) (h2 : ∀ (En : Ent) (F2 : Hp) (R2 : List Addr) (E : Ev) (S : Store) (σ : L2.St) (H : Hp), Le F R F2 R2 → Rel K En F2 R2 E S σ H → g2 H us)
    (rs : Reps K F R ds vs) (qs : Reps K F R es us) : WalkD K F R (ItP g1 g2) ⟨zipL ds es, none⟩ := by
  have hn : (zipL ds es).length = min ds.length es.length := zipL_length ds es
  have l1 := rs.length
  have l2 := qs.length
  refine wd_pair (n := min ds.length es.length) (xs := fun i => vs[i]?) (ys := fun i => us[i]?) (G := fun H => g1 H vs ∧ g2 H us) ⟨fun i H hi q => ⟨vs, us, q.1, q.2, by omega, by omega⟩, fun H q => ⟨vs, us, q.1, q.2, by omega, by omega, by omega⟩, fun i H x H' hi q y => ?_⟩ hn.symm (fun En F2 R2 E S σ H le r => ⟨h1 En F2 R2 E S σ H le r, h2 En F2 R2 E S σ H le r⟩) fun i x y e1 e2 => ?_
  · obtain ⟨T, x1, y1, rfl, hT, rfl, e1, e2⟩ := y
    exact ⟨T, x1, y1, rfl, hT, rfl, e1 vs q.1, e2 us q.2⟩
  · obtain ⟨d, e3, r1⟩ := rs.get e1
    obtain ⟨e, e4, r2⟩ := qs.get e2
    exact ⟨d, e, zipL_get ds es i d e e3 e4, r1, r2⟩
end
def mZp (ms : M (List D)) : M Wk := bnd ms fun ds _ S => match ds with
  | [a, b] => (match srcD S a, srcD S b with
    | some xs, some ys => .ok ⟨zipL xs ys, none⟩ S
    | _, _ => .bad)
  | _ => .bad
section
variable {G : Gs} {k : Nat} {N : List Str} {sc : Scope} {a b : Expr} {ms : M (List D)} {p pos tpos : Pos} {elts : List Expr} {kk : Nat}
theorem di_zipP (hm : G.mg "zip" = none) (ha : DA G k N sc [a, b] ms) (hg : sc.names.lookup ("zip" : Str) = some .globalImplicit := by rfl)
    (hs : ∀ env, starEach [a, b] env = (false, eval a env) :: starEach [b] env := by intro _; rfl) (hp : ∀ env, (backTo pos (starEach [a, b] env)).any (·.1) = false := by intro _; rfl)
    (hev : ∀ env, eval (.Call (.Name "zip" p) [a, b] [] pos) env = (do callWith pos (← eval (.Name "zip" p) env) [] (backTo pos (starEach [a, b] env)) (backToKw pos (keywordEach [] env))) := by intro _; rfl) :
    DI G k N sc (.Tuple elts kk tpos) (.Call (.Name "zip" p) [a, b] [] pos) (mZp ms) :=
  ⟨fun X W c tk => ⟨fun pins s σ H Q I h => by
    obtain ⟨En, F, R, E, S, rel, h⟩ := h
    rw [hev]
    refine wpAny_bind (ld_blt I (gl_of c hg) (by rw [c.cmg]; exact hm) PyProof.Rows.boot_zip ?_)
    let Wi : List V → Hp → Prop := fun vs H1 => ∃ F1 R1 S1 d e xs ys v w, vs = [v, w] ∧ Rel G.K En F1 R1 E S1 σ H1 ∧ Rep G.K F1 R1 d v ∧ Rep G.K F1 R1 e w ∧ srcD S1 d = some xs ∧ srcD S1 e = some ys ∧ Wis G.K En E σ Q F1 R1 ⟨zipL xs ys, none⟩ S1
    have w : tA G.K ms W σ H Wi := by
      refine tA_then rel h fun F1 R1 H1 ds vs S1 le rel1 rs q => ?_
      split at q
      · rename_i d e
        obtain ⟨v, w, rfl, r1, r2⟩ := reps2 rs
        split at q
        · rename_i xs ys e1 e2
          exact ⟨F1, R1, S1, d, e, xs, ys, v, w, rfl, rel1, r1, r2, e1, e2, q F1 R1 H1 Le.refl rel1⟩
        · exact q.elim
      · exact q.elim
    refine callWith_tyKw (kws := []) (thn ((ha.run X W c tk).run pos pins s σ H _ I w) fun us s1 ⟨vs, H1, I1, rvs, q1⟩ => thn (pk_nil.run pos pins s1 σ H1 (fun zs H2 => zs = [] ∧ Wi vs H2) I1 ⟨rfl, q1⟩) fun ws s2 ⟨zs, H2, I2, rz, ez, q2⟩ => ?_) (hs _) (hp _) rfl rfl
    subst ez
    obtain ⟨F1, R1, S1, d, e, xs, ys, v, w', rfl, rel1, r1, r2, e1, e2, wi⟩ := q2
    cases rz
    cases rvs with
      | cons ra rvs => cases rvs with
        | cons rb rvs =>
          cases rvs
          obtain ⟨g1, vs1, q1, h1, b1⟩ := src_at rel1 I2 c.cK r1 ra e1
          obtain ⟨g2, vs2, q2, h2, b2⟩ := src_at rel1 I2 c.cK r2 rb e2
          obtain ⟨o1, Hh1, fp1, tn1, B1, y1, A1, f1, z1⟩ := b1 s2.heap.objs.size (Nat.le_refl _)
          obtain ⟨o2, Hh2, fp2, tn2, B2, y2, A2, f2, z2⟩ := b2 (s2.heap.objs.size + 1) (Nat.le_succ _)
          refine zip_begins2 B1 B2 y1 y2 fun h' hz hTI hTO g1' g2' sz kp => wpAny_pyIter_zip hz ?_
          have I3 : Inv X pins σ H2 { s2 with heap := h' } := I2.kept (t' := s2.toks) kp
          refine ⟨s2.heap.objs.size + 4, [s2.heap.objs.size + 4, s2.heap.objs.size + 2, s2.heap.objs.size + 3, s2.heap.objs.size, s2.heap.objs.size + 1], _, ItP g1 g2, H2, rfl, I3, turn_zipP (zsep f1 A1.mem f2 A2.mem) (by rw [c.cK]; exact A1) (by rw [c.cK]; exact A2), ⟨hz, hTI, ⟨_, _, hTO⟩, z1 _ g1', z2 _ g2'⟩, fun b hb => ?_, wi.2 F1 H2 _ Le.refl rel1 (wd_zipP h1 h2 q1 q2)⟩
          have hle : s2.heap.objs.size ≤ b := by
            have e' : b = s2.heap.objs.size + 4 ∨ b = s2.heap.objs.size + 2 ∨ b = s2.heap.objs.size + 3 ∨ b = s2.heap.objs.size ∨ b = s2.heap.objs.size + 1 := by simpa using hb
            rcases e' with z | z | z | z | z <;> rw [z] <;> first | exact Nat.le_refl _ | exact Nat.le_add_right _ _
          exact I2.fpOk hle (I2.hok.fresh hle)⟩⟩
end
end Hm
set_option Elab.async false
set_option linter.all false
set_option maxRecDepth 100000
set_option maxHeartbeats 2000000
namespace Hm
open PySem PySem.Spec L2 PyProof.Rows

/-! ### the facts of an exception class, as one Bool -/
def xclB (K : PySem.W.Frag) (b : XB) (c : Str) (fs : List Str) : Bool := oxB K b (He.ga K c) && (decide (PySem.W.findIn K (.ref (He.ga K c)) "__init__" = some (some (.ref (He.ma K (He.ga K c) "__init__")))) &&
  (decide (PySem.W.typeIn K (.ref (He.ma K (He.ga K c) "__init__")) = some (.type "function")) && fs.all fun f => decide (PySem.W.takerIn K (He.ga K c) f = some none) && decide (PySem.W.findIn K (.ref (He.ga K c)) f = some none)))
structure XCl (K : PySem.W.Frag) (b : XB) (c : Str) (fs : List Str) : Prop where
  ox : OxC K b (He.ga K c)
  ini : PySem.W.findIn K (.ref (He.ga K c)) "__init__" = some (some (.ref (He.ma K (He.ga K c) "__init__")))
  tyI : PySem.W.typeIn K (.ref (He.ma K (He.ga K c) "__init__")) = some (.type "function")
  tk : ∀ f ∈ fs, PySem.W.takerIn K (He.ga K c) f = some none
  no : ∀ f ∈ fs, PySem.W.findIn K (.ref (He.ga K c)) f = some none
theorem xcl_of {K : PySem.W.Frag} {b : XB} {c : Str} {fs : List Str} (h : xclB K b c fs = true) : XCl K b c fs := by
  obtain ⟨h1, h⟩ := Bool.and_eq_true_iff.mp h
  obtain ⟨h2, h⟩ := Bool.and_eq_true_iff.mp h
  obtain ⟨h3, h4⟩ := Bool.and_eq_true_iff.mp h
  have h5 := List.all_eq_true.mp h4
  exact ⟨oxB_ok h1, of_decide_eq_true h2, of_decide_eq_true h3, fun f hf => of_decide_eq_true (Bool.and_eq_true_iff.mp (h5 f hf)).1, fun f hf => of_decide_eq_true (Bool.and_eq_true_iff.mp (h5 f hf)).2⟩
def emB (K : PySem.W.Frag) (cs ks : List Str) (sub : Str → Str → Bool) : Bool := cs.all fun c => ks.all fun k => decide (PySem.W.exmOne K (.ref (He.ga K c)) (.ref (He.ga K k)) = some (sub c k))
theorem em_of {K : PySem.W.Frag} {cs ks : List Str} {sub : Str → Str → Bool} (h : emB K cs ks sub = true) : ∀ c ∈ cs, ∀ k ∈ ks, PySem.W.exmOne K (.ref (He.ga K c)) (.ref (He.ga K k)) = some (sub c k) := fun c hc k hk =>
  of_decide_eq_true (List.all_eq_true.mp (List.all_eq_true.mp h c hc) k hk)
section
variable {G : Gs} {b : XB} {c qual : Str} {fs : List Str} {params : Arguments} {body : List Stmt} {sc : Scope} {N ps : List Str} {l : Fs} {dvs : List V}
theorem xmk_of {n : Nat} {dfl : List D} {vs : List V} {fd : FuncData} (hg : G.mg c = some (.ref (He.ga G.K c))) (h : XCl G.K b c fs) (Fn : FunD G.K "__init__" qual params body sc dvs [] (He.ma G.K (He.ga G.K c) "__init__") fd) (Sc : FnScope N ps sc) (hI : IniB N sc body l)
    (hb : ∃ ds, Vals vs ds ∧ Binds G.K fd ps ds) (hr : ∀ F R, Reps G.K F R dfl vs) (hn : 1 + n + vs.length = ps.length) (hf : (l.all fun p => decide (p.1 ∈ fs)) = true) (hlt : (l.all fun p => match p.2 with | .arg i => decide (i + 1 < ps.length) | .txt _ => true) = true) (hne : l ≠ []) (hlen : l.length ≤ 900)
    (h0 : N[0]? = some ("self" : Str)) (hv0 : Vis sc "self") : XMk G c n dfl l := by
  obtain ⟨ds, hd, hbb⟩ := hb
  refine ⟨hg, b, _, fd, ps, ds, vs, h.ox, h.ini, h.tyI, fn_ini Fn Sc h.ox hI (fun p hp => h.tk _ (of_decide_eq_true (List.all_eq_true.mp hf p hp))) hne (fun p hp i e => ?_) hlen h0 hv0, hbb, hd, hr, hn⟩
  have z := List.all_eq_true.mp hlt p hp
  rw [e] at z
  exact of_decide_eq_true z
end
end Hm
set_option Elab.async false
set_option linter.all false
set_option maxRecDepth 100000
set_option maxHeartbeats 4000000
namespace Hm
open PySem PySem.Spec L2
open Builtin Builtin.Str

/-! ### what the models come to, by simp -/
section
variable {S : Store} {E : Ev}
theorem vw_int {i : Int} : view S (.int i) = .int i := rfl
theorem vw_str {i : Str} : view S (.str i) = .str i := rfl
theorem vw_bl {i : Bool} : view S (.bl i) = .bl i := rfl
theorem vw_non : view S .non = .non := rfl
theorem vw_lst {i : List D} : view S (.lst i) = .lst i := rfl
theorem vw_tup {i : List D} : view S (.tup i) = .tup i := rfl
theorem vw_dct {i : List (Key × D)} : view S (.dct i) = .dct i := rfl
theorem small_of {n : Nat} (h : n ≤ 16777216) : small n = true := decide_eq_true (by rw [sizeLine_eq]; exact h)
theorem py_str {s : Str} (h : PyData.strOk s = true) : pyOf S (.str s) = some (.str s) := by
  show (if SeqAt.shaped (.str s) then some (PyData.str s) else none) = _
  have e : SeqAt.shaped (.str s) = true := by
    unfold SeqAt.shaped
    simp [PyData.canLay0, h, PyData.depth]
  rw [if_pos e]
theorem eq_ss {a b : Str} (ha : PyData.strOk a = true) (hb : PyData.strOk b = true) : eqD (.str a) (.str b) S = .ok (.val (.bl (decide (a = b)))) S := by
  unfold eqD
  rw [py_str ha, py_str hb]
  have e : PyData.eqv (.str a) (.str b) = decide (a = b) := by
    simp only [PyData.eqv]
    by_cases h : a = b
    · subst h; simp
    · rw [decide_eq_false h]; exact beq_eq_false_iff_ne.mpr h
  dsimp only
  rw [e]
  rfl
theorem ne_ss {a b : Str} (ha : PyData.strOk a = true) (hb : PyData.strOk b = true) : neD (.str a) (.str b) S = .ok (.val (.bl (!decide (a = b)))) S := by
  unfold neD
  rw [py_str ha, py_str hb]
  have e : PyData.eqv (.str a) (.str b) = decide (a = b) := by
    simp only [PyData.eqv]
    by_cases h : a = b
    · subst h; simp
    · rw [decide_eq_false h]; exact beq_eq_false_iff_ne.mpr h
  dsimp only
  rw [e]
  rfl
theorem eq_ii {i j : Int} : eqD (.int i) (.int j) S = .ok (.val (.bl (decide (i = j)))) S := eqD_int
theorem ne_ii {i j : Int} : neD (.int i) (.int j) S = .ok (.val (.bl (!decide (i = j)))) S := by
  show fine (.bl (!PyData.eqv (.int i) (.int j))) S = _
  have e : PyData.eqv (.int i) (.int j) = decide (i = j) := by
    simp only [PyData.eqv]
    rfl
  rw [e]
  rfl
theorem eq_bb {i j : Bool} : eqD (.bl i) (.bl j) S = .ok (.val (.bl (decide (i = j)))) S := by cases i <;> cases j <;> rfl
theorem ne_bb {i j : Bool} : neD (.bl i) (.bl j) S = .ok (.val (.bl (!decide (i = j)))) S := by cases i <;> cases j <;> rfl
theorem ix_str {s : Str} {i : Int} {c : Nat} (h : atI s.cps.toList i = some c) (hs : s.length ≤ 16777216) : ixD (.str s) (.int i) S = .ok (.val (.str ⟨#[c]⟩)) S := by
  show (match atI s.cps.toList i with
    | some c => if small s.length then fine (.str ⟨#[c]⟩) S else .bad
    | none => .bad) = _
  rw [h]
  dsimp only
  rw [if_pos (small_of hs)]
  rfl
theorem ix_lst {xs : List D} {i : Int} {z : D} (h : atI xs i = some z) : ixD (.lst xs) (.int i) S = .ok (.val z) S := by
  show (match atI xs i with
    | some z => fine z S
    | none => .bad) = _
  rw [h]
  rfl
theorem ix_tup {xs : List D} {i : Int} {z : D} (h : atI xs i = some z) : ixD (.tup xs) (.int i) S = .ok (.val z) S := by
  show (match atI xs i with
    | some z => fine z S
    | none => .bad) = _
  rw [h]
  rfl
theorem at_0 {α : Type} {x : α} {xs : List α} : atI (x :: xs) 0 = some x := by
  have e : ixN (x :: xs).length 0 = some 0 := by
    unfold ixN
    rw [if_pos (by omega), if_pos (by rw [List.length_cons]; omega)]
    rfl
  unfold atI
  rw [e]
  rfl
theorem at_1 {α : Type} {x y : α} {xs : List α} : atI (x :: y :: xs) 1 = some y := by
  have e : ixN (x :: y :: xs).length 1 = some 1 := by
    unfold ixN
    rw [if_pos (by omega), if_pos (by rw [List.length_cons, List.length_cons]; omega)]
    rfl
  unfold atI
  rw [e]
  rfl
theorem at_of {α : Type} {xs : List α} {n : Nat} {x : α} (h : xs[n]? = some x) : atI xs (n : Int) = some x := by
  have hl := (List.getElem?_eq_some_iff.mp h).1
  have e : ixN xs.length (n : Int) = some n := by
    unfold ixN
    rw [if_pos (by omega), if_pos (by omega)]
    rfl
  unfold atI
  rw [e]
  exact h
theorem ln_str {s : Str} (hs : s.length ≤ 16777216) : lenD [.str s] S = .ok (.val (.int (s.length : Nat))) S := by
  show (match (if small s.length then some s.length else none) with | some n => fine (.int n) S | none => .bad) = _
  rw [if_pos (small_of hs)]
  rfl
theorem ln_lst {xs : List D} : lenD [.lst xs] S = .ok (.val (.int (xs.length : Nat))) S := rfl
theorem ln_tup {xs : List D} : lenD [.tup xs] S = .ok (.val (.int (xs.length : Nat))) S := rfl
theorem sl_str {s : Str} {lo hi : Option Int} (hs : s.length ≤ 16777216) : slD (.str s) lo hi S = .ok (.val (.str (cutS s lo hi))) S := by
  show (if small s.length then fine (.str (cutS s lo hi)) S else .bad) = _
  rw [if_pos (small_of hs)]
  rfl
theorem sl_lst {xs : List D} {lo hi : Option Int} : slD (.lst xs) lo hi S = .ok (.ol (cutD xs lo hi)) S := rfl
theorem sl_tup {xs : List D} {lo hi : Option Int} : slD (.tup xs) lo hi S = .ok (.val (.tup (cutD xs lo hi))) S := rfl
theorem ixE_lst {xs : List D} {i : Int} : ixD (.lst xs) (.int i) S = (match atI xs i with
  | some z => .ok (.val z) S
  | none => .bad) := rfl
theorem ixE_tup {xs : List D} {i : Int} : ixD (.tup xs) (.int i) S = (match atI xs i with
  | some z => .ok (.val z) S
  | none => .bad) := rfl
theorem at_2 {α : Type} {x y z : α} {xs : List α} : atI (x :: y :: z :: xs) 2 = some z := at_of (n := 2) rfl
theorem at_3 {α : Type} {x y z a : α} {xs : List α} : atI (x :: y :: z :: a :: xs) 3 = some a := at_of (n := 3) rfl
theorem at_4 {α : Type} {x y z a b : α} {xs : List α} : atI (x :: y :: z :: a :: b :: xs) 4 = some b := at_of (n := 4) rfl
theorem sm_0 : small 0 = true := rfl
theorem sm_1 : small 1 = true := rfl
theorem sm_2 : small 2 = true := rfl
theorem sm_3 : small 3 = true := rfl
theorem sm_4 : small 4 = true := rfl
theorem sm_5 : small 5 = true := rfl
theorem sm_6 : small 6 = true := rfl
theorem sm_7 : small 7 = true := rfl
theorem sm_8 : small 8 = true := rfl
theorem sm_9 : small 9 = true := rfl
theorem sm_10 : small 10 = true := rfl
theorem sm_11 : small 11 = true := rfl
theorem sm_12 : small 12 = true := rfl
theorem sm_13 : small 13 = true := rfl
theorem sm_14 : small 14 = true := rfl
theorem sm_15 : small 15 = true := rfl
theorem sm_16 : small 16 = true := rfl
theorem gst_lst {x : D} {xs : List D} {gs : MGs} : gSt 2 1 gs (.lst (x :: xs)) E S = gs [x, .lst xs] E S := by
  have e : stD 2 1 (x :: xs) = [x, .lst xs] := by
    unfold stD
    rw [List.length_cons]
    simp
  show (if 1 < 2 ∧ 2 ≤ (x :: xs).length + 1 then gs (stD 2 1 (x :: xs)) E S else none) = _
  rw [if_pos ⟨by omega, by rw [List.length_cons]; omega⟩, e]
theorem gst_tup {x : D} {xs : List D} {gs : MGs} : gSt 2 1 gs (.tup (x :: xs)) E S = gs [x, .lst xs] E S := by
  have e : stD 2 1 (x :: xs) = [x, .lst xs] := by
    unfold stD
    rw [List.length_cons]
    simp
  show (if 1 < 2 ∧ 2 ≤ (x :: xs).length + 1 then gs (stD 2 1 (x :: xs)) E S else none) = _
  rw [if_pos ⟨by omega, by rw [List.length_cons]; omega⟩, e]
theorem inn_len {own : List (Str × Nat)} : (innerE own E).length = E.length := by
  unfold innerE
  rw [wipeE_length, List.length_map]
/-- [F(x) for x in a list of texts] -/
theorem lc_str {f : Str → D} {xs : List Str} {F : FD} (h : ∀ x ∈ xs, F [.str x] S = .ok (.val (f x)) S) (hl : xs.length ≤ 100000) {mi : M Wk} {k : Nat} {nm : Str} (hk : k < E.length) (h1 : mi E S = .ok ⟨xs.map .str, none⟩ S) :
    mLc mi (gN k) mYes (mCall F 1 (mCons (mVar k) mNil)) [(nm, k)] E S = .ok (.ol (xs.map f)) S := by
  have c := compL_fun (w := xs.map .str) (g := gN k) (t := mYes) (e := mCall F 1 (mCons (mVar k) mNil)) (E0 := innerE [(nm, k)] E) (S := S) (fun d => match d with | .str x => f x | _ => .non) (ds := xs.map .str) (acc := []) (fun d hd => by
    obtain ⟨x, hx, rfl⟩ := List.mem_map.mp hd
    refine ⟨_, .val (f x), rfl, rfl, ?_, rfl⟩
    have v : mVar k ((innerE [(nm, k)] E).set k (some (.val (.str x)))) S = .ok (.val (.str x)) S := by
      unfold mVar
      rw [List.getElem?_set_self (by rw [inn_len]; exact hk)]
    unfold mCall mCons mNil bnd
    simp only [v, DV.frz, List.length_cons, List.length_nil, Nat.zero_add, if_true]
    exact h x hx) (by rw [List.length_nil, List.length_map, sizeLine_eq]; omega)
  rw [List.nil_append, List.map_map] at c
  exact mLc_of h1 c
theorem ad_ss {a b : Str} (h : a.length + b.length ≤ 16777216) : addD (.str a) (.str b) S = .ok (.val (.str (a ++ b))) S := by
  show (if small (a.length + b.length) then fine (.str (a ++ b)) S else .bad) = _
  rw [if_pos (small_of h)]
  rfl
theorem ad_ll {a b : List D} (h : a.length + b.length ≤ 16777216) : addD (.lst a) (.lst b) S = .ok (.ol (a ++ b)) S := by
  show (if small (a.length + b.length) then Res.ok (DV.ol (a ++ b)) S else .bad) = _
  rw [if_pos (small_of h)]
theorem ad_tt {a b : List D} (h : a.length + b.length ≤ 16777216) : addD (.tup a) (.tup b) S = .ok (.val (.tup (a ++ b))) S := by
  show (if small (a.length + b.length) then fine (.tup (a ++ b)) S else .bad) = _
  rw [if_pos (small_of h)]
  rfl
theorem ad_ii {i j : Int} : addD (.int i) (.int j) S = .ok (.val (.int (i + j))) S := rfl
theorem sb_ii {i j : Int} : subD (.int i) (.int j) S = .ok (.val (.int (i - j))) S := rfl
theorem le_ii {i j : Int} : leD (.int i) (.int j) S = .ok (.val (.bl (decide (i ≤ j)))) S := rfl
theorem lt_ii {i j : Int} : ltD (.int i) (.int j) S = .ok (.val (.bl (decide (i < j)))) S := rfl
theorem gt_ii {i j : Int} : gtD (.int i) (.int j) S = .ok (.val (.bl (decide (j < i)))) S := rfl
theorem ge_ii {i j : Int} : geD (.int i) (.int j) S = .ok (.val (.bl (decide (j ≤ i)))) S := rfl
theorem ng_i {i : Int} : negD (.int i) S = .ok (.val (.int (-i))) S := rfl
theorem is_n {d : D} : isND d .non S = .ok (.val (.bl (isN d))) S := rfl
theorem nis_n {d : D} : notND d .non S = .ok (.val (.bl (!isN d))) S := rfl
theorem tr_bl {b : Bool} : truB S (.bl b) = some b := rfl
theorem tr_non : truB S .non = some false := rfl
theorem tr_int {i : Int} : truB S (.int i) = some (i != 0) := rfl
theorem tr_lst {xs : List D} : truB S (.lst xs) = some (!xs.isEmpty) := rfl
theorem tr_tup {xs : List D} : truB S (.tup xs) = some (!xs.isEmpty) := rfl
theorem tr_dct {xs : List (Key × D)} : truB S (.dct xs) = some (!xs.isEmpty) := rfl
theorem tr_str {s : Str} (hs : s.length ≤ 16777216) : truB S (.str s) = some ((s.length : Int) != 0) := by
  show (if small s.length then some ((s.length : Int) != 0) else none) = _
  rw [if_pos (small_of hs)]
theorem tp_lst {xs : List D} : tupD [.lst xs] S = .ok (.val (.tup xs)) S := rfl
theorem tp_tup {xs : List D} : tupD [.tup xs] S = .ok (.val (.tup xs)) S := rfl
theorem in_bl {b : Bool} : intD1 [.bl b] S = .ok (.val (.int (if b then 1 else 0))) S := rfl
end
/-! ### steps, applied -/
section
variable {S S1 S2 : Store} {E E1 : Ev} {x y : DV} {d e : D} {xs ds : List D} {c : Str} {fs : List (Str × D)} {k : Bool} {f g : F2}
def goS (r : RS) (b : MS) : RS := match r with
  | .nx E S => b E S
  | .rt x S => .rt x S
  | .bk E S => .bk E S
  | .ct E S => .ct E S
  | .ex c fs E S => .ex c fs E S
  | .bad => .bad
theorem goS_0 {b : MS} : goS (.nx E S) b = (b E S) := rfl
theorem goS_1 {b : MS} : goS (.rt x S) b = (.rt x S) := rfl
theorem goS_2 {b : MS} : goS (.bk E S) b = (.bk E S) := rfl
theorem goS_3 {b : MS} : goS (.ct E S) b = (.ct E S) := rfl
theorem goS_4 {b : MS} : goS (.ex c fs E S) b = (.ex c fs E S) := rfl
theorem goS_5 {b : MS} : goS (.bad) b = (.bad) := rfl
theorem x_seqS {a b : MS} : seqS a b E S = goS (a E S) b := by unfold seqS goS; cases a E S <;> rfl
def goSet (r : Res DV) (i : Nat) (E : Ev) : RS := match r with
  | .ok x S => .nx (E.set i (some x)) S
  | .ex c fs S1 => .ex c fs E S1
  | .bad => .bad
theorem goSet_0 {i : Nat} {E : Ev} : goSet (.ok x S) i E = (.nx (E.set i (some x)) S) := rfl
theorem goSet_1 {i : Nat} {E : Ev} : goSet (.ex c fs S1) i E = (.ex c fs E S1) := rfl
theorem goSet_2 {i : Nat} {E : Ev} : goSet (.bad) i E = (.bad) := rfl
theorem x_setS {i : Nat} {m : M DV} : setS i m E S = goSet (m E S) i E := by kernel_rfl
def goRet (r : Res DV) (E : Ev) : RS := match r with
  | .ok x S => .rt x S
  | .ex c fs S1 => .ex c fs E S1
  | .bad => .bad
theorem goRet_0 {E : Ev} : goRet (.ok x S) E = (.rt x S) := rfl
theorem goRet_1 {E : Ev} : goRet (.ex c fs S1) E = (.ex c fs E S1) := rfl
theorem goRet_2 {E : Ev} : goRet (.bad) E = (.bad) := rfl
theorem x_retS {m : M DV} : retS m E S = goRet (m E S) E := by kernel_rfl
def goEx (r : Res DV) (E : Ev) : RS := match r with
  | .ok x S => .nx E S
  | .ex c fs S1 => .ex c fs E S1
  | .bad => .bad
theorem goEx_0 {E : Ev} : goEx (.ok x S) E = (.nx E S) := rfl
theorem goEx_1 {E : Ev} : goEx (.ex c fs S1) E = (.ex c fs E S1) := rfl
theorem goEx_2 {E : Ev} : goEx (.bad) E = (.bad) := rfl
theorem x_exprS {m : M DV} : exprS m E S = goEx (m E S) E := by kernel_rfl
def goIf (r : Res Bool) (a b : MS) (E : Ev) : RS := match r with
  | .ok true S => a E S
  | .ok false S => b E S
  | .ex c fs S1 => .ex c fs E S1
  | .bad => .bad
theorem goIf_0 {a b : MS} {E : Ev} : goIf (.ok true S) a b E = (a E S) := rfl
theorem goIf_1 {a b : MS} {E : Ev} : goIf (.ok false S) a b E = (b E S) := rfl
theorem goIf_2 {a b : MS} {E : Ev} : goIf (.ex c fs S1) a b E = (.ex c fs E S1) := rfl
theorem goIf_3 {a b : MS} {E : Ev} : goIf (.bad) a b E = (.bad) := rfl
theorem x_ifS {t : M Bool} {a b : MS} : ifS t a b E S = goIf (t E S) a b E := by unfold ifS withE; cases t E S with | ok x S1 => cases x <;> rfl | ex c fs S1 => rfl | bad => rfl
theorem x_nextS : nextS E S = .nx E S := rfl
theorem x_neverS : neverS E S = .bad := rfl
theorem x_retNS : retNS E S = .rt (.val .non) S := rfl
theorem x_contS : contS E S = .ct E S := rfl
theorem x_breakS : breakS E S = .bk E S := rfl
def goRv (o : Option (Option DV)) (S : Store) : RS := match o with
  | some (some x) => .rt x S
  | _ => .bad
theorem goRv_0 {S : Store} : goRv (some (some x)) S = (.rt x S) := rfl
theorem x_retVarS {i : Nat} : retVarS i E S = goRv (E[i]?) S := by kernel_rfl
def goFr (o : Option (Option DV)) (i : Nat) (m : MS) (E : Ev) (S : Store) : RS := match o with
  | some (some x) => m (E.set i (some (.val x.frz))) S
  | some none => m E S
  | none => m E S
theorem goFr_0 {i : Nat} {m : MS} {E : Ev} {S : Store} : goFr (some (some x)) i m E S = (m (E.set i (some (.val x.frz))) S) := rfl
theorem goFr_1 {i : Nat} {m : MS} {E : Ev} {S : Store} : goFr (some none) i m E S = (m E S) := rfl
theorem goFr_2 {i : Nat} {m : MS} {E : Ev} {S : Store} : goFr (none) i m E S = (m E S) := rfl
theorem x_frzS {i : Nat} {m : MS} : frzS i m E S = goFr (E[i]?) i m E S := by unfold frzS goFr; cases E[i]? with | none => rfl | some o => cases o <;> rfl
def goCel (o : Option (Option DV)) (i : Nat) (m : MS) (E : Ev) (S : Store) : RS := match o with
  | some (some (.ol ds)) => m (E.set i (some (.val (.ref S.length)))) (S ++ [.lst ds])
  | some (some (.od kvs)) => m (E.set i (some (.val (.ref S.length)))) (S ++ [.dct kvs])
  | some (some (.val d)) => m E S
  | some none => m E S
  | none => m E S
theorem goCel_0 {i : Nat} {m : MS} {E : Ev} {S : Store} : goCel (some (some (.ol ds))) i m E S = (m (E.set i (some (.val (.ref S.length)))) (S ++ [.lst ds])) := rfl
theorem goCel_1 {kvs : List (Key × D)} {i : Nat} {m : MS} {E : Ev} {S : Store} : goCel (some (some (.od kvs))) i m E S = (m (E.set i (some (.val (.ref S.length)))) (S ++ [.dct kvs])) := rfl
theorem goCel_2 {i : Nat} {m : MS} {E : Ev} {S : Store} : goCel (some (some (.val d))) i m E S = (m E S) := rfl
theorem goCel_3 {i : Nat} {m : MS} {E : Ev} {S : Store} : goCel (some none) i m E S = (m E S) := rfl
theorem goCel_4 {i : Nat} {m : MS} {E : Ev} {S : Store} : goCel (none) i m E S = (m E S) := rfl
theorem x_celS {i : Nat} {m : MS} : celS i m E S = goCel (E[i]?) i m E S := by unfold celS goCel; cases E[i]? with | none => rfl | some o => cases o with | none => rfl | some v => cases v <;> rfl
def goV (o : Option (Option DV)) (S : Store) : Res DV := match o with
  | some (some (.val d)) => .ok (.val d) S
  | _ => .bad
theorem goV_0 {S : Store} : goV (some (some (.val d))) S = (.ok (.val d) S) := rfl
theorem x_mVar {i : Nat} : mVar i E S = goV (E[i]?) S := by kernel_rfl
theorem x_mK {d : D} : mK d E S = .ok (.val d) S := rfl
def goU (u : F1) (r : Res DV) : Res DV := match r with
  | .ok x S => u x.frz S
  | .ex c fs S1 => .ex c fs S1
  | .bad => .bad
theorem goU_0 {u : F1} : goU u (.ok x S) = (u x.frz S) := rfl
theorem goU_1 {u : F1} : goU u (.ex c fs S1) = (.ex c fs S1) := rfl
theorem goU_2 {u : F1} : goU u (.bad) = (.bad) := rfl
theorem x_mUn {u : F1} {a : M DV} : mUn u a E S = goU u (a E S) := by kernel_rfl
def goB2 (f : F2) (d : D) (r : Res DV) : Res DV := match r with
  | .ok y S => f d y.frz S
  | .ex c fs S1 => .ex c fs S1
  | .bad => .bad
theorem goB2_0 {f : F2} {d : D} : goB2 f d (.ok y S) = (f d y.frz S) := rfl
theorem goB2_1 {f : F2} {d : D} : goB2 f d (.ex c fs S1) = (.ex c fs S1) := rfl
theorem goB2_2 {f : F2} {d : D} : goB2 f d (.bad) = (.bad) := rfl
def goB (f : F2) (r : Res DV) (b : M DV) (E : Ev) : Res DV := match r with
  | .ok x S => goB2 f x.frz (b E S)
  | .ex c fs S1 => .ex c fs S1
  | .bad => .bad
theorem goB_0 {f : F2} {b : M DV} {E : Ev} : goB f (.ok x S) b E = (goB2 f x.frz (b E S)) := rfl
theorem goB_1 {f : F2} {b : M DV} {E : Ev} : goB f (.ex c fs S1) b E = (.ex c fs S1) := rfl
theorem goB_2 {f : F2} {b : M DV} {E : Ev} : goB f (.bad) b E = (.bad) := rfl
theorem x_mBin {f : F2} {a b : M DV} : mBin f a b E S = goB f (a E S) b E := by kernel_rfl
def goT (r : Res DV) : Res Bool := match r with
  | .ok (.val (.bl k)) S => .ok k S
  | .ex c fs S1 => .ex c fs S1
  | .bad => .bad
  | _ => .bad
theorem goT_0  : goT (.ok (.val (.bl k)) S) = (.ok k S) := rfl
theorem goT_1  : goT (.ex c fs S1) = (.ex c fs S1) := rfl
theorem goT_2  : goT (.bad) = (.bad) := rfl
theorem x_mTst {m : M DV} : mTst m E S = goT (m E S) := by unfold mTst bnd goT; cases m E S with | ok x S1 => (cases x with | val d => cases d <;> rfl | ol ds => rfl | od ds => rfl) | ex c fs S1 => rfl | bad => rfl
def goTr2 (o : Option Bool) (S : Store) : Res Bool := match o with
  | some k => .ok k S
  | none => .bad
theorem goTr2_0 {S : Store} : goTr2 (some k) S = (.ok k S) := rfl
theorem goTr2_1 {S : Store} : goTr2 (none) S = (.bad) := rfl
def goTr (r : Res DV) : Res Bool := match r with
  | .ok x S => goTr2 (truB S x.frz) S
  | .ex c fs S1 => .ex c fs S1
  | .bad => .bad
theorem goTr_0  : goTr (.ok x S) = (goTr2 (truB S x.frz) S) := rfl
theorem goTr_1  : goTr (.ex c fs S1) = (.ex c fs S1) := rfl
theorem goTr_2  : goTr (.bad) = (.bad) := rfl
theorem x_mTru {m : M DV} : mTru m E S = goTr (m E S) := by kernel_rfl
def goN (r : Res Bool) : Res Bool := match r with
  | .ok k S => .ok (!k) S
  | .ex c fs S1 => .ex c fs S1
  | .bad => .bad
theorem goN_0  : goN (.ok k S) = (.ok (!k) S) := rfl
theorem goN_1  : goN (.ex c fs S1) = (.ex c fs S1) := rfl
theorem goN_2  : goN (.bad) = (.bad) := rfl
theorem x_mNot {m : M Bool} : mNot m E S = goN (m E S) := by kernel_rfl
def goAn (r : Res Bool) (b : M Bool) (E : Ev) : Res Bool := match r with
  | .ok true S => b E S
  | .ok false S => .ok false S
  | .ex c fs S1 => .ex c fs S1
  | .bad => .bad
theorem goAn_0 {b : M Bool} {E : Ev} : goAn (.ok true S) b E = (b E S) := rfl
theorem goAn_1 {b : M Bool} {E : Ev} : goAn (.ok false S) b E = (.ok false S) := rfl
theorem goAn_2 {b : M Bool} {E : Ev} : goAn (.ex c fs S1) b E = (.ex c fs S1) := rfl
theorem goAn_3 {b : M Bool} {E : Ev} : goAn (.bad) b E = (.bad) := rfl
def goOr (r : Res Bool) (b : M Bool) (E : Ev) : Res Bool := match r with
  | .ok true S => .ok true S
  | .ok false S => b E S
  | .ex c fs S1 => .ex c fs S1
  | .bad => .bad
theorem goOr_0 {b : M Bool} {E : Ev} : goOr (.ok true S) b E = (.ok true S) := rfl
theorem goOr_1 {b : M Bool} {E : Ev} : goOr (.ok false S) b E = (b E S) := rfl
theorem goOr_2 {b : M Bool} {E : Ev} : goOr (.ex c fs S1) b E = (.ex c fs S1) := rfl
theorem goOr_3 {b : M Bool} {E : Ev} : goOr (.bad) b E = (.bad) := rfl
def goIe (r : Res Bool) (a b : M DV) (E : Ev) : Res DV := match r with
  | .ok true S => a E S
  | .ok false S => b E S
  | .ex c fs S1 => .ex c fs S1
  | .bad => .bad
theorem goIe_0 {a b : M DV} {E : Ev} : goIe (.ok true S) a b E = (a E S) := rfl
theorem goIe_1 {a b : M DV} {E : Ev} : goIe (.ok false S) a b E = (b E S) := rfl
theorem goIe_2 {a b : M DV} {E : Ev} : goIe (.ex c fs S1) a b E = (.ex c fs S1) := rfl
theorem goIe_3 {a b : M DV} {E : Ev} : goIe (.bad) a b E = (.bad) := rfl
theorem x_mAnd {a b : M Bool} : mAnd a b E S = goAn (a E S) b E := by unfold mAnd bnd goAn; cases a E S with | ok x S1 => cases x <;> rfl | ex c fs S1 => rfl | bad => rfl
theorem x_mOr {a b : M Bool} : mOr a b E S = goOr (a E S) b E := by unfold mOr bnd goOr; cases a E S with | ok x S1 => cases x <;> rfl | ex c fs S1 => rfl | bad => rfl
theorem x_mIf {t : M Bool} {a b : M DV} : mIf t a b E S = goIe (t E S) a b E := by unfold mIf bnd goIe; cases t E S with | ok x S1 => cases x <;> rfl | ex c fs S1 => rfl | bad => rfl
def goNv2 (o : Option Bool) (S : Store) : Res DV := match o with
  | some k => .ok (.val (.bl (!k))) S
  | none => .bad
theorem goNv2_0 {S : Store} : goNv2 (some k) S = (.ok (.val (.bl (!k))) S) := rfl
theorem goNv2_1 {S : Store} : goNv2 (none) S = (.bad) := rfl
def goNv (r : Res DV) : Res DV := match r with
  | .ok x S => goNv2 (truB S x.frz) S
  | .ex c fs S1 => .ex c fs S1
  | .bad => .bad
theorem goNv_0  : goNv (.ok x S) = (goNv2 (truB S x.frz) S) := rfl
theorem goNv_1  : goNv (.ex c fs S1) = (.ex c fs S1) := rfl
theorem goNv_2  : goNv (.bad) = (.bad) := rfl
theorem x_mNotV {m : M DV} : mNotV m E S = goNv (m E S) := by kernel_rfl
def goOv2 (o : Option Bool) (d : D) (S : Store) (b : M DV) (E : Ev) : Res DV := match o with
  | some true => .ok (.val d) S
  | some false => b E S
  | none => .bad
theorem goOv2_0 {d : D} {S : Store} {b : M DV} {E : Ev} : goOv2 (some true) d S b E = (.ok (.val d) S) := rfl
theorem goOv2_1 {d : D} {S : Store} {b : M DV} {E : Ev} : goOv2 (some false) d S b E = (b E S) := rfl
theorem goOv2_2 {d : D} {S : Store} {b : M DV} {E : Ev} : goOv2 (none) d S b E = (.bad) := rfl
def goOv (r : Res DV) (b : M DV) (E : Ev) : Res DV := match r with
  | .ok x S => goOv2 (truB S x.frz) x.frz S b E
  | .ex c fs S1 => .ex c fs S1
  | .bad => .bad
theorem goOv_0 {b : M DV} {E : Ev} : goOv (.ok x S) b E = (goOv2 (truB S x.frz) x.frz S b E) := rfl
theorem goOv_1 {b : M DV} {E : Ev} : goOv (.ex c fs S1) b E = (.ex c fs S1) := rfl
theorem goOv_2 {b : M DV} {E : Ev} : goOv (.bad) b E = (.bad) := rfl
theorem x_mOrV {a b : M DV} : mOrV a b E S = goOv (a E S) b E := by kernel_rfl
def goAv2 (o : Option Bool) (d : D) (S : Store) (b : M DV) (E : Ev) : Res DV := match o with
  | some false => .ok (.val d) S
  | some true => b E S
  | none => .bad
theorem goAv2_0 {d : D} {S : Store} {b : M DV} {E : Ev} : goAv2 (some false) d S b E = (.ok (.val d) S) := rfl
theorem goAv2_1 {d : D} {S : Store} {b : M DV} {E : Ev} : goAv2 (some true) d S b E = (b E S) := rfl
theorem goAv2_2 {d : D} {S : Store} {b : M DV} {E : Ev} : goAv2 (none) d S b E = (.bad) := rfl
def goAv (r : Res DV) (b : M DV) (E : Ev) : Res DV := match r with
  | .ok x S => goAv2 (truB S x.frz) x.frz S b E
  | .ex c fs S1 => .ex c fs S1
  | .bad => .bad
theorem goAv_0 {b : M DV} {E : Ev} : goAv (.ok x S) b E = (goAv2 (truB S x.frz) x.frz S b E) := rfl
theorem goAv_1 {b : M DV} {E : Ev} : goAv (.ex c fs S1) b E = (.ex c fs S1) := rfl
theorem goAv_2 {b : M DV} {E : Ev} : goAv (.bad) b E = (.bad) := rfl
theorem x_mAndV {a b : M DV} : mAndV a b E S = goAv (a E S) b E := by kernel_rfl
theorem x_mNil : mNil E S = .ok [] S := rfl
def goC2 (d : D) (r : Res (List D)) : Res (List D) := match r with
  | .ok xs S => .ok (d :: xs) S
  | .ex c fs S1 => .ex c fs S1
  | .bad => .bad
theorem goC2_0 {d : D} : goC2 d (.ok xs S) = (.ok (d :: xs) S) := rfl
theorem goC2_1 {d : D} : goC2 d (.ex c fs S1) = (.ex c fs S1) := rfl
theorem goC2_2 {d : D} : goC2 d (.bad) = (.bad) := rfl
def goC (r : Res DV) (ms : M (List D)) (E : Ev) : Res (List D) := match r with
  | .ok x S => goC2 x.frz (ms E S)
  | .ex c fs S1 => .ex c fs S1
  | .bad => .bad
theorem goC_0 {ms : M (List D)} {E : Ev} : goC (.ok x S) ms E = (goC2 x.frz (ms E S)) := rfl
theorem goC_1 {ms : M (List D)} {E : Ev} : goC (.ex c fs S1) ms E = (.ex c fs S1) := rfl
theorem goC_2 {ms : M (List D)} {E : Ev} : goC (.bad) ms E = (.bad) := rfl
theorem x_mCons {m : M DV} {ms : M (List D)} : mCons m ms E S = goC (m E S) ms E := by kernel_rfl
def goTp (r : Res (List D)) : Res DV := match r with
  | .ok xs S => if small xs.length = true then .ok (.val (.tup xs)) S else .bad
  | .ex c fs S1 => .ex c fs S1
  | .bad => .bad
theorem goTp_0  : goTp (.ok xs S) = (if small xs.length = true then .ok (.val (.tup xs)) S else .bad) := rfl
theorem goTp_1  : goTp (.ex c fs S1) = (.ex c fs S1) := rfl
theorem goTp_2  : goTp (.bad) = (.bad) := rfl
theorem x_mTup {ms : M (List D)} : mTup ms E S = goTp (ms E S) := by kernel_rfl
def goLs (r : Res (List D)) : Res DV := match r with
  | .ok xs S => if small xs.length = true then .ok (.ol xs) S else .bad
  | .ex c fs S1 => .ex c fs S1
  | .bad => .bad
theorem goLs_0  : goLs (.ok xs S) = (if small xs.length = true then .ok (.ol xs) S else .bad) := rfl
theorem goLs_1  : goLs (.ex c fs S1) = (.ex c fs S1) := rfl
theorem goLs_2  : goLs (.bad) = (.bad) := rfl
theorem x_mLst {ms : M (List D)} : mLst ms E S = goLs (ms E S) := by kernel_rfl
theorem x_mNo : mNo E S = .ok none S := rfl
def goPt (r : Res DV) : Res (Option Int) := match r with
  | .ok (.val (.int i)) S => .ok (some i) S
  | .ex c fs S1 => .ex c fs S1
  | .bad => .bad
  | _ => .bad
theorem goPt_0 {i : Int}  : goPt (.ok (.val (.int i)) S) = (.ok (some i) S) := rfl
theorem goPt_1  : goPt (.ex c fs S1) = (.ex c fs S1) := rfl
theorem goPt_2  : goPt (.bad) = (.bad) := rfl
theorem x_mPart {m : M DV} : mPart m E S = goPt (m E S) := by unfold mPart bnd goPt; cases m E S with | ok x S1 => (cases x with | val d => cases d <;> rfl | ol ds => rfl | od ds => rfl) | ex c fs S1 => rfl | bad => rfl
def goSl3 (d : D) (l : Option Int) (r : Res (Option Int)) : Res DV := match r with
  | .ok u S => slD d l u S
  | .ex c fs S1 => .ex c fs S1
  | .bad => .bad
theorem goSl3_0 {u : Option Int} {d : D} {l : Option Int} : goSl3 d l (.ok u S) = (slD d l u S) := rfl
theorem goSl3_1 {d : D} {l : Option Int} : goSl3 d l (.ex c fs S1) = (.ex c fs S1) := rfl
theorem goSl3_2 {d : D} {l : Option Int} : goSl3 d l (.bad) = (.bad) := rfl
def goSl2 (d : D) (r : Res (Option Int)) (hi : M (Option Int)) (E : Ev) : Res DV := match r with
  | .ok u S => goSl3 d u (hi E S)
  | .ex c fs S1 => .ex c fs S1
  | .bad => .bad
theorem goSl2_0 {u : Option Int} {d : D} {hi : M (Option Int)} {E : Ev} : goSl2 d (.ok u S) hi E = (goSl3 d u (hi E S)) := rfl
theorem goSl2_1 {d : D} {hi : M (Option Int)} {E : Ev} : goSl2 d (.ex c fs S1) hi E = (.ex c fs S1) := rfl
theorem goSl2_2 {d : D} {hi : M (Option Int)} {E : Ev} : goSl2 d (.bad) hi E = (.bad) := rfl
def goSl (r : Res DV) (lo hi : M (Option Int)) (E : Ev) : Res DV := match r with
  | .ok x S => goSl2 x.frz (lo E S) hi E
  | .ex c fs S1 => .ex c fs S1
  | .bad => .bad
theorem goSl_0 {lo hi : M (Option Int)} {E : Ev} : goSl (.ok x S) lo hi E = (goSl2 x.frz (lo E S) hi E) := rfl
theorem goSl_1 {lo hi : M (Option Int)} {E : Ev} : goSl (.ex c fs S1) lo hi E = (.ex c fs S1) := rfl
theorem goSl_2 {lo hi : M (Option Int)} {E : Ev} : goSl (.bad) lo hi E = (.bad) := rfl
theorem x_mSl {m : M DV} {lo hi : M (Option Int)} : mSl m lo hi E S = goSl (m E S) lo hi E := by kernel_rfl
def goCall (fd : FD) (n : Nat) (r : Res (List D)) : Res DV := match r with
  | .ok xs S => if xs.length = n then fd xs S else .bad
  | .ex c fs S1 => .ex c fs S1
  | .bad => .bad
theorem goCall_0 {fd : FD} {n : Nat} : goCall fd n (.ok xs S) = (if xs.length = n then fd xs S else .bad) := rfl
theorem goCall_1 {fd : FD} {n : Nat} : goCall fd n (.ex c fs S1) = (.ex c fs S1) := rfl
theorem goCall_2 {fd : FD} {n : Nat} : goCall fd n (.bad) = (.bad) := rfl
theorem x_mCall {fd : FD} {n : Nat} {ms : M (List D)} : mCall fd n ms E S = goCall fd n (ms E S) := by kernel_rfl
def goFn (fd : FD) (r : Res (List D)) : Res DV := match r with
  | .ok xs S => fd xs S
  | .ex c fs S1 => .ex c fs S1
  | .bad => .bad
theorem goFn_0 {fd : FD} : goFn fd (.ok xs S) = (fd xs S) := rfl
theorem goFn_1 {fd : FD} : goFn fd (.ex c fs S1) = (.ex c fs S1) := rfl
theorem goFn_2 {fd : FD} : goFn fd (.bad) = (.bad) := rfl
theorem x_mF {fd : FD} {ms : M (List D)} : mF fd ms E S = goFn fd (ms E S) := by kernel_rfl
def goM3 (h : Str → F1) (a : Str) (r : Res DV) : Res DV := match r with
  | .ok y S => h a y.frz S
  | .ex c fs S1 => .ex c fs S1
  | .bad => .bad
theorem goM3_0 {h : Str → F1} {a : Str} : goM3 h a (.ok y S) = (h a y.frz S) := rfl
theorem goM3_1 {h : Str → F1} {a : Str} : goM3 h a (.ex c fs S1) = (.ex c fs S1) := rfl
theorem goM3_2 {h : Str → F1} {a : Str} : goM3 h a (.bad) = (.bad) := rfl
def goM2 (h : Str → F1) (d : D) (me : M DV) (E : Ev) (S : Store) : Res DV := match d with
  | .str a => goM3 h a (me E S)
  | _ => .bad
theorem goM2_0 {a : Str} {h : Str → F1} {me : M DV} {E : Ev} {S : Store} : goM2 h (.str a) me E S = (goM3 h a (me E S)) := rfl
def goM (h : Str → F1) (r : Res DV) (me : M DV) (E : Ev) : Res DV := match r with
  | .ok x S => goM2 h x.frz me E S
  | .ex c fs S1 => .ex c fs S1
  | .bad => .bad
theorem goM_0 {h : Str → F1} {me : M DV} {E : Ev} : goM h (.ok x S) me E = (goM2 h x.frz me E S) := rfl
theorem goM_1 {h : Str → F1} {me : M DV} {E : Ev} : goM h (.ex c fs S1) me E = (.ex c fs S1) := rfl
theorem goM_2 {h : Str → F1} {me : M DV} {E : Ev} : goM h (.bad) me E = (.bad) := rfl
theorem x_mM1 {h : Str → F1} {mo me : M DV} : mM1 h mo me E S = goM h (mo E S) me E := by unfold mM1 bnd goM; cases mo E S with | ok x S1 => (dsimp only; unfold goM2; cases x.frz <;> (try rfl) <;> (try kernel_rfl)) | ex c fs S1 => rfl | bad => rfl
def goG2 (o : Option Ev) (S : Store) : RS := match o with
  | some E => .nx E S
  | none => .bad
theorem goG2_0 {S : Store} : goG2 (some E) S = (.nx E S) := rfl
theorem goG2_1 {S : Store} : goG2 (none) S = (.bad) := rfl
def goG (r : Res DV) (mg : MG) (E : Ev) : RS := match r with
  | .ok x S => goG2 (mg x.frz E S) S
  | .ex c fs S1 => .ex c fs E S1
  | .bad => .bad
theorem goG_0 {mg : MG} {E : Ev} : goG (.ok x S) mg E = (goG2 (mg x.frz E S) S) := rfl
theorem goG_1 {mg : MG} {E : Ev} : goG (.ex c fs S1) mg E = (.ex c fs E S1) := rfl
theorem goG_2 {mg : MG} {E : Ev} : goG (.bad) mg E = (.bad) := rfl
theorem x_setG {m : M DV} {mg : MG} : setG m mg E S = goG (m E S) mg E := by kernel_rfl
theorem x_gN {i : Nat} {d : D} : gN i d E S = some (E.set i (some (.val d))) := rfl
theorem x_gNil : gNilM [] E S = some E := rfl
def goGs (o : Option Ev) (gs : MGs) (ds : List D) (S : Store) : Option Ev := match o with
  | some E => gs ds E S
  | none => none
theorem goGs_0 {gs : MGs} {ds : List D} {S : Store} : goGs (some E) gs ds S = (gs ds E S) := rfl
theorem goGs_1 {gs : MGs} {ds : List D} {S : Store} : goGs (none) gs ds S = (none) := rfl
theorem x_gCons {mg : MG} {gs : MGs} {d : D} {r : List D} : gConsM mg gs (d :: r) E S = goGs (mg d E S) gs r S := by kernel_rfl
theorem x_gT_tup {n : Nat} {gs : MGs} {ds : List D} : gT n gs (.tup ds) E S = (if ds.length = n then gs ds E S else none) := rfl
theorem x_gT_lst {n : Nat} {gs : MGs} {ds : List D} : gT n gs (.lst ds) E S = (if ds.length = n then gs ds E S else none) := rfl
def goRs (x : Str) (n : Nat) (dfl : List D) (l : Fs) (r : Res (List D)) (E : Ev) : RS := match r with
  | .ok ds S => if ds.length = n ∧ n ≤ 1000 then .ex x (fsD l (ds ++ dfl) []) E S else .bad
  | .ex c fs S1 => .ex c fs E S1
  | .bad => .bad
theorem goRs_0 {x : Str} {n : Nat} {dfl : List D} {l : Fs} {E : Ev} : goRs x n dfl l (.ok ds S) E = (if ds.length = n ∧ n ≤ 1000 then .ex x (fsD l (ds ++ dfl) []) E S else .bad) := rfl
theorem goRs_1 {x : Str} {n : Nat} {dfl : List D} {l : Fs} {E : Ev} : goRs x n dfl l (.ex c fs S1) E = (.ex c fs E S1) := rfl
theorem goRs_2 {x : Str} {n : Nat} {dfl : List D} {l : Fs} {E : Ev} : goRs x n dfl l (.bad) E = (.bad) := rfl
theorem x_raiseS {x : Str} {n : Nat} {dfl : List D} {l : Fs} {ms : M (List D)} : raiseS x n dfl l ms E S = goRs x n dfl l (ms E S) E := by kernel_rfl
def goW2 (o : Option Wk) (S : Store) : Res Wk := match o with
  | some t => .ok t S
  | none => .bad
theorem goW2_0 {t : Wk} {S : Store} : goW2 (some t) S = (.ok t S) := rfl
theorem goW2_1 {S : Store} : goW2 (none) S = (.bad) := rfl
def goW (h : D → Store → Option Wk) (r : Res DV) : Res Wk := match r with
  | .ok x S => goW2 (h x.frz S) S
  | .ex c fs S1 => .ex c fs S1
  | .bad => .bad
theorem goW_0 {h : D → Store → Option Wk} : goW h (.ok x S) = (goW2 (h x.frz S) S) := rfl
theorem goW_1 {h : D → Store → Option Wk} : goW h (.ex c fs S1) = (.ex c fs S1) := rfl
theorem goW_2 {h : D → Store → Option Wk} : goW h (.bad) = (.bad) := rfl
theorem x_mWk {h : D → Store → Option Wk} {m : M DV} : mWk h m E S = goW h (m E S) := by kernel_rfl
theorem x_itL {xs : List D} : itV (.lst xs) S = some ⟨xs, none⟩ := rfl
theorem x_itT {xs : List D} : itV (.tup xs) S = some ⟨xs, none⟩ := rfl
theorem x_itS {z : Str} : itV (.str z) S = some ⟨signs z, none⟩ := rfl
theorem x_itD {kvs : List (Key × D)} : itV (.dct kvs) S = some ⟨kvs.map fun kv => kD kv.1, none⟩ := rfl
def goMk2 (o : Option D) (S : Store) : Res DV := match o with
  | some d => .ok (.val d) S
  | none => .bad
theorem goMk2_0 {S : Store} : goMk2 (some d) S = (.ok (.val d) S) := rfl
theorem goMk2_1 {S : Store} : goMk2 (none) S = (.bad) := rfl
def goMk (n : Nat) (dfl : List D) (l : Fs) (h : Str) (r : Res (List D)) : Res DV := match r with
  | .ok ds S => if ds.length = n ∧ n ≤ 1000 then goMk2 ((fsD l (ds ++ dfl) []).lookup h) S else .bad
  | .ex c fs S1 => .ex c fs S1
  | .bad => .bad
theorem goMk_0 {n : Nat} {dfl : List D} {l : Fs} {h : Str} : goMk n dfl l h (.ok ds S) = (if ds.length = n ∧ n ≤ 1000 then goMk2 ((fsD l (ds ++ dfl) []).lookup h) S else .bad) := rfl
theorem goMk_1 {n : Nat} {dfl : List D} {l : Fs} {h : Str} : goMk n dfl l h (.ex c fs S1) = (.ex c fs S1) := rfl
theorem goMk_2 {n : Nat} {dfl : List D} {l : Fs} {h : Str} : goMk n dfl l h (.bad) = (.bad) := rfl
theorem x_mMkF {n : Nat} {dfl : List D} {l : Fs} {h : Str} {ms : M (List D)} : mMkF n dfl l h ms E S = goMk n dfl l h (ms E S) := by kernel_rfl
def goRun (r : RS) : Res DV := match r with
  | .nx E S => .ok (.val .non) S
  | .rt x S => .ok x S
  | .ex c fs E S => .ex c fs S
  | .bk E S => .bad
  | .ct E S => .bad
  | .bad => .bad
theorem goRun_0  : goRun (.nx E S) = (.ok (.val .non) S) := rfl
theorem goRun_1  : goRun (.rt x S) = (.ok x S) := rfl
theorem goRun_2  : goRun (.ex c fs E S) = (.ex c fs S) := rfl
theorem goRun_3  : goRun (.bk E S) = (.bad) := rfl
theorem goRun_4  : goRun (.ct E S) = (.bad) := rfl
theorem goRun_5  : goRun (.bad) = (.bad) := rfl
theorem x_runB {n : Nat} {b : MS} {ds : List D} : runB n b ds S = goRun (b (slots0 n ds) S) := by unfold runB goRun; cases b (slots0 n ds) S <;> rfl
def goCh3 (g : F2) (d : D) (r : Res DV) (b : M DV) (E : Ev) : Res DV := match r with
  | .ok (.val (.bl true)) S => goB2 g d (b E S)
  | .ok (.val (.bl false)) S => .ok (.val (.bl false)) S
  | _ => .bad
theorem goCh3_0 {g : F2} {d : D} {b : M DV} {E : Ev} : goCh3 g d (.ok (.val (.bl true)) S) b E = (goB2 g d (b E S)) := rfl
theorem goCh3_1 {g : F2} {d : D} {b : M DV} {E : Ev} : goCh3 g d (.ok (.val (.bl false)) S) b E = (.ok (.val (.bl false)) S) := rfl
def goCh2 (f g : F2) (d : D) (r : Res DV) (b : M DV) (E : Ev) : Res DV := match r with
  | .ok y S => goCh3 g y.frz (f d y.frz S) b E
  | .ex c fs S1 => .ex c fs S1
  | .bad => .bad
theorem goCh2_0 {f g : F2} {d : D} {b : M DV} {E : Ev} : goCh2 f g d (.ok y S) b E = (goCh3 g y.frz (f d y.frz S) b E) := rfl
theorem goCh2_1 {f g : F2} {d : D} {b : M DV} {E : Ev} : goCh2 f g d (.ex c fs S1) b E = (.ex c fs S1) := rfl
theorem goCh2_2 {f g : F2} {d : D} {b : M DV} {E : Ev} : goCh2 f g d (.bad) b E = (.bad) := rfl
def goCh (f g : F2) (r : Res DV) (a b : M DV) (E : Ev) : Res DV := match r with
  | .ok x S => goCh2 f g x.frz (a E S) b E
  | .ex c fs S1 => .ex c fs S1
  | .bad => .bad
theorem goCh_0 {f g : F2} {a b : M DV} {E : Ev} : goCh f g (.ok x S) a b E = (goCh2 f g x.frz (a E S) b E) := rfl
theorem goCh_1 {f g : F2} {a b : M DV} {E : Ev} : goCh f g (.ex c fs S1) a b E = (.ex c fs S1) := rfl
theorem goCh_2 {f g : F2} {a b : M DV} {E : Ev} : goCh f g (.bad) a b E = (.bad) := rfl
theorem x_mCh {f g : F2} {m a b : M DV} : mCh f g m a b E S = goCh f g (m E S) a b E := by kernel_rfl
def goIx (o : Option D) (S : Store) : Res DV := match o with
  | some d => .ok (.val d) S
  | none => .bad
theorem goIx_0 {S : Store} : goIx (some d) S = (.ok (.val d) S) := rfl
theorem goIx_1 {S : Store} : goIx (none) S = (.bad) := rfl
theorem x_ixl {xs : List D} {i : Int} : ixD (.lst xs) (.int i) S = goIx (atI xs i) S := by kernel_rfl
theorem x_ixt {xs : List D} {i : Int} : ixD (.tup xs) (.int i) S = goIx (atI xs i) S := by kernel_rfl
noncomputable def goFor (r : Res Wk) (mg : MG) (b : MS) (E : Ev) : RS := match r with
  | .ok t S => loopS mg b t t.ds E S
  | .ex c fs S1 => .ex c fs E S1
  | .bad => .bad
theorem goFor_0 {t : Wk} {mg : MG} {b : MS} {E : Ev} : goFor (.ok t S) mg b E = (loopS mg b t t.ds E S) := rfl
theorem goFor_1 {mg : MG} {b : MS} {E : Ev} : goFor (.ex c fs S1) mg b E = (.ex c fs E S1) := rfl
theorem goFor_2 {mg : MG} {b : MS} {E : Ev} : goFor (.bad) mg b E = (.bad) := rfl
theorem x_forS {mi : M Wk} {mg : MG} {b : MS} : forS mi mg b E S = goFor (mi E S) mg b E := by kernel_rfl
noncomputable def goL2 (r : RS) (mg : MG) (b : MS) (w ds : List D) : RS := match r with
  | .nx E S => loopS mg b ⟨w, none⟩ ds E S
  | .ct E S => loopS mg b ⟨w, none⟩ ds E S
  | .bk E S => .nx E S
  | .rt x S => .rt x S
  | .ex c fs E S => .ex c fs E S
  | .bad => .bad
theorem goL2_0 {mg : MG} {b : MS} {w ds : List D} : goL2 (.nx E S) mg b w ds = (loopS mg b ⟨w, none⟩ ds E S) := rfl
theorem goL2_1 {mg : MG} {b : MS} {w ds : List D} : goL2 (.ct E S) mg b w ds = (loopS mg b ⟨w, none⟩ ds E S) := rfl
theorem goL2_2 {mg : MG} {b : MS} {w ds : List D} : goL2 (.bk E S) mg b w ds = (.nx E S) := rfl
theorem goL2_3 {mg : MG} {b : MS} {w ds : List D} : goL2 (.rt x S) mg b w ds = (.rt x S) := rfl
theorem goL2_4 {mg : MG} {b : MS} {w ds : List D} : goL2 (.ex c fs E S) mg b w ds = (.ex c fs E S) := rfl
theorem goL2_5 {mg : MG} {b : MS} {w ds : List D} : goL2 (.bad) mg b w ds = (.bad) := rfl
noncomputable def goL (o : Option Ev) (mg : MG) (b : MS) (w ds : List D) (S : Store) : RS := match o with
  | some E => goL2 (b E S) mg b w ds
  | none => .bad
theorem goL_0 {mg : MG} {b : MS} {w ds : List D} {S : Store} : goL (some E) mg b w ds S = (goL2 (b E S) mg b w ds) := rfl
theorem goL_1 {mg : MG} {b : MS} {w ds : List D} {S : Store} : goL (none) mg b w ds S = (.bad) := rfl
theorem x_loopN {mg : MG} {b : MS} {w : List D} : loopS mg b ⟨w, none⟩ [] E S = .nx E S := by unfold loopS; rw [chk_none]
theorem x_loopC {mg : MG} {b : MS} {w : List D} {d : D} {ds : List D} : loopS mg b ⟨w, none⟩ (d :: ds) E S = goL (mg d E S) mg b w ds S := by
  conv => lhs; unfold loopS
  rw [chk_none]
  cases mg d E S with
  | none => rfl
  | some E1 =>
    show _ = goL2 (b E1 S) mg b w ds
    dsimp only
    cases b E1 S <;> rfl
def goR1 (r : Res (List D)) : Res Wk := match r with
  | .ok [.int i] S => if fit62 i then .ok (rngL 0 i.toNat) S else .bad
  | .ex c fs S1 => .ex c fs S1
  | .bad => .bad
  | _ => .bad
theorem goR1_0 {i : Int}  : goR1 (.ok [.int i] S) = (if fit62 i then .ok (rngL 0 i.toNat) S else .bad) := rfl
theorem goR1_1  : goR1 (.ex c fs S1) = (.ex c fs S1) := rfl
theorem goR1_2  : goR1 (.bad) = (.bad) := rfl
theorem x_mR1 {ms : M (List D)} : mR1 ms E S = goR1 (ms E S) := by unfold mR1 bnd goR1; cases ms E S with | ok xs S1 => (dsimp only; cases xs with | nil => rfl | cons d r => cases r with | nil => cases d <;> rfl | cons e r => cases d <;> rfl) | ex c fs S1 => rfl | bad => rfl
def goTy (r : RS) (cs : List Str) (sub : Str → Str → Bool) (k : Str) (i : Nat) (mh : MH) : RS := match r with
  | .ex c fs E S => if c ∈ cs ∧ i < E.length then (if sub c k = true then wipeS i (mh c fs (E.set i none) S) else .ex c fs E S) else .bad
  | .nx E S => .nx E S
  | .rt x S => .rt x S
  | .bk E S => .bk E S
  | .ct E S => .ct E S
  | .bad => .bad
theorem goTy_0 {cs : List Str} {sub : Str → Str → Bool} {k : Str} {i : Nat} {mh : MH} : goTy (.ex c fs E S) cs sub k i mh = (if c ∈ cs ∧ i < E.length then (if sub c k = true then wipeS i (mh c fs (E.set i none) S) else .ex c fs E S) else .bad) := rfl
theorem goTy_1 {cs : List Str} {sub : Str → Str → Bool} {k : Str} {i : Nat} {mh : MH} : goTy (.nx E S) cs sub k i mh = (.nx E S) := rfl
theorem goTy_2 {cs : List Str} {sub : Str → Str → Bool} {k : Str} {i : Nat} {mh : MH} : goTy (.rt x S) cs sub k i mh = (.rt x S) := rfl
theorem goTy_3 {cs : List Str} {sub : Str → Str → Bool} {k : Str} {i : Nat} {mh : MH} : goTy (.bk E S) cs sub k i mh = (.bk E S) := rfl
theorem goTy_4 {cs : List Str} {sub : Str → Str → Bool} {k : Str} {i : Nat} {mh : MH} : goTy (.ct E S) cs sub k i mh = (.ct E S) := rfl
theorem goTy_5 {cs : List Str} {sub : Str → Str → Bool} {k : Str} {i : Nat} {mh : MH} : goTy (.bad) cs sub k i mh = (.bad) := rfl
theorem x_tryS {cs : List Str} {sub : Str → Str → Bool} {k : Str} {i : Nat} {mb : MS} {mh : MH} : tryS cs sub k i mb mh E S = goTy (mb E S) cs sub k i mh := by unfold tryS goTy; cases mb E S <;> rfl
def goFl (o : Option D) (j : Nat) (E : Ev) (S : Store) : RS := match o with
  | some d => .nx (E.set j (some (.val d))) S
  | none => .bad
theorem goFl_0 {j : Nat} {E : Ev} {S : Store} : goFl (some d) j E S = (.nx (E.set j (some (.val d))) S) := rfl
theorem goFl_1 {j : Nat} {E : Ev} {S : Store} : goFl (none) j E S = (.bad) := rfl
theorem x_fldH {j : Nat} {h c : Str} {fs : List (Str × D)} : fldH j h c fs E S = goFl (fs.lookup h) j E S := by kernel_rfl
theorem x_wipenx {i : Nat} : wipeS i (.nx E S) = .nx (E.set i none) S := rfl
theorem x_wipert {i : Nat} : wipeS i (.rt x S) = .rt x S := rfl
theorem x_wipebk {i : Nat} : wipeS i (.bk E S) = .bk (E.set i none) S := rfl
theorem x_wipect {i : Nat} : wipeS i (.ct E S) = .ct (E.set i none) S := rfl
theorem x_fzv {d : D} : DV.frz (.val d) = d := rfl
theorem x_fzl {ds : List D} : DV.frz (.ol ds) = .lst ds := rfl
theorem x_fzd {ds : List (Key × D)} : DV.frz (.od ds) = .dct ds := rfl
theorem x_fine {d : D} : fine d S = .ok (.val d) S := rfl
theorem x_isNn : isN .non = true := rfl
theorem x_isNi {i : Int} : isN (.int i) = false := rfl
theorem x_isNs {i : Str} : isN (.str i) = false := rfl
theorem x_isNb {i : Bool} : isN (.bl i) = false := rfl
theorem x_isNt {i : List D} : isN (.tup i) = false := rfl
theorem x_isNl {i : List D} : isN (.lst i) = false := rfl
theorem x_isNd {i : List (Key × D)} : isN (.dct i) = false := rfl
theorem x_swD {a b : Str} : swD a (.str b) S = .ok (.val (.bl (Txt.startswith a b))) S := rfl
theorem x_ewD {a b : Str} : ewD a (.str b) S = .ok (.val (.bl (Txt.endswith a b))) S := rfl
end
end Hm
set_option Elab.async false
set_option linter.all false
set_option maxRecDepth 100000
set_option maxHeartbeats 4000000
namespace Wk57
open PySem PySem.Spec L2 Hm
def top (i : Nat) : Stmt := PySem.Challenge.pw_hodman_k57_texts_of_no_deed.main.body.getD i (.Pass ⟨0, 0, 0, 0⟩)
def tab_FORMS : List (Str × D) := [("stuff", .str "nk"), ("stock", .str "nkk"), ("gone", .str "n"), ("work", .str "nw"), ("drop", .str "n"), ("tie", .str "knnk"), ("cut", .str "k"), ("shut", .str "k"), ("unshut", .str "k"), ("wait", .str "nk"), ("begun", .str "nk"), ("any", .str "n"), ("forget", .str ""), ("keep", .str "")]
def tab_READERS : List (Str × D) := [("n", .obj "name_in"), ("k", .obj "number_in"), ("w", .obj "ways_in")]
def mth (i j : Nat) : Stmt := (C8.clsBody (top i)).getD j (.Pass ⟨0, 0, 0, 0⟩)
abbrev sx_BadText : Stmt := mth 2 0
def Nx_BadText : List Str := ["self", "row"]
theorem scx_BadText : FnScope Nx_BadText ["self", "row"] (defScope sx_BadText) := ⟨rfl, rfl, rfl, by decide +kernel, rfl, by decide +kernel, by decide +kernel⟩
def xcs : List Str := ["BadText"]
def xks : List Str := ["BadText"]
def xprs : List (Str × Str) := [("BadText", "BadText")]
def xsub : Str → Str → Bool := fun c k => decide ((c, k) ∈ xprs)
structure Fx (G : Gs) : Prop where
  g__law_menu : G.mg "_law_menu" = some (.ref (He.ga G.K "_law_menu"))
  g__law_pull : G.mg "_law_pull" = some (.ref (He.ga G.K "_law_pull"))
  g__law_any_deed : G.mg "_law_any_deed" = some (.ref (He.ga G.K "_law_any_deed"))
  g__law_named : G.mg "_law_named" = some (.ref (He.ga G.K "_law_named"))
  g__law_figures : G.mg "_law_figures" = some (.ref (He.ga G.K "_law_figures"))
  g__law_number_in : G.mg "_law_number_in" = some (.ref (He.ga G.K "_law_number_in"))
  g__law_need_in : G.mg "_law_need_in" = some (.ref (He.ga G.K "_law_need_in"))
  g__law_way_in : G.mg "_law_way_in" = some (.ref (He.ga G.K "_law_way_in"))
  g__law_thing_in : G.mg "_law_thing_in" = some (.ref (He.ga G.K "_law_thing_in"))
  g__law_deed_in : G.mg "_law_deed_in" = some (.ref (He.ga G.K "_law_deed_in"))
  g__law_num : G.mg "_law_num" = some (.ref (He.ga G.K "_law_num"))
  g__law_like : G.mg "_law_like" = some (.ref (He.ga G.K "_law_like"))
  g__law_open : G.mg "_law_open" = some (.ref (He.ga G.K "_law_open"))
  g_is_name : G.mg "is_name" = some (.ref (He.ga G.K "is_name"))
  g_name_in : G.mg "name_in" = some (.ref (He.ga G.K "name_in"))
  g_figures_in : G.mg "figures_in" = some (.ref (He.ga G.K "figures_in"))
  g_number_in : G.mg "number_in" = some (.ref (He.ga G.K "number_in"))
  g_need_in : G.mg "need_in" = some (.ref (He.ga G.K "need_in"))
  g_way_in : G.mg "way_in" = some (.ref (He.ga G.K "way_in"))
  g_ways_in : G.mg "ways_in" = some (.ref (He.ga G.K "ways_in"))
  g_thing_in : G.mg "thing_in" = some (.ref (He.ga G.K "thing_in"))
  g_read_deed : G.mg "read_deed" = some (.ref (He.ga G.K "read_deed"))
  g__law_read : G.mg "_law_read" = some (.ref (He.ga G.K "_law_read"))
  g__law_spoilt : G.mg "_law_spoilt" = some (.ref (He.ga G.K "_law_spoilt"))
  g__law_way_text : G.mg "_law_way_text" = some (.ref (He.ga G.K "_law_way_text"))
  g__law_text : G.mg "_law_text" = some (.ref (He.ga G.K "_law_text"))
  g_law : G.mg "law" = some (.ref (He.ga G.K "law"))
  d__law_menu : ∃ fd, FunD G.K "_law_menu" "_law_menu" (defArgs (top 26)) (defBody (top 26)) (defScope (top 26)) [] [] (He.ga G.K "_law_menu") fd
  d__law_pull : ∃ fd, FunD G.K "_law_pull" "_law_pull" (defArgs (top 22)) (defBody (top 22)) (defScope (top 22)) [] [] (He.ga G.K "_law_pull") fd
  d__law_any_deed : ∃ fd, FunD G.K "_law_any_deed" "_law_any_deed" (defArgs (top 36)) (defBody (top 36)) (defScope (top 36)) [] [] (He.ga G.K "_law_any_deed") fd
  d__law_named : ∃ fd, FunD G.K "_law_named" "_law_named" (defArgs (top 25)) (defBody (top 25)) (defScope (top 25)) [] [] (He.ga G.K "_law_named") fd
  d__law_figures : ∃ fd, FunD G.K "_law_figures" "_law_figures" (defArgs (top 29)) (defBody (top 29)) (defScope (top 29)) [] [] (He.ga G.K "_law_figures") fd
  d__law_number_in : ∃ fd, FunD G.K "_law_number_in" "_law_number_in" (defArgs (top 30)) (defBody (top 30)) (defScope (top 30)) [] [] (He.ga G.K "_law_number_in") fd
  d__law_need_in : ∃ fd, FunD G.K "_law_need_in" "_law_need_in" (defArgs (top 31)) (defBody (top 31)) (defScope (top 31)) [] [] (He.ga G.K "_law_need_in") fd
  d__law_way_in : ∃ fd, FunD G.K "_law_way_in" "_law_way_in" (defArgs (top 32)) (defBody (top 32)) (defScope (top 32)) [] [] (He.ga G.K "_law_way_in") fd
  d__law_thing_in : ∃ fd, FunD G.K "_law_thing_in" "_law_thing_in" (defArgs (top 33)) (defBody (top 33)) (defScope (top 33)) [] [] (He.ga G.K "_law_thing_in") fd
  d__law_deed_in : ∃ fd, FunD G.K "_law_deed_in" "_law_deed_in" (defArgs (top 34)) (defBody (top 34)) (defScope (top 34)) [] [] (He.ga G.K "_law_deed_in") fd
  d__law_num : ∃ fd, FunD G.K "_law_num" "_law_num" (defArgs (top 23)) (defBody (top 23)) (defScope (top 23)) [] [] (He.ga G.K "_law_num") fd
  d__law_like : ∃ fd, FunD G.K "_law_like" "_law_like" (defArgs (top 24)) (defBody (top 24)) (defScope (top 24)) [] [] (He.ga G.K "_law_like") fd
  d__law_open : ∃ fd, FunD G.K "_law_open" "_law_open" (defArgs (top 21)) (defBody (top 21)) (defScope (top 21)) [] [] (He.ga G.K "_law_open") fd
  d_is_name : ∃ fd, FunD G.K "is_name" "is_name" (defArgs (top 6)) (defBody (top 6)) (defScope (top 6)) [] [] (He.ga G.K "is_name") fd
  d_name_in : ∃ fd, FunD G.K "name_in" "name_in" (defArgs (top 16)) (defBody (top 16)) (defScope (top 16)) [] [] (He.ga G.K "name_in") fd
  d_figures_in : ∃ fd, FunD G.K "figures_in" "figures_in" (defArgs (top 11)) (defBody (top 11)) (defScope (top 11)) [] [] (He.ga G.K "figures_in") fd
  d_number_in : ∃ fd, FunD G.K "number_in" "number_in" (defArgs (top 12)) (defBody (top 12)) (defScope (top 12)) [] [] (He.ga G.K "number_in") fd
  d_need_in : ∃ fd, FunD G.K "need_in" "need_in" (defArgs (top 13)) (defBody (top 13)) (defScope (top 13)) [] [] (He.ga G.K "need_in") fd
  d_way_in : ∃ fd, FunD G.K "way_in" "way_in" (defArgs (top 14)) (defBody (top 14)) (defScope (top 14)) [] [] (He.ga G.K "way_in") fd
  d_ways_in : ∃ fd, FunD G.K "ways_in" "ways_in" (defArgs (top 15)) (defBody (top 15)) (defScope (top 15)) [] [] (He.ga G.K "ways_in") fd
  d_thing_in : ∃ fd, FunD G.K "thing_in" "thing_in" (defArgs (top 18)) (defBody (top 18)) (defScope (top 18)) [] [] (He.ga G.K "thing_in") fd
  d_read_deed : ∃ fd, FunD G.K "read_deed" "read_deed" (defArgs (top 19)) (defBody (top 19)) (defScope (top 19)) [] [] (He.ga G.K "read_deed") fd
  d__law_read : ∃ fd, FunD G.K "_law_read" "_law_read" (defArgs (top 37)) (defBody (top 37)) (defScope (top 37)) [] [] (He.ga G.K "_law_read") fd
  d__law_spoilt : ∃ fd, FunD G.K "_law_spoilt" "_law_spoilt" (defArgs (top 35)) (defBody (top 35)) (defScope (top 35)) [] [] (He.ga G.K "_law_spoilt") fd
  d__law_way_text : ∃ fd, FunD G.K "_law_way_text" "_law_way_text" (defArgs (top 27)) (defBody (top 27)) (defScope (top 27)) [] [] (He.ga G.K "_law_way_text") fd
  d__law_text : ∃ fd, FunD G.K "_law_text" "_law_text" (defArgs (top 28)) (defBody (top 28)) (defScope (top 28)) [] [] (He.ga G.K "_law_text") fd
  d_law : ∃ fd, FunD G.K "law" "law" (defArgs (top 38)) (defBody (top 38)) (defScope (top 38)) [] [] (He.ga G.K "law") fd
  b_all : G.mg "all" = none
  b_bool : G.mg "bool" = none
  b_int : G.mg "int" = none
  b_isinstance : G.mg "isinstance" = none
  b_len : G.mg "len" = none
  b_list : G.mg "list" = none
  b_range : G.mg "range" = none
  b_str : G.mg "str" = none
  b_tuple : G.mg "tuple" = none
  b_zip : G.mg "zip" = none
  c_LETTERS : ∃ u, G.mg "LETTERS" = some u ∧ RelV (.str "abcdefghijklmnopqrstuvwxyz") u
  c_MOST_SIGNS : ∃ u, G.mg "MOST_SIGNS" = some u ∧ RelV (.int 8) u
  c_FIGURES : ∃ u, G.mg "FIGURES" = some u ∧ RelV (.str "0123456789") u
  c_MOST_FIGURES : ∃ u, G.mg "MOST_FIGURES" = some u ∧ RelV (.int 3) u
  t_FORMS : TabD G "FORMS" tab_FORMS
  t_READERS : TabD G "READERS" tab_READERS
  gx_BadText : G.mg "BadText" = some (.ref (He.ga G.K "BadText"))
  xc_BadText : xclB G.K .ve "BadText" ["row", "word"] = true
  dx_BadText : ∃ fd, FunD G.K "__init__" "BadText.__init__" (defArgs sx_BadText) (defBody sx_BadText) (defScope sx_BadText) [.int 0] [] (He.ma G.K (He.ga G.K "BadText") "__init__") fd
  em : emB G.K xcs xks xsub = true
variable {G : Gs}
theorem xcl_BadText (X : Fx G) : XCl G.K .ve "BadText" ["row", "word"] := xcl_of X.xc_BadText
theorem ini_BadText : IniB Nx_BadText (defScope sx_BadText) (defBody sx_BadText) [("word", .txt "badtext"), ("row", .arg 0)] :=
  (.txt (fun _ => rfl) (.arg rfl (by first | exact Or.inl rfl | exact Or.inr (Or.inl rfl) | exact Or.inr (Or.inr rfl)) (by decide) (by decide) (fun _ => rfl) IniB.nil))
theorem mk_BadText_0 (X : Fx G) : XMk G "BadText" 0 [.int 0] [("word", .txt "badtext"), ("row", .arg 0)] := by
  obtain ⟨fd, Fn⟩ := X.dx_BadText
  exact xmk_of (vs := [.int 0]) X.gx_BadText (xcl_BadText X) Fn scx_BadText ini_BadText (Fn.binds1 (n := 1) (j := 0) (by simp) rfl (fun _ _ _ _ _ _ _ us its hu hi => match us, its, hu, hi with | [_], [_], _, _ => ⟨_, rfl, rfl⟩)) (fun _ _ => .cons (by constructor) .nil) rfl (by decide) (by decide) (by simp) (by decide) rfl (by first | exact Or.inl rfl | exact Or.inr (Or.inl rfl) | exact Or.inr (Or.inr rfl))
theorem mk_BadText_1 (X : Fx G) : XMk G "BadText" 1 [] [("word", .txt "badtext"), ("row", .arg 0)] := by
  obtain ⟨fd, Fn⟩ := X.dx_BadText
  exact xmk_of (vs := []) X.gx_BadText (xcl_BadText X) Fn scx_BadText ini_BadText (Fn.binds1 (n := 2) (j := 1) (by simp) rfl (fun _ _ _ _ _ _ _ us its hu hi => match us, its, hu, hi with | [_, _], [_], _, _ => ⟨_, rfl, rfl⟩)) (fun _ _ => .nil) rfl (by decide) (by decide) (by simp) (by decide) rfl (by first | exact Or.inl rfl | exact Or.inr (Or.inl rfl) | exact Or.inr (Or.inr rfl))
theorem xt (X : Fx G) : XTab G xcs xsub xks ["row"] where
  mg := fun k hk => by
    simp only [xks, List.mem_cons, List.not_mem_nil, or_false] at hk
    rcases hk with rfl
    all_goals first | exact X.gx_BadText
  xf := fun c hc => by
    simp only [xcs, List.mem_cons, List.not_mem_nil, or_false] at hc
    rcases hc with rfl
    all_goals first | exact (xcl_BadText X).ox.xf
  no := fun c hc f hf => by
    simp only [xcs, List.mem_cons, List.not_mem_nil, or_false] at hc
    rcases hc with rfl
    all_goals first | exact (xcl_BadText X).no _ (by revert hf; simp; try (intro h; simp [h]))
  em := em_of X.em
abbrev s__law_menu : Stmt := top 26
def N__law_menu : List Str := []
theorem sc__law_menu : FnScope N__law_menu [] (defScope s__law_menu) := ⟨rfl, rfl, rfl, by decide +kernel, rfl, by decide +kernel, by decide +kernel⟩
noncomputable def m__law_menu : MS := (retS (mLst (mCons (mK (.str "ox")) (mCons (mK (.str "oxen")) (mCons (mK (.str "elm")) (mCons (mK (.str "elms")) (mCons (mK (.str "elmtree")) (mCons (mK (.str "zzzzzzzz")) (mCons (mK (.str "zzzzzzzy")) (mCons (mK (.str "a")) (mCons (mK (.str "yew")) (mCons (mK (.str "oz")) mNil))))))))))))
noncomputable def F__law_menu : FD := runB N__law_menu.length m__law_menu
theorem k__law_menu (X : Fx G) : DSs G 0 N__law_menu (defScope s__law_menu) (defBody s__law_menu) m__law_menu :=
  (dss_one (ds_ret (de_lst (da_cons de_str (da_cons de_str (da_cons de_str (da_cons de_str (da_cons de_str (da_cons de_str (da_cons de_str (da_cons de_str (da_cons de_str (da_cons de_str da_nil)))))))))))))
theorem ok__law_menu (X : Fx G) : FOk G 1 (He.ga G.K "_law_menu") [] F__law_menu := by
  obtain ⟨fd, Fn⟩ := X.d__law_menu
  exact fok Fn sc__law_menu (fun _ _ _ _ _ _ us hl => match us, hl with | [], _ => rfl) (k__law_menu X)
abbrev s__law_pull : Stmt := top 22
def N__law_pull : List Str := ["_law_draw", "_law_total_of", "_law_seed", "_law_cell", "_law_got"]
theorem sc__law_pull : FnScope N__law_pull ["_law_draw", "_law_total_of"] (defScope s__law_pull) := ⟨rfl, rfl, rfl, by decide +kernel, rfl, by decide +kernel, by decide +kernel⟩
noncomputable def m__law_pull : MS := (seqS (ifS (mAnd (mTst (mBin ltD (mBin ixD (mVar 0) (mK (.int 2))) (mVar 1))) (mTst (mBin ltD (mBin ixD (mVar 0) (mK (.int 1))) (mF lenD (mCons (mBin ixD (mVar 0) (mK (.int 0))) mNil))))) (seqS (setS 3 (mBin ixD (mBin ixD (mVar 0) (mK (.int 0))) (mBin ixD (mVar 0) (mK (.int 1))))) (seqS (setIxS (mBin addD (mBin ixD (mVar 0) (mK (.int 1))) (mK (.int 1))) (mPv 0) (mK (.int 1))) (seqS (setIxS (mK (.int 0)) (mPv 0) (mK (.int 2))) (ifS (mTst (mBin geD (mVar 3) (mBin powD (mK (.int 10)) (mK (.int 18))))) (setIxS (mVar 3) (mPv 0) (mK (.int 2))) (setIxS (mBin modD (mBin addD (mBin addD (mBin mulD (mBin ixD (mVar 0) (mK (.int 3))) (mK (.int 40692))) (mBin mulD (mBin modD (mVar 3) (mK (.int 2147483629))) (mK (.int 69621)))) (mK (.int 104729))) (mK (.int 2147483647))) (mPv 0) (mK (.int 3))))))) nextS) (seqS (ifS (mTst (mBin geD (mBin ixD (mVar 0) (mK (.int 2))) (mVar 1))) (seqS (setS 4 (mBin modD (mBin ixD (mVar 0) (mK (.int 2))) (mVar 1))) (seqS (setIxS (mBin fdivD (mBin ixD (mVar 0) (mK (.int 2))) (mVar 1)) (mPv 0) (mK (.int 2))) (retVarS 4))) nextS) (seqS (setS 2 (mBin ixD (mVar 0) (mK (.int 3)))) (seqS (setIxS (mBin modD (mBin addD (mBin addD (mBin mulD (mBin modD (mBin mulD (mVar 2) (mVar 2)) (mK (.int 2147483587))) (mK (.int 5))) (mBin mulD (mVar 2) (mK (.int 16807)))) (mK (.int 1013904229))) (mK (.int 2147483647))) (mPv 0) (mK (.int 3))) (retS (mBin modD (mBin addD (mBin fdivD (mBin ixD (mVar 0) (mK (.int 3))) (mK (.int 53))) (mBin mulD (mBin modD (mBin ixD (mVar 0) (mK (.int 3))) (mK (.int 8191))) (mK (.int 31)))) (mVar 1)))))))
noncomputable def F__law_pull : FD := runB N__law_pull.length m__law_pull
theorem k__law_pull (X : Fx G) : DSs G 0 N__law_pull (defScope s__law_pull) (defBody s__law_pull) m__law_pull :=
  (dss_cons (ds_if (dt_bool (dw_and (dt_cmpR cr_lt (de_ix (de_name 0) de_int) (de_name 1)) (dw_and1 (dt_cmpR cr_lt (de_ix (de_name 0) de_int) (de_cB (fun X c => c.cK ▸ cl_len) snd_len X.b_len (da_cons (de_ix (de_name 0) de_int) da_nil)))))) (dss_cons (ds_set 3 (de_ix (de_ix (de_name 0) de_int) (de_ix (de_name 0) de_int))) (dss_cons (ds_setIx (de_add (de_ix (de_name 0) de_int) de_int) (dp_name 0) de_int) (dss_cons (ds_setIx de_int (dp_name 0) de_int) (dss_one (ds_if (dt_cmpR cr_ge (de_name 3) (de_pow de_int de_int)) (dss_one (ds_setIx (de_name 3) (dp_name 0) de_int)) (dss_one (ds_setIx (de_mod (de_add (de_add (de_mul (de_ix (de_name 0) de_int) de_int) (de_mul (de_mod (de_name 3) de_int) de_int)) de_int) de_int) (dp_name 0) de_int))))))) dss_nil) (dss_cons (ds_if (dt_cmpR cr_ge (de_ix (de_name 0) de_int) (de_name 1)) (dss_cons (ds_set 4 (de_mod (de_ix (de_name 0) de_int) (de_name 1))) (dss_cons (ds_setIx (de_fdiv (de_ix (de_name 0) de_int) (de_name 1)) (dp_name 0) de_int) (dss_one (ds_retVar 4)))) dss_nil) (dss_cons (ds_set 2 (de_ix (de_name 0) de_int)) (dss_cons (ds_setIx (de_mod (de_add (de_add (de_mul (de_mod (de_mul (de_name 2) (de_name 2)) de_int) de_int) (de_mul (de_name 2) de_int)) de_int) de_int) (dp_name 0) de_int) (dss_one (ds_ret (de_mod (de_add (de_fdiv (de_ix (de_name 0) de_int) de_int) (de_mul (de_mod (de_ix (de_name 0) de_int) de_int) de_int)) (de_name 1))))))))
theorem ok__law_pull (X : Fx G) : FOk G 1 (He.ga G.K "_law_pull") ["_law_draw", "_law_total_of"] F__law_pull := by
  obtain ⟨fd, Fn⟩ := X.d__law_pull
  exact fok Fn sc__law_pull (fun _ _ _ _ _ _ us hl => match us, hl with | [_, _], _ => rfl) (k__law_pull X)
abbrev s__law_any_deed : Stmt := top 36
def N__law_any_deed : List Str := ["_law_draw", "_law_menu_here", "_law_number", "_law_room", "_law_modes", "_law_k", "_law_some", "_law_name", "_law_other", "_law_many", "_law_j"]
theorem sc__law_any_deed : FnScope N__law_any_deed ["_law_draw"] (defScope s__law_any_deed) := ⟨rfl, rfl, rfl, by decide +kernel, rfl, by decide +kernel, by decide +kernel⟩
noncomputable def m__law_any_deed : MS := (seqS (setS 1 (mCall F__law_menu 0 mNil)) (seqS (frzS 1 (parS 7 8 (mCons (mBin ixD (mVar 1) (mCall F__law_pull 2 (mCons (mVar 0) (mCons (mK (.int 10)) mNil)))) (mCons (mBin ixD (mVar 1) (mCall F__law_pull 2 (mCons (mVar 0) (mCons (mK (.int 10)) mNil)))) mNil)))) (seqS (setS 2 (mBin ixD (mLst (mCons (mCall F__law_pull 2 (mCons (mVar 0) (mCons (mK (.int 10)) mNil))) (mCons (mCall F__law_pull 2 (mCons (mVar 0) (mCons (mK (.int 1000)) mNil))) mNil))) (mCall F__law_pull 2 (mCons (mVar 0) (mCons (mK (.int 2)) mNil))))) (seqS (setS 3 (mBin subD (mCall F__law_pull 2 (mCons (mVar 0) (mCons (mK (.int 1999)) mNil))) (mK (.int 999)))) (seqS (setS 4 (mLst mNil)) (seqS (forS (mR1 (mCons (mBin addD (mK (.int 1)) (mCall F__law_pull 2 (mCons (mVar 0) (mCons (mK (.int 4)) mNil)))) mNil)) (gN 5) (seqS (setS 9 (mCall F__law_pull 2 (mCons (mVar 0) (mCons (mK (.int 3)) mNil)))) (seqS (frzS 1 (setS 6 (mLc (mR1 (mCons (mVar 9) mNil)) (gN 10) mYes (mTup (mCons (mBin ixD (mVar 1) (mCall F__law_pull 2 (mCons (mVar 0) (mCons (mK (.int 10)) mNil)))) (mCons (mCall F__law_pull 2 (mCons (mVar 0) (mCons (mK (.int 1000)) mNil))) mNil))) [("_law_j", 10)]))) (frzS 6 (appS (mPv 4) (mCons (mTup (mCons (mCall F__law_pull 2 (mCons (mVar 0) (mCons (mK (.int 1000)) mNil))) (mCons (mCall F__law_pull 2 (mCons (mVar 0) (mCons (mK (.int 2)) mNil))) (mCons (mF tupD (mCons (mVar 6) mNil)) mNil)))) mNil)))))) (seqS (frzS 4 (setS 6 (mLst (mCons (mTup (mCons (mK (.str "stuff")) (mCons (mVar 7) (mCons (mVar 3) mNil)))) (mCons (mTup (mCons (mK (.str "stock")) (mCons (mVar 7) (mCons (mVar 2) (mCons (mVar 3) mNil))))) (mCons (mTup (mCons (mK (.str "gone")) (mCons (mVar 7) mNil))) (mCons (mTup (mCons (mK (.str "work")) (mCons (mVar 7) (mCons (mF tupD (mCons (mVar 4) mNil)) mNil)))) mNil))))))) (seqS (frzS 6 (setS 6 (mBin addD (mVar 6) (mLst (mCons (mTup (mCons (mK (.str "drop")) (mCons (mVar 7) mNil))) (mCons (mTup (mCons (mK (.str "tie")) (mCons (mVar 2) (mCons (mVar 7) (mCons (mVar 8) (mCons (mVar 3) mNil)))))) (mCons (mTup (mCons (mK (.str "cut")) (mCons (mVar 3) mNil))) (mCons (mTup (mCons (mK (.str "shut")) (mCons (mVar 2) mNil))) mNil)))))))) (seqS (frzS 6 (setS 6 (mBin addD (mVar 6) (mLst (mCons (mTup (mCons (mK (.str "unshut")) (mCons (mVar 3) mNil))) (mCons (mTup (mCons (mK (.str "wait")) (mCons (mVar 7) (mCons (mVar 2) mNil)))) (mCons (mTup (mCons (mK (.str "begun")) (mCons (mVar 7) (mCons (mVar 3) mNil)))) mNil))))))) (seqS (frzS 6 (setS 6 (mBin addD (mVar 6) (mLst (mCons (mTup (mCons (mK (.str "any")) (mCons (mVar 7) mNil))) (mCons (mTup (mCons (mK (.str "forget")) mNil)) (mCons (mTup (mCons (mK (.str "keep")) mNil)) mNil))))))) (frzS 6 (retS (mBin ixD (mVar 6) (mCall F__law_pull 2 (mCons (mVar 0) (mCons (mK (.int 14)) mNil))))))))))))))))
noncomputable def F__law_any_deed : FD := runB N__law_any_deed.length m__law_any_deed
theorem k__law_any_deed (X : Fx G) : DSs G 1 N__law_any_deed (defScope s__law_any_deed) (defBody s__law_any_deed) m__law_any_deed :=
  (dss_cons (ds_set 1 (de_call0 (ok__law_menu X) X.g__law_menu)) (dss_cons (ds_frz 1 (ds_par 7 8 (da_cons (de_ix (de_name 1) (de_call (ok__law_pull X) X.g__law_pull (da_cons (de_name 0) (da_cons de_int da_nil)))) (da_cons (de_ix (de_name 1) (de_call (ok__law_pull X) X.g__law_pull (da_cons (de_name 0) (da_cons de_int da_nil)))) da_nil)) (hw := swap2 rfl rfl rfl))) (dss_cons (ds_set 2 (de_ix (de_lst (da_cons (de_call (ok__law_pull X) X.g__law_pull (da_cons (de_name 0) (da_cons de_int da_nil))) (da_cons (de_call (ok__law_pull X) X.g__law_pull (da_cons (de_name 0) (da_cons de_int da_nil))) da_nil))) (de_call (ok__law_pull X) X.g__law_pull (da_cons (de_name 0) (da_cons de_int da_nil))))) (dss_cons (ds_set 3 (de_sub (de_call (ok__law_pull X) X.g__law_pull (da_cons (de_name 0) (da_cons de_int da_nil))) de_int)) (dss_cons (ds_set 4 (de_lst da_nil)) (dss_cons (ds_for (di_rng1 X.b_range (da_cons (de_add de_int (de_call (ok__law_pull X) X.g__law_pull (da_cons (de_name 0) (da_cons de_int da_nil)))) da_nil)) (dg_name 5) (dss_cons (ds_set 9 (de_call (ok__law_pull X) X.g__law_pull (da_cons (de_name 0) (da_cons de_int da_nil)))) (dss_cons (ds_frz 1 (ds_setLc 6 (di_rng1 X.b_range (da_cons (de_name 9) da_nil)) (dg_name 10) dts_nil (de_tup (da_cons (de_ix (de_name 1) (de_call (ok__law_pull X) X.g__law_pull (da_cons (de_name 0) (da_cons de_int da_nil)))) (da_cons (de_call (ok__law_pull X) X.g__law_pull (da_cons (de_name 0) (da_cons de_int da_nil))) da_nil))))) (dss_one (ds_frz 6 (ds_append (dp_name 4) (da_cons (de_tup (da_cons (de_call (ok__law_pull X) X.g__law_pull (da_cons (de_name 0) (da_cons de_int da_nil))) (da_cons (de_call (ok__law_pull X) X.g__law_pull (da_cons (de_name 0) (da_cons de_int da_nil))) (da_cons (de_cT (fun X c => c.cK ▸ call_tuple_of) snd_tup X.b_tuple (da_cons (de_name 6) da_nil)) da_nil)))) da_nil))))))) (dss_cons (ds_frz 4 (ds_set 6 (de_lst (da_cons (de_tup (da_cons de_str (da_cons (de_name 7) (da_cons (de_name 3) da_nil)))) (da_cons (de_tup (da_cons de_str (da_cons (de_name 7) (da_cons (de_name 2) (da_cons (de_name 3) da_nil))))) (da_cons (de_tup (da_cons de_str (da_cons (de_name 7) da_nil))) (da_cons (de_tup (da_cons de_str (da_cons (de_name 7) (da_cons (de_cT (fun X c => c.cK ▸ call_tuple_of) snd_tup X.b_tuple (da_cons (de_name 4) da_nil)) da_nil)))) da_nil))))))) (dss_cons (ds_frz 6 (ds_set 6 (de_add (de_name 6) (de_lst (da_cons (de_tup (da_cons de_str (da_cons (de_name 7) da_nil))) (da_cons (de_tup (da_cons de_str (da_cons (de_name 2) (da_cons (de_name 7) (da_cons (de_name 8) (da_cons (de_name 3) da_nil)))))) (da_cons (de_tup (da_cons de_str (da_cons (de_name 3) da_nil))) (da_cons (de_tup (da_cons de_str (da_cons (de_name 2) da_nil))) da_nil)))))))) (dss_cons (ds_frz 6 (ds_set 6 (de_add (de_name 6) (de_lst (da_cons (de_tup (da_cons de_str (da_cons (de_name 3) da_nil))) (da_cons (de_tup (da_cons de_str (da_cons (de_name 7) (da_cons (de_name 2) da_nil)))) (da_cons (de_tup (da_cons de_str (da_cons (de_name 7) (da_cons (de_name 3) da_nil)))) da_nil))))))) (dss_cons (ds_frz 6 (ds_set 6 (de_add (de_name 6) (de_lst (da_cons (de_tup (da_cons de_str (da_cons (de_name 7) da_nil))) (da_cons (de_tup (da_cons de_str da_nil)) (da_cons (de_tup (da_cons de_str da_nil)) da_nil))))))) (dss_one (ds_frz 6 (ds_ret (de_ix (de_name 6) (de_call (ok__law_pull X) X.g__law_pull (da_cons (de_name 0) (da_cons de_int da_nil)))))))))))))))))
theorem ok__law_any_deed (X : Fx G) : FOk G 2 (He.ga G.K "_law_any_deed") ["_law_draw"] F__law_any_deed := by
  obtain ⟨fd, Fn⟩ := X.d__law_any_deed
  exact fok Fn sc__law_any_deed (fun _ _ _ _ _ _ us hl => match us, hl with | [_], _ => rfl) (k__law_any_deed X)
abbrev s__law_named : Stmt := top 25
def N__law_named : List Str := ["_law_text_here", "_law_sign"]
theorem sc__law_named : FnScope N__law_named ["_law_text_here"] (defScope s__law_named) := ⟨rfl, rfl, rfl, by decide +kernel, rfl, by decide +kernel, by decide +kernel⟩
noncomputable def m__law_named : MS := (retS (mAndV (mCh leD leD (mK (.int 1)) (mF lenD (mCons (mVar 0) mNil)) (mK (.int 8))) (mF allD (mCons (mLc (mWk itV (mVar 0)) (gN 1) mYes (mBin inD (mVar 1) (mK (.str "abcdefghijklmnopqrstuvwxyz"))) [("_law_sign", 1)]) mNil))))
noncomputable def F__law_named : FD := runB N__law_named.length m__law_named
theorem k__law_named (X : Fx G) : DSs G 0 N__law_named (defScope s__law_named) (defBody s__law_named) m__law_named :=
  (dss_one (ds_ret (de_and (de_ch cr_le cr_le de_int (de_cB (fun X c => c.cK ▸ cl_len) snd_len X.b_len (da_cons (de_name 0) da_nil)) de_int) (de_one (de_cB (fun X c => c.cK ▸ cr_all c.ccalm) snd_all X.b_all (da_cons (de_lc (di_val (de_name 0)) (dg_name 1) dts_nil (de_cmpR cr_in (de_name 1) de_str)) da_nil))))))
theorem ok__law_named (X : Fx G) : FOk G 1 (He.ga G.K "_law_named") ["_law_text_here"] F__law_named := by
  obtain ⟨fd, Fn⟩ := X.d__law_named
  exact fok Fn sc__law_named (fun _ _ _ _ _ _ us hl => match us, hl with | [_], _ => rfl) (k__law_named X)
abbrev s__law_figures : Stmt := top 29
def N__law_figures : List Str := ["_law_word", "_law_sign"]
theorem sc__law_figures : FnScope N__law_figures ["_law_word"] (defScope s__law_figures) := ⟨rfl, rfl, rfl, by decide +kernel, rfl, by decide +kernel, by decide +kernel⟩
noncomputable def m__law_figures : MS := (seqS (ifS (mOr (mNot (mTst (mCh leD leD (mK (.int 1)) (mF lenD (mCons (mVar 0) mNil)) (mK (.int 3))))) (mNot (mTru (mF allD (mCons (mLc (mWk itV (mVar 0)) (gN 1) mYes (mBin inD (mVar 1) (mK (.str "0123456789"))) [("_law_sign", 1)]) mNil))))) (retS (mK .non)) nextS) (retS (mIf (mAnd (mTst (mBin eqD (mBin ixD (mVar 0) (mK (.int 0))) (mK (.str "0")))) (mTst (mBin neD (mVar 0) (mK (.str "0"))))) (mK .non) (mF intD1 (mCons (mVar 0) mNil)))))
noncomputable def F__law_figures : FD := runB N__law_figures.length m__law_figures
theorem k__law_figures (X : Fx G) : DSs G 0 N__law_figures (defScope s__law_figures) (defBody s__law_figures) m__law_figures :=
  (dss_cons (ds_if (dt_bool (dw_or (dt_not (dt_ch cr_le cr_le de_int (de_cB (fun X c => c.cK ▸ cl_len) snd_len X.b_len (da_cons (de_name 0) da_nil)) de_int)) (dw_or1 (dt_not (dt_tru (de_cB (fun X c => c.cK ▸ cr_all c.ccalm) snd_all X.b_all (da_cons (de_lc (di_val (de_name 0)) (dg_name 1) dts_nil (de_cmpR cr_in (de_name 1) de_str)) da_nil))))))) (dss_one (ds_ret de_non)) dss_nil) (dss_one (ds_ret (de_if (dt_bool (dw_and (dt_cmpR cr_eq (de_ix (de_name 0) de_int) de_str) (dw_and1 (dt_cmpR cr_ne (de_name 0) de_str)))) de_non (de_cT (fun _ _ => cl_int) snd_int X.b_int (da_cons (de_name 0) da_nil))))))
theorem ok__law_figures (X : Fx G) : FOk G 1 (He.ga G.K "_law_figures") ["_law_word"] F__law_figures := by
  obtain ⟨fd, Fn⟩ := X.d__law_figures
  exact fok Fn sc__law_figures (fun _ _ _ _ _ _ us hl => match us, hl with | [_], _ => rfl) (k__law_figures X)
abbrev s__law_number_in : Stmt := top 30
def N__law_number_in : List Str := ["_law_word", "_law_found"]
theorem sc__law_number_in : FnScope N__law_number_in ["_law_word"] (defScope s__law_number_in) := ⟨rfl, rfl, rfl, by decide +kernel, rfl, by decide +kernel, by decide +kernel⟩
noncomputable def m__law_number_in : MS := (seqS (ifS (mTst (mBin neD (mSl (mVar 0) mNo (mPart (mK (.int 1)))) (mK (.str "-")))) (retS (mCall F__law_figures 1 (mCons (mVar 0) mNil))) nextS) (seqS (setS 1 (mCall F__law_figures 1 (mCons (mSl (mVar 0) (mPart (mK (.int 1))) mNo) mNil))) (retS (mIf (mOr (mTst (mBin isND (mVar 1) (mK .non))) (mTst (mBin eqD (mVar 1) (mK (.int 0))))) (mK .non) (mBin subD (mK (.int 0)) (mVar 1))))))
noncomputable def F__law_number_in : FD := runB N__law_number_in.length m__law_number_in
theorem k__law_number_in (X : Fx G) : DSs G 1 N__law_number_in (defScope s__law_number_in) (defBody s__law_number_in) m__law_number_in :=
  (dss_cons (ds_if (dt_cmpR cr_ne (de_sl (de_name 0) do_none (do_some de_int)) de_str) (dss_one (ds_ret (de_call (ok__law_figures X) X.g__law_figures (da_cons (de_name 0) da_nil)))) dss_nil) (dss_cons (ds_set 1 (de_call (ok__law_figures X) X.g__law_figures (da_cons (de_sl (de_name 0) (do_some de_int) do_none) da_nil))) (dss_one (ds_ret (de_if (dt_bool (dw_or (dt_cmpR cr_isN (de_name 1) de_non) (dw_or1 (dt_cmpR cr_eq (de_name 1) de_int)))) de_non (de_sub de_int (de_name 1)))))))
theorem ok__law_number_in (X : Fx G) : FOk G 2 (He.ga G.K "_law_number_in") ["_law_word"] F__law_number_in := by
  obtain ⟨fd, Fn⟩ := X.d__law_number_in
  exact fok Fn sc__law_number_in (fun _ _ _ _ _ _ us hl => match us, hl with | [_], _ => rfl) (k__law_number_in X)
abbrev s__law_need_in : Stmt := top 31
def N__law_need_in : List Str := ["_law_word", "_law_parts"]
theorem sc__law_need_in : FnScope N__law_need_in ["_law_word"] (defScope s__law_need_in) := ⟨rfl, rfl, rfl, by decide +kernel, rfl, by decide +kernel, by decide +kernel⟩
noncomputable def m__law_need_in : MS := (seqS (setS 1 (mM1 splitD (mVar 0) (mK (.str "*")))) (seqS (frzS 1 (ifS (mOr (mTst (mBin neD (mF lenD (mCons (mVar 1) mNil)) (mK (.int 2)))) (mOr (mNot (mTru (mCall F__law_named 1 (mCons (mBin ixD (mVar 1) (mK (.int 0))) mNil)))) (mTst (mBin isND (mCall F__law_figures 1 (mCons (mBin ixD (mVar 1) (mK (.int 1))) mNil)) (mK .non))))) (retS (mK .non)) nextS)) (frzS 1 (retS (mTup (mCons (mBin ixD (mVar 1) (mK (.int 0))) (mCons (mF intD1 (mCons (mBin ixD (mVar 1) (mK (.int 1))) mNil)) mNil)))))))
noncomputable def F__law_need_in : FD := runB N__law_need_in.length m__law_need_in
theorem k__law_need_in (X : Fx G) : DSs G 1 N__law_need_in (defScope s__law_need_in) (defBody s__law_need_in) m__law_need_in :=
  (dss_cons (ds_set 1 (de_split (de_name 0) de_str)) (dss_cons (ds_frz 1 (ds_if (dt_bool (dw_or (dt_cmpR cr_ne (de_cB (fun X c => c.cK ▸ cl_len) snd_len X.b_len (da_cons (de_name 1) da_nil)) de_int) (dw_or (dt_not (dt_tru (de_call (ok__law_named X) X.g__law_named (da_cons (de_ix (de_name 1) de_int) da_nil)))) (dw_or1 (dt_cmpR cr_isN (de_call (ok__law_figures X) X.g__law_figures (da_cons (de_ix (de_name 1) de_int) da_nil)) de_non))))) (dss_one (ds_ret de_non)) dss_nil)) (dss_one (ds_frz 1 (ds_ret (de_tup (da_cons (de_ix (de_name 1) de_int) (da_cons (de_cT (fun _ _ => cl_int) snd_int X.b_int (da_cons (de_ix (de_name 1) de_int) da_nil)) da_nil))))))))
theorem ok__law_need_in (X : Fx G) : FOk G 2 (He.ga G.K "_law_need_in") ["_law_word"] F__law_need_in := by
  obtain ⟨fd, Fn⟩ := X.d__law_need_in
  exact fok Fn sc__law_need_in (fun _ _ _ _ _ _ us hl => match us, hl with | [_], _ => rfl) (k__law_need_in X)
abbrev s__law_way_in : Stmt := top 32
def N__law_way_in : List Str := ["_law_word", "_law_parts", "_law_still", "_law_long_of", "_law_some", "_law_part"]
theorem sc__law_way_in : FnScope N__law_way_in ["_law_word"] (defScope s__law_way_in) := ⟨rfl, rfl, rfl, by decide +kernel, rfl, by decide +kernel, by decide +kernel⟩
noncomputable def m__law_way_in : MS := (seqS (setS 1 (mM1 splitD (mVar 0) (mK (.str "+")))) (seqS (frzS 1 (setS 2 (mF intD1 (mCons (mBin eqD (mSl (mBin ixD (mVar 1) (mK (.int 0))) (mPart (mUn negD (mK (.int 1)))) mNo) (mK (.str "r"))) mNil)))) (seqS (frzS 1 (setS 3 (mCall F__law_figures 1 (mCons (mSl (mBin ixD (mVar 1) (mK (.int 0))) mNo (mPart (mBin subD (mF lenD (mCons (mBin ixD (mVar 1) (mK (.int 0))) mNil)) (mVar 2)))) mNil)))) (seqS (frzS 1 (setS 4 (mLc (mWk itV (mSl (mVar 1) (mPart (mK (.int 1))) mNo)) (gN 5) mYes (mCall F__law_need_in 1 (mCons (mVar 5) mNil)) [("_law_part", 5)]))) (frzS 4 (retS (mIf (mOr (mTst (mBin isND (mVar 3) (mK .non))) (mTst (mBin inD (mK .non) (mVar 4)))) (mK .non) (mTup (mCons (mVar 3) (mCons (mVar 2) (mCons (mF tupD (mCons (mVar 4) mNil)) mNil)))))))))))
noncomputable def F__law_way_in : FD := runB N__law_way_in.length m__law_way_in
theorem k__law_way_in (X : Fx G) : DSs G 2 N__law_way_in (defScope s__law_way_in) (defBody s__law_way_in) m__law_way_in :=
  (dss_cons (ds_set 1 (de_split (de_name 0) de_str)) (dss_cons (ds_frz 1 (ds_set 2 (de_cT (fun _ _ => cl_int) snd_int X.b_int (da_cons (de_cmpR cr_eq (de_sl (de_ix (de_name 1) de_int) (do_some (de_neg de_int)) do_none) de_str) da_nil)))) (dss_cons (ds_frz 1 (ds_set 3 (de_call (ok__law_figures X) X.g__law_figures (da_cons (de_sl (de_ix (de_name 1) de_int) do_none (do_some (de_sub (de_cB (fun X c => c.cK ▸ cl_len) snd_len X.b_len (da_cons (de_ix (de_name 1) de_int) da_nil)) (de_name 2)))) da_nil)))) (dss_cons (ds_frz 1 (ds_setLc 4 (di_val (de_sl (de_name 1) (do_some de_int) do_none)) (dg_name 5) dts_nil (de_call (ok__law_need_in X) X.g__law_need_in (da_cons (de_name 5) da_nil)))) (dss_one (ds_frz 4 (ds_ret (de_if (dt_bool (dw_or (dt_cmpR cr_isN (de_name 3) de_non) (dw_or1 (dt_cmpR cr_in de_non (de_name 4))))) de_non (de_tup (da_cons (de_name 3) (da_cons (de_name 2) (da_cons (de_cT (fun X c => c.cK ▸ call_tuple_of) snd_tup X.b_tuple (da_cons (de_name 4) da_nil)) da_nil))))))))))))
theorem ok__law_way_in (X : Fx G) : FOk G 3 (He.ga G.K "_law_way_in") ["_law_word"] F__law_way_in := by
  obtain ⟨fd, Fn⟩ := X.d__law_way_in
  exact fok Fn sc__law_way_in (fun _ _ _ _ _ _ us hl => match us, hl with | [_], _ => rfl) (k__law_way_in X)
abbrev s__law_thing_in : Stmt := top 33
def N__law_thing_in : List Str := ["_law_sign", "_law_word", "_law_found", "_law_part"]
theorem sc__law_thing_in : FnScope N__law_thing_in ["_law_sign", "_law_word"] (defScope s__law_thing_in) := ⟨rfl, rfl, rfl, by decide +kernel, rfl, by decide +kernel, by decide +kernel⟩
noncomputable def m__law_thing_in : MS := (seqS (ifS (mTst (mBin eqD (mVar 0) (mK (.str "n")))) (retS (mIf (mTru (mCall F__law_named 1 (mCons (mVar 1) mNil))) (mVar 1) (mK .non))) nextS) (seqS (ifS (mTst (mBin eqD (mVar 0) (mK (.str "k")))) (retS (mCall F__law_number_in 1 (mCons (mVar 1) mNil))) nextS) (seqS (setS 2 (mLc (mWk itV (mM1 splitD (mVar 1) (mK (.str "/")))) (gN 3) mYes (mCall F__law_way_in 1 (mCons (mVar 3) mNil)) [("_law_part", 3)])) (frzS 2 (retS (mIf (mTst (mBin inD (mK .non) (mVar 2))) (mK .non) (mF tupD (mCons (mVar 2) mNil))))))))
noncomputable def F__law_thing_in : FD := runB N__law_thing_in.length m__law_thing_in
theorem k__law_thing_in (X : Fx G) : DSs G 3 N__law_thing_in (defScope s__law_thing_in) (defBody s__law_thing_in) m__law_thing_in :=
  (dss_cons (ds_if (dt_cmpR cr_eq (de_name 0) de_str) (dss_one (ds_ret (de_if (dt_tru (de_call (ok__law_named X) X.g__law_named (da_cons (de_name 1) da_nil))) (de_name 1) de_non))) dss_nil) (dss_cons (ds_if (dt_cmpR cr_eq (de_name 0) de_str) (dss_one (ds_ret (de_call (ok__law_number_in X) X.g__law_number_in (da_cons (de_name 1) da_nil)))) dss_nil) (dss_cons (ds_setLc 2 (di_val (de_split (de_name 1) de_str)) (dg_name 3) dts_nil (de_call (ok__law_way_in X) X.g__law_way_in (da_cons (de_name 3) da_nil))) (dss_one (ds_frz 2 (ds_ret (de_if (dt_cmpR cr_in de_non (de_name 2)) de_non (de_cT (fun X c => c.cK ▸ call_tuple_of) snd_tup X.b_tuple (da_cons (de_name 2) da_nil)))))))))
theorem ok__law_thing_in (X : Fx G) : FOk G 4 (He.ga G.K "_law_thing_in") ["_law_sign", "_law_word"] F__law_thing_in := by
  obtain ⟨fd, Fn⟩ := X.d__law_thing_in
  exact fok Fn sc__law_thing_in (fun _ _ _ _ _ _ us hl => match us, hl with | [_, _], _ => rfl) (k__law_thing_in X)
abbrev s__law_deed_in : Stmt := top 34
def N__law_deed_in : List Str := ["_law_text_here", "_law_forms", "_law_words", "_law_found", "_law_sign", "_law_word"]
theorem sc__law_deed_in : FnScope N__law_deed_in ["_law_text_here"] (defScope s__law_deed_in) := ⟨rfl, rfl, rfl, by decide +kernel, rfl, by decide +kernel, by decide +kernel⟩
noncomputable def m__law_deed_in : MS := (seqS (setS 1 (mDct [(.inr "stuff", (mK (.str "nk"))), (.inr "stock", (mK (.str "nkk"))), (.inr "gone", (mK (.str "n"))), (.inr "work", (mK (.str "nw"))), (.inr "drop", (mK (.str "n"))), (.inr "tie", (mK (.str "knnk"))), (.inr "cut", (mK (.str "k")))])) (seqS (updS (mPv 1) (mDct [(.inr "shut", (mK (.str "k"))), (.inr "unshut", (mK (.str "k"))), (.inr "wait", (mK (.str "nk"))), (.inr "begun", (mK (.str "nk"))), (.inr "any", (mK (.str "n"))), (.inr "forget", (mK (.str ""))), (.inr "keep", (mK (.str "")))])) (seqS (setS 2 (mM1 splitD (mVar 0) (mK (.str " ")))) (seqS (frzS 2 (frzS 1 (ifS (mOr (mTst (mBin ninD (mBin ixD (mVar 2) (mK (.int 0))) (mVar 1))) (mTst (mBin neD (mF lenD (mCons (mVar 2) mNil)) (mBin addD (mK (.int 1)) (mF lenD (mCons (mBin ixD (mVar 1) (mBin ixD (mVar 2) (mK (.int 0)))) mNil)))))) (retS (mK .non)) nextS))) (seqS (frzS 2 (setS 3 (mLst (mCons (mBin ixD (mVar 2) (mK (.int 0))) mNil)))) (seqS (frzS 2 (frzS 1 (forS (mZp (mCons (mBin ixD (mVar 1) (mBin ixD (mVar 2) (mK (.int 0)))) (mCons (mSl (mVar 2) (mPart (mK (.int 1))) mNo) mNil))) (gT 2 (gConsM (gN 4) (gConsM (gN 5) gNilM))) (appS (mPv 3) (mCons (mCall F__law_thing_in 2 (mCons (mVar 4) (mCons (mVar 5) mNil))) mNil))))) (frzS 3 (retS (mIf (mTst (mBin inD (mK .non) (mVar 3))) (mK .non) (mF tupD (mCons (mVar 3) mNil)))))))))))
noncomputable def F__law_deed_in : FD := runB N__law_deed_in.length m__law_deed_in
theorem k__law_deed_in (X : Fx G) : DSs G 4 N__law_deed_in (defScope s__law_deed_in) (defBody s__law_deed_in) m__law_deed_in :=
  (dss_cons (ds_set 1 (de_dct (dps_txt de_str (dps_txt de_str (dps_txt de_str (dps_txt de_str (dps_txt de_str (dps_txt de_str (dps_txt de_str dps_nil))))))))) (dss_cons (ds_update (dp_name 1) (de_dct (dps_txt de_str (dps_txt de_str (dps_txt de_str (dps_txt de_str (dps_txt de_str (dps_txt de_str (dps_txt de_str dps_nil))))))))) (dss_cons (ds_set 2 (de_split (de_name 0) de_str)) (dss_cons (ds_frz 2 (ds_frz 1 (ds_if (dt_bool (dw_or (dt_cmpR cr_nin (de_ix (de_name 2) de_int) (de_name 1)) (dw_or1 (dt_cmpR cr_ne (de_cB (fun X c => c.cK ▸ cl_len) snd_len X.b_len (da_cons (de_name 2) da_nil)) (de_add de_int (de_cB (fun X c => c.cK ▸ cl_len) snd_len X.b_len (da_cons (de_ix (de_name 1) (de_ix (de_name 2) de_int)) da_nil))))))) (dss_one (ds_ret de_non)) dss_nil))) (dss_cons (ds_frz 2 (ds_set 3 (de_lst (da_cons (de_ix (de_name 2) de_int) da_nil)))) (dss_cons (ds_frz 2 (ds_frz 1 (ds_for (di_zipP X.b_zip (da_cons (de_ix (de_name 1) (de_ix (de_name 2) de_int)) (da_cons (de_sl (de_name 2) (do_some de_int) do_none) da_nil))) (dg_tup (n := 2) (dgs_cons (dg_name 4) (dgs_cons (dg_name 5) dgs_nil))) (dss_one (ds_append (dp_name 3) (da_cons (de_call (ok__law_thing_in X) X.g__law_thing_in (da_cons (de_name 4) (da_cons (de_name 5) da_nil))) da_nil)))))) (dss_one (ds_frz 3 (ds_ret (de_if (dt_cmpR cr_in de_non (de_name 3)) de_non (de_cT (fun X c => c.cK ▸ call_tuple_of) snd_tup X.b_tuple (da_cons (de_name 3) da_nil))))))))))))
theorem ok__law_deed_in (X : Fx G) : FOk G 5 (He.ga G.K "_law_deed_in") ["_law_text_here"] F__law_deed_in := by
  obtain ⟨fd, Fn⟩ := X.d__law_deed_in
  exact fok Fn sc__law_deed_in (fun _ _ _ _ _ _ us hl => match us, hl with | [_], _ => rfl) (k__law_deed_in X)
abbrev s__law_num : Stmt := top 23
def N__law_num : List Str := ["_law_found"]
theorem sc__law_num : FnScope N__law_num ["_law_found"] (defScope s__law_num) := ⟨rfl, rfl, rfl, by decide +kernel, rfl, by decide +kernel, by decide +kernel⟩
noncomputable def m__law_num : MS := (retS (mAndV (mF isiT (mCons (mVar 0) (mCons (mK (.ty "int")) mNil))) (mNotV (mF isiT (mCons (mVar 0) (mCons (mK (.ty "bool")) mNil))))))
noncomputable def F__law_num : FD := runB N__law_num.length m__law_num
theorem k__law_num (X : Fx G) : DSs G 0 N__law_num (defScope s__law_num) (defBody s__law_num) m__law_num :=
  (dss_one (ds_ret (de_and (de_isi X.b_isinstance (da_cons (de_name 0) (da_cons (de_bty X.b_int) da_nil))) (de_one (de_not (de_isi X.b_isinstance (da_cons (de_name 0) (da_cons (de_bty X.b_bool) da_nil))))))))
theorem ok__law_num (X : Fx G) : FOk G 1 (He.ga G.K "_law_num") ["_law_found"] F__law_num := by
  obtain ⟨fd, Fn⟩ := X.d__law_num
  exact fok Fn sc__law_num (fun _ _ _ _ _ _ us hl => match us, hl with | [_], _ => rfl) (k__law_num X)
abbrev s__law_like : Stmt := top 24
def N__law_like : List Str := ["_law_found", "_law_due", "_law_k"]
theorem sc__law_like : FnScope N__law_like ["_law_found", "_law_due"] (defScope s__law_like) := ⟨rfl, rfl, rfl, by decide +kernel, rfl, by decide +kernel, by decide +kernel⟩
noncomputable def m__law_like (r : FD) : MS := (seqS (ifS (mTst (mBin isND (mVar 1) (mK .non))) (retS (mBin isND (mVar 0) (mK .non))) nextS) (seqS (ifS (mTru (mF isiT (mCons (mVar 1) (mCons (mK (.ty "bool")) mNil)))) (retS (mAndV (mF isiT (mCons (mVar 0) (mCons (mK (.ty "bool")) mNil))) (mBin eqD (mVar 0) (mVar 1)))) nextS) (seqS (ifS (mTru (mF isiT (mCons (mVar 1) (mCons (mK (.ty "int")) mNil)))) (retS (mAndV (mCall F__law_num 1 (mCons (mVar 0) mNil)) (mBin eqD (mVar 0) (mVar 1)))) nextS) (seqS (ifS (mTru (mF isiT (mCons (mVar 1) (mCons (mK (.ty "str")) mNil)))) (retS (mAndV (mF isiT (mCons (mVar 0) (mCons (mK (.ty "str")) mNil))) (mBin eqD (mVar 0) (mVar 1)))) nextS) (seqS (ifS (mOr (mTst (mBin neD (mF isiT (mCons (mVar 1) (mCons (mK (.ty "tuple")) mNil))) (mF isiT (mCons (mVar 0) (mCons (mK (.ty "tuple")) mNil))))) (mTst (mBin neD (mF isiT (mCons (mVar 1) (mCons (mK (.ty "list")) mNil))) (mF isiT (mCons (mVar 0) (mCons (mK (.ty "list")) mNil)))))) (retS (mK (.bl false))) nextS) (seqS (ifS (mTst (mBin neD (mF lenD (mCons (mVar 0) mNil)) (mF lenD (mCons (mVar 1) mNil)))) (retS (mK (.bl false))) nextS) (retS (mF allD (mCons (mLc (mR1 (mCons (mF lenD (mCons (mVar 1) mNil)) mNil)) (gN 2) mYes (mCall r 2 (mCons (mBin ixD (mVar 0) (mVar 2)) (mCons (mBin ixD (mVar 1) (mVar 2)) mNil))) [("_law_k", 2)]) mNil)))))))))
noncomputable def F__law_like : Nat → FD
  | 0 => runB N__law_like.length neverS
  | n + 1 => runB N__law_like.length (m__law_like (F__law_like n))
theorem k__law_like (X : Fx G) {j : Nat} {r : FD} (ih : FOk G (j + 2) (He.ga G.K "_law_like") ["_law_found", "_law_due"] r) : DSs G (j + 2) N__law_like (defScope s__law_like) (defBody s__law_like) (m__law_like r) :=
  (dss_cons (ds_if (dt_cmpR cr_isN (de_name 1) de_non) (dss_one (ds_ret (de_cmpR cr_isN (de_name 0) de_non))) dss_nil) (dss_cons (ds_if (dt_tru (de_isi X.b_isinstance (da_cons (de_name 1) (da_cons (de_bty X.b_bool) da_nil)))) (dss_one (ds_ret (de_and (de_isi X.b_isinstance (da_cons (de_name 0) (da_cons (de_bty X.b_bool) da_nil))) (de_one (de_cmpR cr_eq (de_name 0) (de_name 1)))))) dss_nil) (dss_cons (ds_if (dt_tru (de_isi X.b_isinstance (da_cons (de_name 1) (da_cons (de_bty X.b_int) da_nil)))) (dss_one (ds_ret (de_and (de_call (ok__law_num X) X.g__law_num (da_cons (de_name 0) da_nil) (hj := by omega)) (de_one (de_cmpR cr_eq (de_name 0) (de_name 1)))))) dss_nil) (dss_cons (ds_if (dt_tru (de_isi X.b_isinstance (da_cons (de_name 1) (da_cons (de_bty X.b_str) da_nil)))) (dss_one (ds_ret (de_and (de_isi X.b_isinstance (da_cons (de_name 0) (da_cons (de_bty X.b_str) da_nil))) (de_one (de_cmpR cr_eq (de_name 0) (de_name 1)))))) dss_nil) (dss_cons (ds_if (dt_bool (dw_or (dt_cmpR cr_ne (de_isi X.b_isinstance (da_cons (de_name 1) (da_cons (de_bty X.b_tuple) da_nil))) (de_isi X.b_isinstance (da_cons (de_name 0) (da_cons (de_bty X.b_tuple) da_nil)))) (dw_or1 (dt_cmpR cr_ne (de_isi X.b_isinstance (da_cons (de_name 1) (da_cons (de_bty X.b_list) da_nil))) (de_isi X.b_isinstance (da_cons (de_name 0) (da_cons (de_bty X.b_list) da_nil))))))) (dss_one (ds_ret de_bl)) dss_nil) (dss_cons (ds_if (dt_cmpR cr_ne (de_cB (fun X c => c.cK ▸ cl_len) snd_len X.b_len (da_cons (de_name 0) da_nil)) (de_cB (fun X c => c.cK ▸ cl_len) snd_len X.b_len (da_cons (de_name 1) da_nil))) (dss_one (ds_ret de_bl)) dss_nil) (dss_one (ds_ret (de_cB (fun X c => c.cK ▸ cr_all c.ccalm) snd_all X.b_all (da_cons (de_lc (di_rng1 X.b_range (da_cons (de_cB (fun X c => c.cK ▸ cl_len) snd_len X.b_len (da_cons (de_name 1) da_nil)) da_nil)) (dg_name 2) dts_nil (de_call ih X.g__law_like (da_cons (de_ix (de_name 0) (de_name 2)) (da_cons (de_ix (de_name 1) (de_name 2)) da_nil)) (hj := by omega))) da_nil))))))))))
theorem ok__law_like (X : Fx G) : ∀ n, FOk G (n + 2) (He.ga G.K "_law_like") ["_law_found", "_law_due"] (F__law_like n)
  | 0 => by
    obtain ⟨fd, Fn⟩ := X.d__law_like
    exact (fok (k := 1) Fn sc__law_like (fun _ _ _ _ _ _ us hl => match us, hl with | [_, _], _ => rfl) dss_never).mono (by omega)
  | n + 1 => by
    obtain ⟨fd, Fn⟩ := X.d__law_like
    exact (fok (k := n + 2) Fn sc__law_like (fun _ _ _ _ _ _ us hl => match us, hl with | [_, _], _ => rfl) (k__law_like X (ok__law_like X n))).mono (by omega)
abbrev s__law_open : Stmt := top 21
def N__law_open : List Str := ["_law_script", "_law_seed", "_law_cell"]
theorem sc__law_open : FnScope N__law_open ["_law_script"] (defScope s__law_open) := ⟨rfl, rfl, rfl, by decide +kernel, rfl, by decide +kernel, by decide +kernel⟩
noncomputable def m__law_open : MS := (seqS (setS 1 (mK (.int 7717))) (seqS (forS (mWk itV (mSl (mVar 0) mNo (mPart (mK (.int 63))))) (gN 2) (setS 1 (mBin modD (mBin addD (mBin addD (mBin mulD (mVar 1) (mK (.int 48271))) (mBin modD (mVar 2) (mK (.int 2147483629)))) (mK (.int 5))) (mK (.int 2147483647))))) (retS (mLst (mCons (mF lstD (mCons (mSl (mVar 0) mNo (mPart (mK (.int 63)))) mNil)) (mCons (mK (.int 0)) (mCons (mK (.int 0)) (mCons (mVar 1) mNil))))))))
noncomputable def F__law_open : FD := runB N__law_open.length m__law_open
theorem k__law_open (X : Fx G) : DSs G 0 N__law_open (defScope s__law_open) (defBody s__law_open) m__law_open :=
  (dss_cons (ds_set 1 de_int) (dss_cons (ds_for (di_val (de_sl (de_name 0) do_none (do_some de_int))) (dg_name 2) (dss_one (ds_set 1 (de_mod (de_add (de_add (de_mul (de_name 1) de_int) (de_mod (de_name 2) de_int)) de_int) de_int)))) (dss_one (ds_ret (de_lst (da_cons (de_cT (fun X c => c.cK ▸ call_list_of) snd_lst X.b_list (da_cons (de_sl (de_name 0) do_none (do_some de_int)) da_nil)) (da_cons de_int (da_cons de_int (da_cons (de_name 1) da_nil)))))))))
theorem ok__law_open (X : Fx G) : FOk G 1 (He.ga G.K "_law_open") ["_law_script"] F__law_open := by
  obtain ⟨fd, Fn⟩ := X.d__law_open
  exact fok Fn sc__law_open (fun _ _ _ _ _ _ us hl => match us, hl with | [_], _ => rfl) (k__law_open X)
abbrev s_is_name : Stmt := top 6
def N_is_name : List Str := ["text", "sign"]
theorem sc_is_name : FnScope N_is_name ["text"] (defScope s_is_name) := ⟨rfl, rfl, rfl, by decide +kernel, rfl, by decide +kernel, by decide +kernel⟩
noncomputable def m_is_name : MS := (retS (mAndV (mCh leD leD (mK (.int 1)) (mF lenD (mCons (mVar 0) mNil)) (mK (.int 8))) (mF allD (mCons (mLc (mWk itV (mVar 0)) (gN 1) mYes (mBin inD (mVar 1) (mK (.str "abcdefghijklmnopqrstuvwxyz"))) [("sign", 1)]) mNil))))
noncomputable def F_is_name : FD := runB N_is_name.length m_is_name
theorem k_is_name (X : Fx G) : DSs G 0 N_is_name (defScope s_is_name) (defBody s_is_name) m_is_name :=
  (dss_one (ds_ret (de_and (de_ch cr_le cr_le de_int (de_cB (fun X c => c.cK ▸ cl_len) snd_len X.b_len (da_cons (de_name 0) da_nil)) (de_globE X.c_MOST_SIGNS)) (de_one (de_cB (fun X c => c.cK ▸ cr_all c.ccalm) snd_all X.b_all (da_cons (de_lc (di_val (de_name 0)) (dg_name 1) dts_nil (de_cmpR cr_in (de_name 1) (de_globE X.c_LETTERS))) da_nil))))))
theorem ok_is_name (X : Fx G) : FOk G 1 (He.ga G.K "is_name") ["text"] F_is_name := by
  obtain ⟨fd, Fn⟩ := X.d_is_name
  exact fok Fn sc_is_name (fun _ _ _ _ _ _ us hl => match us, hl with | [_], _ => rfl) (k_is_name X)
abbrev s_name_in : Stmt := top 16
def N_name_in : List Str := ["word"]
theorem sc_name_in : FnScope N_name_in ["word"] (defScope s_name_in) := ⟨rfl, rfl, rfl, by decide +kernel, rfl, by decide +kernel, by decide +kernel⟩
noncomputable def m_name_in : MS := (retS (mIf (mTru (mCall F_is_name 1 (mCons (mVar 0) mNil))) (mVar 0) (mK .non)))
noncomputable def F_name_in : FD := runB N_name_in.length m_name_in
theorem k_name_in (X : Fx G) : DSs G 1 N_name_in (defScope s_name_in) (defBody s_name_in) m_name_in :=
  (dss_one (ds_ret (de_if (dt_tru (de_call (ok_is_name X) X.g_is_name (da_cons (de_name 0) da_nil))) (de_name 0) de_non)))
theorem ok_name_in (X : Fx G) : FOk G 2 (He.ga G.K "name_in") ["word"] F_name_in := by
  obtain ⟨fd, Fn⟩ := X.d_name_in
  exact fok Fn sc_name_in (fun _ _ _ _ _ _ us hl => match us, hl with | [_], _ => rfl) (k_name_in X)
abbrev s_figures_in : Stmt := top 11
def N_figures_in : List Str := ["word", "sign"]
theorem sc_figures_in : FnScope N_figures_in ["word"] (defScope s_figures_in) := ⟨rfl, rfl, rfl, by decide +kernel, rfl, by decide +kernel, by decide +kernel⟩
noncomputable def m_figures_in : MS := (seqS (ifS (mOr (mNot (mTst (mCh leD leD (mK (.int 1)) (mF lenD (mCons (mVar 0) mNil)) (mK (.int 3))))) (mNot (mTru (mF allD (mCons (mLc (mWk itV (mVar 0)) (gN 1) mYes (mBin inD (mVar 1) (mK (.str "0123456789"))) [("sign", 1)]) mNil))))) (retS (mK .non)) nextS) (retS (mIf (mAnd (mTst (mBin eqD (mBin ixD (mVar 0) (mK (.int 0))) (mK (.str "0")))) (mTst (mBin neD (mVar 0) (mK (.str "0"))))) (mK .non) (mF intD1 (mCons (mVar 0) mNil)))))
noncomputable def F_figures_in : FD := runB N_figures_in.length m_figures_in
theorem k_figures_in (X : Fx G) : DSs G 0 N_figures_in (defScope s_figures_in) (defBody s_figures_in) m_figures_in :=
  (dss_cons (ds_if (dt_bool (dw_or (dt_not (dt_ch cr_le cr_le de_int (de_cB (fun X c => c.cK ▸ cl_len) snd_len X.b_len (da_cons (de_name 0) da_nil)) (de_globE X.c_MOST_FIGURES))) (dw_or1 (dt_not (dt_tru (de_cB (fun X c => c.cK ▸ cr_all c.ccalm) snd_all X.b_all (da_cons (de_lc (di_val (de_name 0)) (dg_name 1) dts_nil (de_cmpR cr_in (de_name 1) (de_globE X.c_FIGURES))) da_nil))))))) (dss_one (ds_ret de_non)) dss_nil) (dss_one (ds_ret (de_if (dt_bool (dw_and (dt_cmpR cr_eq (de_ix (de_name 0) de_int) de_str) (dw_and1 (dt_cmpR cr_ne (de_name 0) de_str)))) de_non (de_cT (fun _ _ => cl_int) snd_int X.b_int (da_cons (de_name 0) da_nil))))))
theorem ok_figures_in (X : Fx G) : FOk G 1 (He.ga G.K "figures_in") ["word"] F_figures_in := by
  obtain ⟨fd, Fn⟩ := X.d_figures_in
  exact fok Fn sc_figures_in (fun _ _ _ _ _ _ us hl => match us, hl with | [_], _ => rfl) (k_figures_in X)
abbrev s_number_in : Stmt := top 12
def N_number_in : List Str := ["word", "found"]
theorem sc_number_in : FnScope N_number_in ["word"] (defScope s_number_in) := ⟨rfl, rfl, rfl, by decide +kernel, rfl, by decide +kernel, by decide +kernel⟩
noncomputable def m_number_in : MS := (seqS (ifS (mNot (mTru (mM1 swD (mVar 0) (mK (.str "-"))))) (retS (mCall F_figures_in 1 (mCons (mVar 0) mNil))) nextS) (seqS (setS 1 (mCall F_figures_in 1 (mCons (mSl (mVar 0) (mPart (mK (.int 1))) mNo) mNil))) (retS (mIf (mOr (mTst (mBin isND (mVar 1) (mK .non))) (mTst (mBin eqD (mVar 1) (mK (.int 0))))) (mK .non) (mUn negD (mVar 1))))))
noncomputable def F_number_in : FD := runB N_number_in.length m_number_in
theorem k_number_in (X : Fx G) : DSs G 1 N_number_in (defScope s_number_in) (defBody s_number_in) m_number_in :=
  (dss_cons (ds_if (dt_not (dt_tru (de_startswith (de_name 0) de_str))) (dss_one (ds_ret (de_call (ok_figures_in X) X.g_figures_in (da_cons (de_name 0) da_nil)))) dss_nil) (dss_cons (ds_set 1 (de_call (ok_figures_in X) X.g_figures_in (da_cons (de_sl (de_name 0) (do_some de_int) do_none) da_nil))) (dss_one (ds_ret (de_if (dt_bool (dw_or (dt_cmpR cr_isN (de_name 1) de_non) (dw_or1 (dt_cmpR cr_eq (de_name 1) de_int)))) de_non (de_neg (de_name 1)))))))
theorem ok_number_in (X : Fx G) : FOk G 2 (He.ga G.K "number_in") ["word"] F_number_in := by
  obtain ⟨fd, Fn⟩ := X.d_number_in
  exact fok Fn sc_number_in (fun _ _ _ _ _ _ us hl => match us, hl with | [_], _ => rfl) (k_number_in X)
abbrev s_need_in : Stmt := top 13
def N_need_in : List Str := ["word", "found", "name", "star", "many"]
theorem sc_need_in : FnScope N_need_in ["word"] (defScope s_need_in) := ⟨rfl, rfl, rfl, by decide +kernel, rfl, by decide +kernel, by decide +kernel⟩
noncomputable def m_need_in : MS := (seqS (setG (mM1 partD (mVar 0) (mK (.str "*"))) (gT 3 (gConsM (gN 2) (gConsM (gN 3) (gConsM (gN 4) gNilM))))) (seqS (setS 1 (mCall F_figures_in 1 (mCons (mVar 4) mNil))) (retS (mIf (mOr (mNot (mTru (mCall F_is_name 1 (mCons (mVar 2) mNil)))) (mOr (mTst (mBin eqD (mVar 3) (mK (.str "")))) (mTst (mBin isND (mVar 1) (mK .non))))) (mK .non) (mTup (mCons (mVar 2) (mCons (mVar 1) mNil)))))))
noncomputable def F_need_in : FD := runB N_need_in.length m_need_in
theorem k_need_in (X : Fx G) : DSs G 1 N_need_in (defScope s_need_in) (defBody s_need_in) m_need_in :=
  (dss_cons (ds_asg (de_partition (de_name 0) de_str) (dg_tup (n := 3) (dgs_cons (dg_name 2) (dgs_cons (dg_name 3) (dgs_cons (dg_name 4) dgs_nil))))) (dss_cons (ds_set 1 (de_call (ok_figures_in X) X.g_figures_in (da_cons (de_name 4) da_nil))) (dss_one (ds_ret (de_if (dt_bool (dw_or (dt_not (dt_tru (de_call (ok_is_name X) X.g_is_name (da_cons (de_name 2) da_nil)))) (dw_or (dt_cmpR cr_eq (de_name 3) de_str) (dw_or1 (dt_cmpR cr_isN (de_name 1) de_non))))) de_non (de_tup (da_cons (de_name 2) (da_cons (de_name 1) da_nil))))))))
theorem ok_need_in (X : Fx G) : FOk G 2 (He.ga G.K "need_in") ["word"] F_need_in := by
  obtain ⟨fd, Fn⟩ := X.d_need_in
  exact fok Fn sc_need_in (fun _ _ _ _ _ _ us hl => match us, hl with | [_], _ => rfl) (k_need_in X)
abbrev s_way_in : Stmt := top 14
def N_way_in : List Str := ["word", "rests", "long", "needs", "first", "rest", "one"]
theorem sc_way_in : FnScope N_way_in ["word"] (defScope s_way_in) := ⟨rfl, rfl, rfl, by decide +kernel, rfl, by decide +kernel, by decide +kernel⟩
noncomputable def m_way_in : MS := (seqS (setG (mM1 splitD (mVar 0) (mK (.str "+"))) (gSt 2 1 (gConsM (gN 4) (gConsM (gN 5) gNilM)))) (seqS (setS 1 (mF intD1 (mCons (mM1 ewD (mVar 4) (mK (.str "r"))) mNil))) (seqS (setS 2 (mCall F_figures_in 1 (mCons (mSl (mVar 4) mNo (mPart (mBin subD (mF lenD (mCons (mVar 4) mNil)) (mVar 1)))) mNil))) (seqS (setS 3 (mLc (mWk itV (mVar 5)) (gN 6) mYes (mCall F_need_in 1 (mCons (mVar 6) mNil)) [("one", 6)])) (frzS 3 (retS (mIf (mOr (mTst (mBin isND (mVar 2) (mK .non))) (mTst (mBin inD (mK .non) (mVar 3)))) (mK .non) (mTup (mCons (mVar 2) (mCons (mVar 1) (mCons (mF tupD (mCons (mVar 3) mNil)) mNil)))))))))))
noncomputable def F_way_in : FD := runB N_way_in.length m_way_in
theorem k_way_in (X : Fx G) : DSs G 2 N_way_in (defScope s_way_in) (defBody s_way_in) m_way_in :=
  (dss_cons (ds_asg (de_split (de_name 0) de_str) (dg_star (n := 2) (i := 1) (dgs_cons (dg_name 4) (dgs_star (dg_name 5) dgs_nil)))) (dss_cons (ds_set 1 (de_cT (fun _ _ => cl_int) snd_int X.b_int (da_cons (de_endswith (de_name 4) de_str) da_nil))) (dss_cons (ds_set 2 (de_call (ok_figures_in X) X.g_figures_in (da_cons (de_sl (de_name 4) do_none (do_some (de_sub (de_cB (fun X c => c.cK ▸ cl_len) snd_len X.b_len (da_cons (de_name 4) da_nil)) (de_name 1)))) da_nil))) (dss_cons (ds_setLc 3 (di_val (de_name 5)) (dg_name 6) dts_nil (de_call (ok_need_in X) X.g_need_in (da_cons (de_name 6) da_nil))) (dss_one (ds_frz 3 (ds_ret (de_if (dt_bool (dw_or (dt_cmpR cr_isN (de_name 2) de_non) (dw_or1 (dt_cmpR cr_in de_non (de_name 3))))) de_non (de_tup (da_cons (de_name 2) (da_cons (de_name 1) (da_cons (de_cT (fun X c => c.cK ▸ call_tuple_of) snd_tup X.b_tuple (da_cons (de_name 3) da_nil)) da_nil))))))))))))
theorem ok_way_in (X : Fx G) : FOk G 3 (He.ga G.K "way_in") ["word"] F_way_in := by
  obtain ⟨fd, Fn⟩ := X.d_way_in
  exact fok Fn sc_way_in (fun _ _ _ _ _ _ us hl => match us, hl with | [_], _ => rfl) (k_way_in X)
abbrev s_ways_in : Stmt := top 15
def N_ways_in : List Str := ["word", "found", "one"]
theorem sc_ways_in : FnScope N_ways_in ["word"] (defScope s_ways_in) := ⟨rfl, rfl, rfl, by decide +kernel, rfl, by decide +kernel, by decide +kernel⟩
noncomputable def m_ways_in : MS := (seqS (setS 1 (mLc (mWk itV (mM1 splitD (mVar 0) (mK (.str "/")))) (gN 2) mYes (mCall F_way_in 1 (mCons (mVar 2) mNil)) [("one", 2)])) (frzS 1 (retS (mIf (mTst (mBin inD (mK .non) (mVar 1))) (mK .non) (mF tupD (mCons (mVar 1) mNil))))))
noncomputable def F_ways_in : FD := runB N_ways_in.length m_ways_in
theorem k_ways_in (X : Fx G) : DSs G 3 N_ways_in (defScope s_ways_in) (defBody s_ways_in) m_ways_in :=
  (dss_cons (ds_setLc 1 (di_val (de_split (de_name 0) de_str)) (dg_name 2) dts_nil (de_call (ok_way_in X) X.g_way_in (da_cons (de_name 2) da_nil))) (dss_one (ds_frz 1 (ds_ret (de_if (dt_cmpR cr_in de_non (de_name 1)) de_non (de_cT (fun X c => c.cK ▸ call_tuple_of) snd_tup X.b_tuple (da_cons (de_name 1) da_nil)))))))
theorem ok_ways_in (X : Fx G) : FOk G 4 (He.ga G.K "ways_in") ["word"] F_ways_in := by
  obtain ⟨fd, Fn⟩ := X.d_ways_in
  exact fok Fn sc_ways_in (fun _ _ _ _ _ _ us hl => match us, hl with | [_], _ => rfl) (k_ways_in X)
abbrev s_thing_in : Stmt := top 18
def N_thing_in : List Str := ["sign", "word", "reader"]
theorem sc_thing_in : FnScope N_thing_in ["sign", "word"] (defScope s_thing_in) := ⟨rfl, rfl, rfl, by decide +kernel, rfl, by decide +kernel, by decide +kernel⟩
noncomputable def vt_thing_in : Str → Option FD := fun x => if x = "name_in" then some F_name_in else if x = "number_in" then some F_number_in else if x = "ways_in" then some F_ways_in else none
theorem vt_thing_in_ok (X : Fx G) : ∀ y F, vt_thing_in y = some F → ∃ ps, ps.length = 1 ∧ FOk G 4 (He.ga G.K y) ps F := fun y F h => by
  unfold vt_thing_in at h
  split at h
  · rename_i e; subst e; cases h; exact ⟨_, rfl, (ok_name_in X).mono (by decide)⟩
  split at h
  · rename_i e; subst e; cases h; exact ⟨_, rfl, (ok_number_in X).mono (by decide)⟩
  split at h
  · rename_i e; subst e; cases h; exact ⟨_, rfl, (ok_ways_in X).mono (by decide)⟩
  cases h
noncomputable def m_thing_in : MS := (seqS (setS 2 (mUn (tabIx tab_READERS) (mVar 0))) (retS (mCallV 2 vt_thing_in 1 (mCons (mVar 1) mNil))))
noncomputable def F_thing_in : FD := runB N_thing_in.length m_thing_in
theorem k_thing_in (X : Fx G) : DSs G 4 N_thing_in (defScope s_thing_in) (defBody s_thing_in) m_thing_in :=
  (dss_cons (ds_set 2 (de_tIx X.t_READERS (de_name 0))) (dss_one (ds_ret (de_callV (tbl := vt_thing_in) (n := 1) 2 (vt_thing_in_ok X) (da_cons (de_name 1) da_nil)))))
theorem ok_thing_in (X : Fx G) : FOk G 5 (He.ga G.K "thing_in") ["sign", "word"] F_thing_in := by
  obtain ⟨fd, Fn⟩ := X.d_thing_in
  exact fok Fn sc_thing_in (fun _ _ _ _ _ _ us hl => match us, hl with | [_, _], _ => rfl) (k_thing_in X)
abbrev s_read_deed : Stmt := top 19
def N_read_deed : List Str := ["text", "form", "found", "word", "things", "sign", "thing"]
theorem sc_read_deed : FnScope N_read_deed ["text"] (defScope s_read_deed) := ⟨rfl, rfl, rfl, by decide +kernel, rfl, by decide +kernel, by decide +kernel⟩
noncomputable def m_read_deed : MS := (seqS (setG (mM1 splitD (mVar 0) (mK (.str " "))) (gSt 2 1 (gConsM (gN 3) (gConsM (gN 4) gNilM)))) (seqS (setS 1 (mUn (tabGet tab_FORMS) (mVar 3))) (seqS (ifS (mOr (mTst (mBin isND (mVar 1) (mK .non))) (mTst (mBin neD (mF lenD (mCons (mVar 1) mNil)) (mF lenD (mCons (mVar 4) mNil))))) (raiseS "BadText" 0 [.int 0] [("word", .txt "badtext"), ("row", .arg 0)] mNil) nextS) (seqS (setS 2 (mLc (mZs (mCons (mVar 1) (mCons (mVar 4) mNil))) (gT 2 (gConsM (gN 5) (gConsM (gN 6) gNilM))) mYes (mCall F_thing_in 2 (mCons (mVar 5) (mCons (mVar 6) mNil))) [("sign", 5), ("thing", 6)])) (seqS (frzS 2 (ifS (mTst (mBin inD (mK .non) (mVar 2))) (raiseS "BadText" 0 [.int 0] [("word", .txt "badtext"), ("row", .arg 0)] mNil) nextS)) (frzS 2 (retS (mBin addD (mTup (mCons (mVar 3) mNil)) (mF tupD (mCons (mVar 2) mNil))))))))))
noncomputable def F_read_deed : FD := runB N_read_deed.length m_read_deed
theorem k_read_deed (X : Fx G) : DSs G 5 N_read_deed (defScope s_read_deed) (defBody s_read_deed) m_read_deed :=
  (dss_cons (ds_asg (de_split (de_name 0) de_str) (dg_star (n := 2) (i := 1) (dgs_cons (dg_name 3) (dgs_star (dg_name 4) dgs_nil)))) (dss_cons (ds_set 1 (de_tGet X.t_FORMS (de_name 3))) (dss_cons (ds_if (dt_bool (dw_or (dt_cmpR cr_isN (de_name 1) de_non) (dw_or1 (dt_cmpR cr_ne (de_cB (fun X c => c.cK ▸ cl_len) snd_len X.b_len (da_cons (de_name 1) da_nil)) (de_cB (fun X c => c.cK ▸ cl_len) snd_len X.b_len (da_cons (de_name 4) da_nil)))))) (dss_one (ds_raise0 (mk_BadText_0 X) (hj := by omega))) dss_nil) (dss_cons (ds_setLc 2 (di_zipS X.b_zip (da_cons (de_name 1) (da_cons (de_name 4) da_nil))) (dg_tup (n := 2) (dgs_cons (dg_name 5) (dgs_cons (dg_name 6) dgs_nil))) dts_nil (de_call (ok_thing_in X) X.g_thing_in (da_cons (de_name 5) (da_cons (de_name 6) da_nil)))) (dss_cons (ds_frz 2 (ds_if (dt_cmpR cr_in de_non (de_name 2)) (dss_one (ds_raise0 (mk_BadText_0 X) (hj := by omega))) dss_nil)) (dss_one (ds_frz 2 (ds_ret (de_add (de_tup (da_cons (de_name 3) da_nil)) (de_cT (fun X c => c.cK ▸ call_tuple_of) snd_tup X.b_tuple (da_cons (de_name 2) da_nil)))))))))))
theorem ok_read_deed (X : Fx G) : FOk G 6 (He.ga G.K "read_deed") ["text"] F_read_deed := by
  obtain ⟨fd, Fn⟩ := X.d_read_deed
  exact fok Fn sc_read_deed (fun _ _ _ _ _ _ us hl => match us, hl with | [_], _ => rfl) (k_read_deed X)
abbrev s__law_read : Stmt := top 37
def N__law_read : List Str := ["_law_text_here", "_law_found", "e"]
theorem sc__law_read : FnScope N__law_read ["_law_text_here"] (defScope s__law_read) := ⟨rfl, rfl, rfl, by decide +kernel, rfl, by decide +kernel, by decide +kernel⟩
noncomputable def m__law_read : MS := (seqS (setS 1 (mK .non)) (seqS (tryS xcs xsub "BadText" 2 (setS 1 (mCall F_read_deed 1 (mCons (mVar 0) mNil))) (fldH 1 "row")) (retVarS 1)))
noncomputable def F__law_read : FD := runB N__law_read.length m__law_read
theorem k__law_read (X : Fx G) : DSs G 6 N__law_read (defScope s__law_read) (defBody s__law_read) m__law_read :=
  (dss_cons (ds_set 1 de_non) (dss_cons (ds_tryAs (xt X) 2 (dss_one (ds_set 1 (de_call (ok_read_deed X) X.g_read_deed (da_cons (de_name 0) da_nil)))) (dh_fld (xt X) 1) fldH_no (hx := by simp [xks])) (dss_one (ds_retVar 1))))
theorem ok__law_read (X : Fx G) : FOk G 7 (He.ga G.K "_law_read") ["_law_text_here"] F__law_read := by
  obtain ⟨fd, Fn⟩ := X.d__law_read
  exact fok Fn sc__law_read (fun _ _ _ _ _ _ us hl => match us, hl with | [_], _ => rfl) (k__law_read X)
abbrev s__law_spoilt : Stmt := top 35
def N__law_spoilt : List Str := ["_law_draw", "_law_text_here", "_law_at", "_law_sign", "_law_road", "_law_words", "_law_spot", "_law_odd"]
theorem sc__law_spoilt : FnScope N__law_spoilt ["_law_draw", "_law_text_here"] (defScope s__law_spoilt) := ⟨rfl, rfl, rfl, by decide +kernel, rfl, by decide +kernel, by decide +kernel⟩
noncomputable def m__law_spoilt : MS := (seqS (setS 2 (mCall F__law_pull 2 (mCons (mVar 0) (mCons (mBin addD (mF lenD (mCons (mVar 1) mNil)) (mK (.int 1))) mNil)))) (seqS (setS 3 (mBin ixD (mK (.str " 0179-+*/r;aetiyZ.~")) (mCall F__law_pull 2 (mCons (mVar 0) (mCons (mK (.int 19)) mNil))))) (seqS (setS 4 (mCall F__law_pull 2 (mCons (mVar 0) (mCons (mK (.int 6)) mNil)))) (seqS (ifS (mTst (mBin eqD (mVar 4) (mK (.int 0)))) (retS (mBin addD (mBin addD (mSl (mVar 1) mNo (mPart (mVar 2))) (mVar 3)) (mSl (mVar 1) (mPart (mVar 2)) mNo))) nextS) (seqS (ifS (mTst (mBin eqD (mVar 4) (mK (.int 1)))) (retS (mBin addD (mSl (mVar 1) mNo (mPart (mVar 2))) (mSl (mVar 1) (mPart (mBin addD (mVar 2) (mK (.int 1)))) mNo))) nextS) (seqS (ifS (mTst (mBin eqD (mVar 4) (mK (.int 2)))) (retS (mBin addD (mBin addD (mSl (mVar 1) mNo (mPart (mVar 2))) (mVar 3)) (mSl (mVar 1) (mPart (mBin addD (mVar 2) (mK (.int 1)))) mNo))) nextS) (seqS (setS 5 (mM1 splitD (mVar 1) (mK (.str " ")))) (seqS (frzS 5 (setS 6 (mCall F__law_pull 2 (mCons (mVar 0) (mCons (mF lenD (mCons (mVar 5) mNil)) mNil))))) (seqS (setS 7 (mLst (mCons (mK (.str "")) (mCons (mK (.str "0")) (mCons (mK (.str "00")) (mCons (mK (.str "07")) (mCons (mK (.str "1000")) (mCons (mK (.str "-1")) (mCons (mK (.str "-0")) (mCons (mK (.str "999")) (mCons (mK (.str "1r")) (mCons (mK (.str "r")) (mCons (mK (.str "2+ox*1")) mNil))))))))))))) (seqS (frzS 7 (setS 7 (mBin addD (mVar 7) (mLst (mCons (mK (.str "2+ox*01")) (mCons (mK (.str "1/1r")) (mCons (mK (.str "1/")) (mCons (mK (.str "+ox*1")) (mCons (mK (.str "2ox*1")) mNil))))))))) (seqS (frzS 7 (setS 7 (mBin addD (mVar 7) (mLst (mCons (mK (.str "3r+a*0")) (mCons (mK (.str "1+a*-1")) (mCons (mK (.str "keep")) (mCons (mK (.str "oxoxoxoxo")) (mCons (mK (.str "A")) (mCons (mK (.str "2+a*1*1")) mNil)))))))))) (frzS 7 (frzS 5 (retS (mM1 joinD (mK (.str " ")) (mBin addD (mBin addD (mSl (mVar 5) mNo (mPart (mVar 6))) (mLst (mCons (mBin ixD (mVar 7) (mCall F__law_pull 2 (mCons (mVar 0) (mCons (mK (.int 22)) mNil)))) mNil))) (mSl (mVar 5) (mPart (mBin addD (mVar 6) (mCall F__law_pull 2 (mCons (mVar 0) (mCons (mK (.int 2)) mNil))))) mNo)))))))))))))))))
noncomputable def F__law_spoilt : FD := runB N__law_spoilt.length m__law_spoilt
theorem k__law_spoilt (X : Fx G) : DSs G 1 N__law_spoilt (defScope s__law_spoilt) (defBody s__law_spoilt) m__law_spoilt :=
  (dss_cons (ds_set 2 (de_call (ok__law_pull X) X.g__law_pull (da_cons (de_name 0) (da_cons (de_add (de_cB (fun X c => c.cK ▸ cl_len) snd_len X.b_len (da_cons (de_name 1) da_nil)) de_int) da_nil)))) (dss_cons (ds_set 3 (de_ix de_str (de_call (ok__law_pull X) X.g__law_pull (da_cons (de_name 0) (da_cons de_int da_nil))))) (dss_cons (ds_set 4 (de_call (ok__law_pull X) X.g__law_pull (da_cons (de_name 0) (da_cons de_int da_nil)))) (dss_cons (ds_if (dt_cmpR cr_eq (de_name 4) de_int) (dss_one (ds_ret (de_add (de_add (de_sl (de_name 1) do_none (do_some (de_name 2))) (de_name 3)) (de_sl (de_name 1) (do_some (de_name 2)) do_none)))) dss_nil) (dss_cons (ds_if (dt_cmpR cr_eq (de_name 4) de_int) (dss_one (ds_ret (de_add (de_sl (de_name 1) do_none (do_some (de_name 2))) (de_sl (de_name 1) (do_some (de_add (de_name 2) de_int)) do_none)))) dss_nil) (dss_cons (ds_if (dt_cmpR cr_eq (de_name 4) de_int) (dss_one (ds_ret (de_add (de_add (de_sl (de_name 1) do_none (do_some (de_name 2))) (de_name 3)) (de_sl (de_name 1) (do_some (de_add (de_name 2) de_int)) do_none)))) dss_nil) (dss_cons (ds_set 5 (de_split (de_name 1) de_str)) (dss_cons (ds_frz 5 (ds_set 6 (de_call (ok__law_pull X) X.g__law_pull (da_cons (de_name 0) (da_cons (de_cB (fun X c => c.cK ▸ cl_len) snd_len X.b_len (da_cons (de_name 5) da_nil)) da_nil))))) (dss_cons (ds_set 7 (de_lst (da_cons de_str (da_cons de_str (da_cons de_str (da_cons de_str (da_cons de_str (da_cons de_str (da_cons de_str (da_cons de_str (da_cons de_str (da_cons de_str (da_cons de_str da_nil))))))))))))) (dss_cons (ds_frz 7 (ds_set 7 (de_add (de_name 7) (de_lst (da_cons de_str (da_cons de_str (da_cons de_str (da_cons de_str (da_cons de_str da_nil))))))))) (dss_cons (ds_frz 7 (ds_set 7 (de_add (de_name 7) (de_lst (da_cons de_str (da_cons de_str (da_cons de_str (da_cons de_str (da_cons de_str (da_cons de_str da_nil)))))))))) (dss_one (ds_frz 7 (ds_frz 5 (ds_ret (de_join de_str (de_add (de_add (de_sl (de_name 5) do_none (do_some (de_name 6))) (de_lst (da_cons (de_ix (de_name 7) (de_call (ok__law_pull X) X.g__law_pull (da_cons (de_name 0) (da_cons de_int da_nil)))) da_nil))) (de_sl (de_name 5) (do_some (de_add (de_name 6) (de_call (ok__law_pull X) X.g__law_pull (da_cons (de_name 0) (da_cons de_int da_nil))))) do_none))))))))))))))))))
theorem ok__law_spoilt (X : Fx G) : FOk G 2 (He.ga G.K "_law_spoilt") ["_law_draw", "_law_text_here"] F__law_spoilt := by
  obtain ⟨fd, Fn⟩ := X.d__law_spoilt
  exact fok Fn sc__law_spoilt (fun _ _ _ _ _ _ us hl => match us, hl with | [_, _], _ => rfl) (k__law_spoilt X)
abbrev s__law_way_text : Stmt := top 27
def N__law_way_text : List Str := ["_law_mode", "_law_pair"]
theorem sc__law_way_text : FnScope N__law_way_text ["_law_mode"] (defScope s__law_way_text) := ⟨rfl, rfl, rfl, by decide +kernel, rfl, by decide +kernel, by decide +kernel⟩
noncomputable def m__law_way_text : MS := (retS (mM1 joinD (mK (.str "+")) (mBin addD (mLst (mCons (mBin addD (mF strD (mCons (mBin ixD (mVar 0) (mK (.int 0))) mNil)) (mBin mulD (mK (.str "r")) (mBin ixD (mVar 0) (mK (.int 1))))) mNil)) (mLc (mWk itV (mBin ixD (mVar 0) (mK (.int 2)))) (gN 1) mYes (mBin addD (mBin addD (mBin ixD (mVar 1) (mK (.int 0))) (mK (.str "*"))) (mF strD (mCons (mBin ixD (mVar 1) (mK (.int 1))) mNil))) [("_law_pair", 1)]))))
noncomputable def F__law_way_text : FD := runB N__law_way_text.length m__law_way_text
theorem k__law_way_text (X : Fx G) : DSs G 0 N__law_way_text (defScope s__law_way_text) (defBody s__law_way_text) m__law_way_text :=
  (dss_one (ds_ret (de_join de_str (de_add (de_lst (da_cons (de_add (de_cT (fun _ _ => cl_str) snd_str X.b_str (da_cons (de_ix (de_name 0) de_int) da_nil)) (de_mul de_str (de_ix (de_name 0) de_int))) da_nil)) (de_lc (di_val (de_ix (de_name 0) de_int)) (dg_name 1) dts_nil (de_add (de_add (de_ix (de_name 1) de_int) de_str) (de_cT (fun _ _ => cl_str) snd_str X.b_str (da_cons (de_ix (de_name 1) de_int) da_nil))))))))
theorem ok__law_way_text (X : Fx G) : FOk G 1 (He.ga G.K "_law_way_text") ["_law_mode"] F__law_way_text := by
  obtain ⟨fd, Fn⟩ := X.d__law_way_text
  exact fok Fn sc__law_way_text (fun _ _ _ _ _ _ us hl => match us, hl with | [_], _ => rfl) (k__law_way_text X)
abbrev s__law_text : Stmt := top 28
def N__law_text : List Str := ["_law_deed", "_law_words", "_law_thing", "_law_many", "_law_mode"]
theorem sc__law_text : FnScope N__law_text ["_law_deed"] (defScope s__law_text) := ⟨rfl, rfl, rfl, by decide +kernel, rfl, by decide +kernel, by decide +kernel⟩
noncomputable def m__law_text : MS := (seqS (setS 1 (mLst mNil)) (seqS (forS (mWk itV (mVar 0)) (gN 2) (seqS (setS 3 (mF isiT (mCons (mVar 2) (mCons (mK (.ty "tuple")) mNil)))) (appS (mPv 1) (mCons (mIf (mTru (mVar 3)) (mM1 joinD (mK (.str "/")) (mLc (mWk itV (mVar 2)) (gN 4) mYes (mCall F__law_way_text 1 (mCons (mVar 4) mNil)) [("_law_mode", 4)])) (mF strD (mCons (mVar 2) mNil))) mNil)))) (frzS 1 (retS (mM1 joinD (mK (.str " ")) (mVar 1))))))
noncomputable def F__law_text : FD := runB N__law_text.length m__law_text
theorem k__law_text (X : Fx G) : DSs G 1 N__law_text (defScope s__law_text) (defBody s__law_text) m__law_text :=
  (dss_cons (ds_set 1 (de_lst da_nil)) (dss_cons (ds_for (di_val (de_name 0)) (dg_name 2) (dss_cons (ds_set 3 (de_isi X.b_isinstance (da_cons (de_name 2) (da_cons (de_bty X.b_tuple) da_nil)))) (dss_one (ds_append (dp_name 1) (da_cons (de_if (dt_tru (de_name 3)) (de_join de_str (de_lc (di_val (de_name 2)) (dg_name 4) dts_nil (de_call (ok__law_way_text X) X.g__law_way_text (da_cons (de_name 4) da_nil)))) (de_cT (fun _ _ => cl_str) snd_str X.b_str (da_cons (de_name 2) da_nil))) da_nil))))) (dss_one (ds_frz 1 (ds_ret (de_join de_str (de_name 1)))))))
theorem ok__law_text (X : Fx G) : FOk G 2 (He.ga G.K "_law_text") ["_law_deed"] F__law_text := by
  obtain ⟨fd, Fn⟩ := X.d__law_text
  exact fok Fn sc__law_text (fun _ _ _ _ _ _ us hl => match us, hl with | [_], _ => rfl) (k__law_text X)
abbrev s_law : Stmt := top 38
def N_law : List Str := ["_law_script", "_law_draw", "_law_turn", "_law_found", "_law_words", "_law_step", "_law_due"]
theorem sc_law : FnScope N_law ["_law_script"] (defScope s_law) := ⟨rfl, rfl, rfl, by decide +kernel, rfl, by decide +kernel, by decide +kernel⟩
noncomputable def m_law : MS := (seqS (setS 1 (mCall F__law_open 1 (mCons (mVar 0) mNil))) (seqS (forS (mR1 (mCons (mK (.int 12)) mNil)) (gN 2) (seqS (celS 1 (setS 4 (mCall F__law_text 1 (mCons (mCall F__law_any_deed 1 (mCons (mVar 1) mNil)) mNil)))) (seqS (celS 1 (forS (mR1 (mCons (mBin addD (mK (.int 1)) (mCall F__law_pull 2 (mCons (mVar 1) (mCons (mK (.int 2)) mNil)))) mNil)) (gN 5) (celS 1 (frzS 4 (setS 4 (mCall F__law_spoilt 2 (mCons (mVar 1) (mCons (mVar 4) mNil)))))))) (seqS (frzS 4 (setS 6 (mCall F__law_deed_in 1 (mCons (mVar 4) mNil)))) (frzS 4 (ifS (mNot (mTru (mCall (F__law_like 12) 2 (mCons (mCall F__law_read 1 (mCons (mVar 4) mNil)) (mCons (mIf (mTst (mBin isND (mVar 6) (mK .non))) (mK (.int 0)) (mVar 6)) mNil))))) (retS (mK (.bl false))) nextS)))))) (seqS (setS 3 (mLst (mCons (mCall F__law_read 1 (mCons (mK (.str "")) mNil)) (mCons (mCall F__law_read 1 (mCons (mK (.str "keep ")) mNil)) (mCons (mCall F__law_read 1 (mCons (mK (.str "keep")) mNil)) mNil))))) (frzS 3 (retS (mCall (F__law_like 12) 2 (mCons (mBin addD (mVar 3) (mLst (mCons (mMkF 0 [.int 0] [("word", .txt "badtext"), ("row", .arg 0)] "row" mNil) (mCons (mMkF 1 [] [("word", .txt "badtext"), ("row", .arg 0)] "row" (mCons (mK (.int 7)) mNil)) mNil)))) (mCons (mLst (mCons (mK (.int 0)) (mCons (mK (.int 0)) (mCons (mTup (mCons (mK (.str "keep")) mNil)) (mCons (mK (.int 0)) (mCons (mK (.int 7)) mNil)))))) mNil))))))))
noncomputable def F_law : FD := runB N_law.length m_law
theorem k_law (X : Fx G) : DSs G 14 N_law (defScope s_law) (defBody s_law) m_law :=
  (dss_cons (ds_set 1 (de_call (ok__law_open X) X.g__law_open (da_cons (de_name 0) da_nil))) (dss_cons (ds_for (di_rng1 X.b_range (da_cons de_int da_nil)) (dg_name 2) (dss_cons (ds_cel 1 (ds_set 4 (de_call (ok__law_text X) X.g__law_text (da_cons (de_call (ok__law_any_deed X) X.g__law_any_deed (da_cons (de_name 1) da_nil)) da_nil)))) (dss_cons (ds_cel 1 (ds_for (di_rng1 X.b_range (da_cons (de_add de_int (de_call (ok__law_pull X) X.g__law_pull (da_cons (de_name 1) (da_cons de_int da_nil)))) da_nil)) (dg_name 5) (dss_one (ds_cel 1 (ds_frz 4 (ds_set 4 (de_call (ok__law_spoilt X) X.g__law_spoilt (da_cons (de_name 1) (da_cons (de_name 4) da_nil))))))))) (dss_cons (ds_frz 4 (ds_set 6 (de_call (ok__law_deed_in X) X.g__law_deed_in (da_cons (de_name 4) da_nil)))) (dss_one (ds_frz 4 (ds_if (dt_not (dt_tru (de_call (ok__law_like X 12) X.g__law_like (da_cons (de_call (ok__law_read X) X.g__law_read (da_cons (de_name 4) da_nil)) (da_cons (de_if (dt_cmpR cr_isN (de_name 6) de_non) de_int (de_name 6)) da_nil))))) (dss_one (ds_ret de_bl)) dss_nil))))))) (dss_cons (ds_set 3 (de_lst (da_cons (de_call (ok__law_read X) X.g__law_read (da_cons de_str da_nil)) (da_cons (de_call (ok__law_read X) X.g__law_read (da_cons de_str da_nil)) (da_cons (de_call (ok__law_read X) X.g__law_read (da_cons de_str da_nil)) da_nil))))) (dss_one (ds_frz 3 (ds_ret (de_call (ok__law_like X 12) X.g__law_like (da_cons (de_add (de_name 3) (de_lst (da_cons (de_mkF0 (mk_BadText_0 X) ((xcl_BadText X).no _ (by simp)) (hj := by omega)) (da_cons (de_mkF (mk_BadText_1 X) ((xcl_BadText X).no _ (by simp)) (da_cons de_int da_nil) (hj := by omega)) da_nil)))) (da_cons (de_lst (da_cons de_int (da_cons de_int (da_cons (de_tup (da_cons de_str da_nil)) (da_cons de_int (da_cons de_int da_nil)))))) da_nil)))))))))
theorem ok_law (X : Fx G) : FOk G 15 (He.ga G.K "law") ["_law_script"] F_law := by
  obtain ⟨fd, Fn⟩ := X.d_law
  exact fok Fn sc_law (fun _ _ _ _ _ _ us hl => match us, hl with | [_], _ => rfl) (k_law X)
end Wk57
set_option Elab.async false
set_option linter.all false
set_option maxRecDepth 100000
set_option maxHeartbeats 4000000
namespace Wk57
open PySem PySem.Spec L2 Hm

/-- the draw's cell -/
def Dr (cs : List Int) (p t s : Int) : Store := [.lst [.lst (cs.map .int), .int p, .int t, .int s]]
def DrOk (S : Store) : Prop := ∃ cs p t s, S = Dr cs p t s ∧ 0 ≤ p ∧ 0 ≤ s ∧ s < 2147483647
section
variable {E : Ev} {S S1 S2 : Store} {cs : List Int} {p t s n i j : Int} {m a b : M DV}
theorem ix0 (h : E[0]? = some (some (.val (.ref 0)))) : mBin ixD (mVar 0) (mK (.int 0)) E (Dr cs p t s) = .ok (.val (.lst (cs.map .int))) (Dr cs p t s) := by
  unfold mBin
  rw [bnd_ok (var_ok h)]
  rfl
theorem ix1 (h : E[0]? = some (some (.val (.ref 0)))) : mBin ixD (mVar 0) (mK (.int 1)) E (Dr cs p t s) = .ok (.val (.int p)) (Dr cs p t s) := by
  unfold mBin
  rw [bnd_ok (var_ok h)]
  rfl
theorem ix2 (h : E[0]? = some (some (.val (.ref 0)))) : mBin ixD (mVar 0) (mK (.int 2)) E (Dr cs p t s) = .ok (.val (.int t)) (Dr cs p t s) := by
  unfold mBin
  rw [bnd_ok (var_ok h)]
  rfl
theorem ix3 (h : E[0]? = some (some (.val (.ref 0)))) : mBin ixD (mVar 0) (mK (.int 3)) E (Dr cs p t s) = .ok (.val (.int s)) (Dr cs p t s) := by
  unfold mBin
  rw [bnd_ok (var_ok h)]
  rfl
theorem put1 {x : D} {me : M DV} (h : E[0]? = some (some (.val (.ref 0)))) (hm : me E (Dr cs p t s) = .ok (.val (.int i)) (Dr cs p t s)) : setIxS me (mPv 0) (mK (.int 1)) E (Dr cs p t s) = .nx E (Dr cs i t s) := by
  unfold setIxS withE
  rw [hm]
  dsimp only
  have e : mPv 0 E (Dr cs p t s) = .ok (.ce 0) (Dr cs p t s) := by unfold mPv; rw [h]
  rw [e]
  rfl
theorem put2 {me : M DV} (h : E[0]? = some (some (.val (.ref 0)))) (hm : me E (Dr cs p t s) = .ok (.val (.int i)) (Dr cs p t s)) : setIxS me (mPv 0) (mK (.int 2)) E (Dr cs p t s) = .nx E (Dr cs p i s) := by
  unfold setIxS withE
  rw [hm]
  dsimp only
  have e : mPv 0 E (Dr cs p t s) = .ok (.ce 0) (Dr cs p t s) := by unfold mPv; rw [h]
  rw [e]
  rfl
theorem put3 {me : M DV} (h : E[0]? = some (some (.val (.ref 0)))) (hm : me E (Dr cs p t s) = .ok (.val (.int i)) (Dr cs p t s)) : setIxS me (mPv 0) (mK (.int 3)) E (Dr cs p t s) = .nx E (Dr cs p t i) := by
  unfold setIxS withE
  rw [hm]
  dsimp only
  have e : mPv 0 E (Dr cs p t s) = .ok (.ce 0) (Dr cs p t s) := by unfold mPv; rw [h]
  rw [e]
  rfl
end
theorem map_at {cs : List Int} {p : Int} (h0 : 0 ≤ p) (h1 : p < cs.length) : ∃ c, atI (cs.map D.int) p = some (.int c) := by
  have e : ixN (cs.map D.int).length p = some p.toNat := by
    unfold ixN
    rw [List.length_map, if_pos h0, if_pos h1]
  unfold atI
  rw [e]
  have hl : p.toNat < cs.length := by omega
  exact ⟨cs[p.toNat], by show (cs.map D.int)[p.toNat]? = _; rw [List.getElem?_map, List.getElem?_eq_getElem hl]; rfl⟩
theorem pull_ok {S : Store} {n : Int} (h : DrOk S) (h0 : 0 < n) (h1 : n < 1073741824) : ∃ r S', F__law_pull [.ref 0, .int n] S = .ok (.val (.int r)) S' ∧ 0 ≤ r ∧ r < n ∧ DrOk S' := by
  obtain ⟨cs, p, t, s, rfl, hp, hs0, hs1⟩ := h
  unfold F__law_pull runB
  have e0 : slots0 N__law_pull.length [.ref 0, .int n] = [some (.val (.ref 0)), some (.val (.int n)), none, none, none] := rfl
  rw [e0]
  unfold m__law_pull
  -- what the first statement leaves
  generalize hA : ifS (mAnd (mTst (mBin ltD (mBin ixD (mVar 0) (mK (D.int 2))) (mVar 1))) (mTst (mBin ltD (mBin ixD (mVar 0) (mK (D.int 1))) (mF lenD (mCons (mBin ixD (mVar 0) (mK (D.int 0))) mNil))))) _ nextS = A
  have first : ∃ e3 p' t' s', A [some (.val (.ref 0)), some (.val (.int n)), none, none, none] (Dr cs p t s) = .nx [some (.val (.ref 0)), some (.val (.int n)), none, e3, none] (Dr cs p' t' s') ∧ 0 ≤ p' ∧ 0 ≤ s' ∧ s' < 2147483647 := by
    subst hA
    have t1 : mTst (mBin ltD (mBin ixD (mVar 0) (mK (D.int 2))) (mVar 1)) [some (.val (.ref 0)), some (.val (.int n)), none, none, none] (Dr cs p t s) = .ok (decide (t < n)) (Dr cs p t s) := tst_ok (bin_ok (ix2 rfl) (var_ok rfl) rfl)
    have t2 : mTst (mBin ltD (mBin ixD (mVar 0) (mK (D.int 1))) (mF lenD (mCons (mBin ixD (mVar 0) (mK (D.int 0))) mNil))) [some (.val (.ref 0)), some (.val (.int n)), none, none, none] (Dr cs p t s) = .ok (decide (p < (cs.length : Int))) (Dr cs p t s) := by
      refine tst_ok (bin_ok (y := .val (.int (cs.length : Int))) (ix1 rfl) ?_ rfl)
      unfold mF mCons
      rw [show bnd (bnd (mBin ixD (mVar 0) (mK (D.int 0))) fun x => bnd mNil fun xs _ S => .ok (x.frz :: xs) S) (fun ds _ S => lenD ds S) [some (.val (.ref 0)), some (.val (.int n)), none, none, none] (Dr cs p t s) = lenD [.lst (cs.map .int)] (Dr cs p t s) from bnd_ok (bnd_ok (ix0 rfl))]
      show fine (.int ((cs.map D.int).length : Nat)) _ = _
      rw [List.length_map]
      rfl
    by_cases c1 : t < n
    · by_cases c2 : p < cs.length
      · have tt : mAnd (mTst (mBin ltD (mBin ixD (mVar 0) (mK (D.int 2))) (mVar 1))) (mTst (mBin ltD (mBin ixD (mVar 0) (mK (D.int 1))) (mF lenD (mCons (mBin ixD (mVar 0) (mK (D.int 0))) mNil)))) [some (.val (.ref 0)), some (.val (.int n)), none, none, none] (Dr cs p t s) = .ok true (Dr cs p t s) := by
          rw [and_t (by rw [t1, decide_eq_true c1]), t2, decide_eq_true c2]
        obtain ⟨c, hc⟩ := map_at hp c2
        rw [ifS_t tt]
        rw [seqS_nx (set_ok (x := .val (.int c)) (bin_ok (ix0 rfl) (ix1 rfl) (by
          show (match atI (cs.map D.int) p with | some z => fine z (Dr cs p t s) | none => .bad) = _
          rw [hc]
          rfl)))]
        rw [seqS_nx (put1 (x := .non) rfl (bin_ok (ix1 rfl) k_ok rfl))]
        rw [seqS_nx (put2 rfl k_ok)]
        by_cases c3 : (1000000000000000000 : Int) ≤ c
        · rw [ifS_t (S1 := Dr cs (p + 1) 0 s) (tst_ok (bin_ok (x := .val (.int c)) (y := .val (.int 1000000000000000000)) (var_ok rfl) (bin_ok k_ok k_ok (by rfl)) (ge_t c3)))]
          exact ⟨_, p + 1, c, s, put2 rfl (var_ok rfl), by omega, hs0, hs1⟩
        · rw [ifS_f (S1 := Dr cs (p + 1) 0 s) (tst_ok (bin_ok (x := .val (.int c)) (y := .val (.int 1000000000000000000)) (var_ok rfl) (bin_ok k_ok k_ok (by rfl)) (ge_f c3)))]
          refine ⟨_, p + 1, 0, _, put3 rfl (bin_ok (bin_ok (bin_ok (bin_ok (ix3 rfl) k_ok (mul_ok (mulR (by omega) (by omega)))) (bin_ok (bin_ok (var_ok rfl) k_ok (mod_ok (by omega))) k_ok (mul_ok (mulR (by omega) (by omega)))) add_ok) k_ok add_ok) k_ok (mod_ok (by omega))), by omega, Int.emod_nonneg _ (by omega), Int.emod_lt_of_pos _ (by omega)⟩
      · rw [ifS_f (S1 := Dr cs p t s) (by rw [and_t (by rw [t1, decide_eq_true c1]), t2, decide_eq_false c2])]
        exact ⟨_, p, t, s, rfl, hp, hs0, hs1⟩
    · rw [ifS_f (S1 := Dr cs p t s) (and_f (by rw [t1, decide_eq_false c1]))]
      exact ⟨_, p, t, s, rfl, hp, hs0, hs1⟩
  obtain ⟨e3, p', t', s', q, hp', hs0', hs1'⟩ := first
  rw [seqS_nx q]
  by_cases c : n ≤ t'
  · rw [seqS_rt (S1 := Dr cs p' (t' / n) s') (dv := .val (.int (t' % n))) ?_]
    · exact ⟨_, _, rfl, Int.emod_nonneg _ (by omega), Int.emod_lt_of_pos _ h0, cs, p', t' / n, s', rfl, hp', hs0', hs1'⟩
    · rw [ifS_t (S1 := Dr cs p' t' s') (tst_ok (bin_ok (ix2 rfl) (var_ok rfl) (ge_t c)))]
      rw [seqS_nx (set_ok (bin_ok (ix2 rfl) (var_ok rfl) (mod_ok h0)))]
      rw [seqS_nx (put2 rfl (bin_ok (ix2 rfl) (var_ok rfl) (fdiv_ok h0 h1)))]
      rfl
  · rw [seqS_nx (E1 := [some (.val (.ref 0)), some (.val (.int n)), none, e3, none]) (S1 := Dr cs p' t' s') (by rw [ifS_f (S1 := Dr cs p' t' s') (tst_ok (bin_ok (ix2 rfl) (var_ok rfl) (ge_f c)))]; rfl)]
    rw [seqS_nx (set_ok (ix3 rfl))]
    rw [seqS_nx (put3 rfl (bin_ok (bin_ok (bin_ok (bin_ok (bin_ok (bin_ok (var_ok rfl) (var_ok rfl) (mul_ok (mulR hs0' (by omega)))) k_ok (mod_ok (by omega))) k_ok (mul_ok (mulR (by omega) (by omega)))) (bin_ok (var_ok rfl) k_ok (mul_ok (mulR (by omega) (by omega)))) add_ok) k_ok add_ok) k_ok (mod_ok (by omega))))]
    generalize hs2 : ((s' * s' % 2147483587 * 5 + s' * 16807 + 1013904229) % 2147483647 : Int) = s2
    have b0 : 0 ≤ s2 := by rw [← hs2]; exact Int.emod_nonneg _ (by omega)
    have b1 : s2 < 2147483647 := by rw [← hs2]; exact Int.emod_lt_of_pos _ (by omega)
    have fin : retS (mBin modD (mBin addD (mBin fdivD (mBin ixD (mVar 0) (mK (D.int 3))) (mK (D.int 53))) (mBin mulD (mBin modD (mBin ixD (mVar 0) (mK (D.int 3))) (mK (D.int 8191))) (mK (D.int 31)))) (mVar 1)) ([some (.val (.ref 0)), some (.val (.int n)), none, e3, none].set 2 (some (.val (.int s')))) (Dr cs p' t' s2) = .rt (.val (.int ((s2 / 53 + s2 % 8191 * 31) % n))) (Dr cs p' t' s2) := by
      unfold retS withE
      rw [bin_ok (bin_ok (bin_ok (ix3 rfl) k_ok (fdiv_ok (by omega) (by omega))) (bin_ok (bin_ok (ix3 rfl) k_ok (mod_ok (by omega))) k_ok (mul_ok (mulR (by omega) (by omega)))) add_ok) (var_ok rfl) (mod_ok h0)]
    rw [fin]
    exact ⟨_, _, rfl, Int.emod_nonneg _ (by omega), Int.emod_lt_of_pos _ h0, cs, p', t', s2, rfl, hp', b0, b1⟩
end Wk57
set_option Elab.async false
set_option linter.all false
set_option maxRecDepth 100000
set_option maxHeartbeats 4000000
namespace Wk57
open PySem PySem.Spec L2 Hm

def menu : List Str := ["ox", "oxen", "elm", "elms", "elmtree", "zzzzzzzz", "zzzzzzzy", "a", "yew", "oz"]
def names : List Str := menu ++ (["stone", "wood"] : List Str)
theorem names_of {x : Str} (h : x ∈ menu) : x ∈ names := List.mem_append_left _ h
def NeedOk (d : D) : Prop := ∃ x k, d = .tup [.str x, .int k] ∧ x ∈ names ∧ 0 ≤ k ∧ k < 1000
def WayOk (d : D) : Prop := ∃ l r ns, d = .tup [.int l, .int r, .tup ns] ∧ (0 ≤ l ∧ l < 1000) ∧ (0 ≤ r ∧ r < 2) ∧ ns.length ≤ 2 ∧ ∀ n ∈ ns, NeedOk n
/-- a thing by its sign -/
inductive ThOk : Nat → D → Prop
  | n {x : Str} : x ∈ names → ThOk 110 (.str x)
  | k {i : Int} : -999 ≤ i → i ≤ 999 → ThOk 107 (.int i)
  | w {ws : List D} : ws.length ≤ 4 → 1 ≤ ws.length → (∀ w ∈ ws, WayOk w) → ThOk 119 (.tup ws)
inductive ThsOk : List Nat → List D → Prop
  | nil : ThsOk [] []
  | cons {c : Nat} {d : D} {cs : List Nat} {ds : List D} : ThOk c d → ThsOk cs ds → ThsOk (c :: cs) (d :: ds)
def DeedOk (d : D) : Prop := ∃ w f ths, d = .tup (.str w :: ths) ∧ tab_FORMS.lookup w = some (.str f) ∧ ThsOk f.cps.toList ths

section
variable {E : Ev} {S : Store}
theorem cons_ok {m : M DV} {ms : M (List D)} {S1 S2 : Store} {x : DV} {xs : List D} (h1 : m E S = .ok x S1) (h2 : ms E S1 = .ok xs S2) : mCons m ms E S = .ok (x.frz :: xs) S2 := by
  unfold mCons
  rw [bnd_ok h1, bnd_ok h2]
theorem nil_ok : mNil E S = .ok [] S := rfl
theorem call_ok {f : FD} {n : Nat} {ms : M (List D)} {ds : List D} {S1 : Store} {r : Res DV} (h1 : ms E S = .ok ds S1) (hl : ds.length = n) (h2 : f ds S1 = r) : mCall f n ms E S = r := by
  unfold mCall
  rw [bnd_ok h1]
  show (if ds.length = n then f ds S1 else .bad) = r
  rw [if_pos hl]
  exact h2
theorem f_ok {f : FD} {ms : M (List D)} {ds : List D} {S1 : Store} {r : Res DV} (h1 : ms E S = .ok ds S1) (h2 : f ds S1 = r) : mF f ms E S = r := by
  unfold mF
  rw [bnd_ok h1]
  exact h2
theorem tup_ok {ms : M (List D)} {ds : List D} {S1 : Store} (h1 : ms E S = .ok ds S1) (hz : ds.length ≤ 1000) : mTup ms E S = .ok (.val (.tup ds)) S1 := by
  unfold mTup
  rw [bnd_ok h1]
  show (if small ds.length then fine (.tup ds) S1 else .bad) = _
  rw [if_pos (by unfold small; exact decide_eq_true (by rw [sizeLine_eq]; omega))]
  rfl
theorem lst_ok {ms : M (List D)} {ds : List D} {S1 : Store} (h1 : ms E S = .ok ds S1) (hz : ds.length ≤ 1000) : mLst ms E S = .ok (.ol ds) S1 := by
  unfold mLst
  rw [bnd_ok h1]
  show (if small ds.length then Res.ok (DV.ol ds) S1 else Res.bad) = _
  rw [if_pos (by unfold small; exact decide_eq_true (by rw [sizeLine_eq]; omega))]
theorem pullE {n : Int} (hE : E[0]? = some (some (.val (.ref 0)))) (hS : DrOk S) (h0 : 0 < n) (h1 : n < 1073741824) : ∃ r S', mCall F__law_pull 2 (mCons (mVar 0) (mCons (mK (.int n)) mNil)) E S = .ok (.val (.int r)) S' ∧ 0 ≤ r ∧ r < n ∧ DrOk S' := by
  obtain ⟨r, S', q, a, b, c⟩ := pull_ok hS h0 h1
  exact ⟨r, S', call_ok (cons_ok (var_ok hE) (cons_ok k_ok nil_ok)) rfl q, a, b, c⟩
theorem at_of {α : Type} {xs : List α} {i : Int} (h0 : 0 ≤ i) (h1 : i < xs.length) : ∃ x, atI xs i = some x ∧ x ∈ xs := by
  have e : ixN xs.length i = some i.toNat := by
    unfold ixN
    rw [if_pos h0, if_pos h1]
  have hl : i.toNat < xs.length := by omega
  unfold atI
  rw [e]
  exact ⟨xs[i.toNat], by show xs[i.toNat]? = _; rw [List.getElem?_eq_getElem hl], List.getElem_mem hl⟩
theorem ix_lst {xs : List D} {i : Int} {x : D} (h : atI xs i = some x) : ixD (.lst xs) (.int i) S = .ok (.val x) S := by
  show (match atI xs i with | some z => fine z S | none => .bad) = _
  rw [h]
  rfl
def menuD : List D := menu.map .str
theorem menuE (hE : E[0]? = some (some (.val (.ref 0)))) (hM : E[1]? = some (some (.val (.lst menuD)))) (hS : DrOk S) : ∃ x S', mBin ixD (mVar 1) (mCall F__law_pull 2 (mCons (mVar 0) (mCons (mK (.int 10)) mNil))) E S = .ok (.val (.str x)) S' ∧ x ∈ menu ∧ DrOk S' := by
  obtain ⟨r, S', q, a, b, c⟩ := pullE (n := 10) hE hS (by omega) (by omega)
  obtain ⟨x, h1, h2⟩ := at_of (xs := menuD) a (by rw [show menuD.length = 10 from rfl]; exact b)
  obtain ⟨y, hy, rfl⟩ := List.mem_map.mp h2
  exact ⟨y, S', bin_ok (var_ok hM) q (ix_lst h1), hy, c⟩
end
theorem menu_ok {S : Store} : F__law_menu [] S = .ok (.ol menuD) S := rfl
theorem inner_get {own : List (Str × Nat)} {E : Ev} {j : Nat} {d : D} (h : E[j]? = some (some (.val d))) (hj : j ∉ own.map (·.2)) : (innerE own E)[j]? = some (some (.val d)) := by
  unfold innerE
  have key : ∀ (vs : List Nat) (E : Ev), j ∉ vs → (wipeE E vs)[j]? = E[j]? := fun vs => by
    induction vs with
    | nil => intro E _; rfl
    | cons v vs ih =>
      intro E hv
      rw [List.mem_cons, not_or] at hv
      unfold wipeE
      rw [List.getElem?_set_ne (Ne.symm hv.1)]
      exact ih E hv.2
  rw [key _ _ hj, List.getElem?_map, h]
  rfl
/-- the needs of a way -/
theorem needs_ok {E : Ev} {S : Store} {n : Int} (hE : E[0]? = some (some (.val (.ref 0)))) (hM : E[1]? = some (some (.val (.lst menuD)))) (hN : E[9]? = some (some (.val (.int n)))) (h0 : 0 ≤ n) (h1 : n ≤ 2) (hl : E.length = 11) (hS : DrOk S) :
    ∃ ns S', mLc (mR1 (mCons (mVar 9) mNil)) (gN 10) mYes (mTup (mCons (mBin ixD (mVar 1) (mCall F__law_pull 2 (mCons (mVar 0) (mCons (mK (.int 10)) mNil)))) (mCons (mCall F__law_pull 2 (mCons (mVar 0) (mCons (mK (.int 1000)) mNil))) mNil))) [("_law_j", 10)] E S = .ok (.ol ns) S' ∧ ns.length ≤ 2 ∧ (∀ d ∈ ns, NeedOk d) ∧ DrOk S' := by
  have it : mR1 (mCons (mVar 9) mNil) E S = .ok (rngL 0 n.toNat) S := by
    unfold mR1
    rw [bnd_ok (cons_ok (var_ok hN) nil_ok)]
    show (if fit62 n then Res.ok (rngL 0 n.toNat) S else Res.bad) = _
    rw [if_pos (by unfold fit62; rw [decide_eq_true (by omega), decide_eq_true (by omega)]; rfl)]
  have i0 := inner_get (own := [("_law_j", 10)]) hE (by decide)
  have i1 := inner_get (own := [("_law_j", 10)]) hM (by decide)
  obtain ⟨rs, S2, r1, r2, r3, r4⟩ := compL_inv (w := (rngL 0 n.toNat).ds) (g := gN 10) (t := mYes) (e := mTup (mCons (mBin ixD (mVar 1) (mCall F__law_pull 2 (mCons (mVar 0) (mCons (mK (.int 10)) mNil)))) (mCons (mCall F__law_pull 2 (mCons (mVar 0) (mCons (mK (.int 1000)) mNil))) mNil))) (E0 := innerE [("_law_j", 10)] E) DrOk NeedOk (ds := (rngL 0 n.toNat).ds) (acc := []) (S := S) (fun d hd S hS => by
    have j0 : ((innerE [("_law_j", 10)] E).set 10 (some (.val d)))[0]? = some (some (.val (.ref 0))) := by rw [List.getElem?_set_ne (by decide)]; exact i0
    have j1 : ((innerE [("_law_j", 10)] E).set 10 (some (.val d)))[1]? = some (some (.val (.lst menuD))) := by rw [List.getElem?_set_ne (by decide)]; exact i1
    obtain ⟨x, S1, q1, hx, hS1⟩ := menuE j0 j1 hS
    obtain ⟨r, S2, q2, a, b, hS2⟩ := pullE (n := 1000) j0 hS1 (by omega) (by omega)
    exact ⟨_, _, _, rfl, rfl, tup_ok (cons_ok q1 (cons_ok q2 nil_ok)) (show 2 ≤ 1000 by decide), hS2, x, r, rfl, names_of hx, a, b⟩) (by
      show 0 + ((List.range n.toNat).map _).length ≤ _
      rw [List.length_map, List.length_range, sizeLine_eq]
      omega) hS
  refine ⟨rs, S2, mLc_of it (by rw [List.nil_append] at r1; exact r1), ?_, r4, r2⟩
  rw [r3]
  show ((List.range n.toNat).map _).length ≤ 2
  rw [List.length_map, List.length_range]
  omega
/-- the slots of any_deed -/
def Ea (num room : Int) (name other : Str) (modes e5 e6 e9 e10 : Option DV) : Ev :=
  [some (.val (.ref 0)), some (.val (.lst menuD)), some (.val (.int num)), some (.val (.int room)), modes, e5, e6, some (.val (.str name)), some (.val (.str other)), e9, e10]
def stuffs (num room : Int) (name other : Str) (ws : List D) : List D := [.tup [.str "stuff", .str name, .int room], .tup [.str "stock", .str name, .int num, .int room], .tup [.str "gone", .str name], .tup [.str "work", .str name, .tup ws],
  .tup [.str "drop", .str name], .tup [.str "tie", .int num, .str name, .str other, .int room], .tup [.str "cut", .int room], .tup [.str "shut", .int num],
  .tup [.str "unshut", .int room], .tup [.str "wait", .str name, .int num], .tup [.str "begun", .str name, .int room], .tup [.str "any", .str name], .tup [.str "forget"], .tup [.str "keep"]]
theorem stuffs_ok {num room : Int} {name other : Str} {ws : List D} (hn : name ∈ menu) (ho : other ∈ menu) (h0 : 0 ≤ num) (h1 : num ≤ 999) (h2 : -999 ≤ room) (h3 : room ≤ 999) (w1 : ws.length ≤ 4) (w2 : 1 ≤ ws.length) (w3 : ∀ w ∈ ws, WayOk w) : ∀ d ∈ stuffs num room name other ws, DeedOk d := by
  have kn : ThOk 107 (.int num) := .k (by omega) h1
  have kr : ThOk 107 (.int room) := .k h2 h3
  have nn : ThOk 110 (.str name) := .n (names_of hn)
  have no : ThOk 110 (.str other) := .n (names_of ho)
  have ww : ThOk 119 (.tup ws) := .w w1 w2 w3
  intro d hd
  simp only [stuffs, List.mem_cons, List.not_mem_nil, or_false] at hd
  rcases hd with rfl | rfl | rfl | rfl | rfl | rfl | rfl | rfl | rfl | rfl | rfl | rfl | rfl | rfl
  · exact ⟨_, _, _, rfl, rfl, .cons nn (.cons kr .nil)⟩
  · exact ⟨_, _, _, rfl, rfl, .cons nn (.cons kn (.cons kr .nil))⟩
  · exact ⟨_, _, _, rfl, rfl, .cons nn .nil⟩
  · exact ⟨_, _, _, rfl, rfl, .cons nn (.cons ww .nil)⟩
  · exact ⟨_, _, _, rfl, rfl, .cons nn .nil⟩
  · exact ⟨_, _, _, rfl, rfl, .cons kn (.cons nn (.cons no (.cons kr .nil)))⟩
  · exact ⟨_, _, _, rfl, rfl, .cons kr .nil⟩
  · exact ⟨_, _, _, rfl, rfl, .cons kn .nil⟩
  · exact ⟨_, _, _, rfl, rfl, .cons kr .nil⟩
  · exact ⟨_, _, _, rfl, rfl, .cons nn (.cons kn .nil)⟩
  · exact ⟨_, _, _, rfl, rfl, .cons nn (.cons kr .nil)⟩
  · exact ⟨_, _, _, rfl, rfl, .cons nn .nil⟩
  · exact ⟨_, _, _, rfl, rfl, .nil⟩
  · exact ⟨_, _, _, rfl, rfl, .nil⟩
theorem frz_val {i : Nat} {m : MS} {E : Ev} {S : Store} {d : D} (h : E[i]? = some (some (.val d))) (hs : E.set i (some (.val d)) = E) : frzS i m E S = m E S := by
  unfold frzS
  rw [h]
  show m (E.set i (some (.val d))) S = _
  rw [hs]
theorem runB_rt {n : Nat} {b : MS} {ds : List D} {S S' : Store} {dv : DV} (h : b (slots0 n ds) S = .rt dv S') : runB n b ds S = .ok dv S' := by
  unfold runB
  rw [h]
theorem way_turn {num room : Int} {name other : Str} {ws : List D} {e5 e6 e9 e10 : Option DV} {S : Store} {d : D} (hS : DrOk S) (hl : ws.length < 4) : ∃ w e5' e6' e9' e10' S', WayOk w ∧ DrOk S' ∧
    seqS (setS 9 (mCall F__law_pull 2 (mCons (mVar 0) (mCons (mK (.int 3)) mNil)))) (seqS (frzS 1 (setS 6 (mLc (mR1 (mCons (mVar 9) mNil)) (gN 10) mYes (mTup (mCons (mBin ixD (mVar 1) (mCall F__law_pull 2 (mCons (mVar 0) (mCons (mK (.int 10)) mNil)))) (mCons (mCall F__law_pull 2 (mCons (mVar 0) (mCons (mK (.int 1000)) mNil))) mNil))) [("_law_j", 10)]))) (frzS 6 (appS (mPv 4) (mCons (mTup (mCons (mCall F__law_pull 2 (mCons (mVar 0) (mCons (mK (.int 1000)) mNil))) (mCons (mCall F__law_pull 2 (mCons (mVar 0) (mCons (mK (.int 2)) mNil))) (mCons (mF tupD (mCons (mVar 6) mNil)) mNil)))) mNil))))
      (Ea num room name other (some (.ol ws)) (some (.val d)) e6 e9 e10) S = .nx (Ea num room name other (some (.ol (ws ++ [w]))) e5' e6' e9' e10') S' := by
  obtain ⟨m0, T1, p1, m0a, m0b, hT1⟩ := pullE (n := 3) (E := Ea num room name other (some (.ol ws)) (some (.val d)) e6 e9 e10) rfl hS (by omega) (by omega)
  obtain ⟨ns, T2, p2, ns1, ns2, hT2⟩ := needs_ok (E := Ea num room name other (some (.ol ws)) (some (.val d)) e6 (some (.val (.int m0))) e10) (n := m0) rfl rfl rfl m0a (by omega) rfl hT1
  obtain ⟨l0, T3, p3, l0a, l0b, hT3⟩ := pullE (n := 1000) (E := Ea num room name other (some (.ol ws)) (some (.val d)) (some (.val (.lst ns))) (some (.val (.int m0))) e10) rfl hT2 (by omega) (by omega)
  obtain ⟨r1, T4, p4, r1a, r1b, hT4⟩ := pullE (n := 2) (E := Ea num room name other (some (.ol ws)) (some (.val d)) (some (.val (.lst ns))) (some (.val (.int m0))) e10) rfl hT3 (by omega) (by omega)
  refine ⟨.tup [.int l0, .int r1, .tup ns], some (.val d), some (.val (.lst ns)), some (.val (.int m0)), e10, T4, ⟨l0, r1, ns, rfl, ⟨l0a, l0b⟩, ⟨r1a, r1b⟩, ns1, ns2⟩, hT4, ?_⟩
  have s2 : frzS 1 (setS 6 (mLc (mR1 (mCons (mVar 9) mNil)) (gN 10) mYes (mTup (mCons (mBin ixD (mVar 1) (mCall F__law_pull 2 (mCons (mVar 0) (mCons (mK (.int 10)) mNil)))) (mCons (mCall F__law_pull 2 (mCons (mVar 0) (mCons (mK (.int 1000)) mNil))) mNil))) [("_law_j", 10)])) (Ea num room name other (some (.ol ws)) (some (.val d)) e6 (some (.val (.int m0))) e10) T1 = .nx (Ea num room name other (some (.ol ws)) (some (.val d)) (some (.ol ns)) (some (.val (.int m0))) e10) T2 :=
    (frz_val (d := .lst menuD) rfl rfl).trans (set_ok p2)
  have tp : mF tupD (mCons (mVar 6) mNil) (Ea num room name other (some (.ol ws)) (some (.val d)) (some (.val (.lst ns))) (some (.val (.int m0))) e10) T4 = .ok (.val (.tup ns)) T4 := f_ok (cons_ok (x := .val (.lst ns)) (var_ok rfl) nil_ok) rfl
  have ar := cons_ok (tup_ok (cons_ok p3 (cons_ok p4 (cons_ok tp nil_ok))) (show 3 ≤ 1000 by decide)) nil_ok
  have s3 : appS (mPv 4) (mCons (mTup (mCons (mCall F__law_pull 2 (mCons (mVar 0) (mCons (mK (.int 1000)) mNil))) (mCons (mCall F__law_pull 2 (mCons (mVar 0) (mCons (mK (.int 2)) mNil))) (mCons (mF tupD (mCons (mVar 6) mNil)) mNil)))) mNil) (Ea num room name other (some (.ol ws)) (some (.val d)) (some (.val (.lst ns))) (some (.val (.int m0))) e10) T2 = .nx (Ea num room name other (some (.ol (ws ++ [.tup [.int l0, .int r1, .tup ns]]))) (some (.val d)) (some (.val (.lst ns))) (some (.val (.int m0))) e10) T4 := by
    unfold appS withE
    rw [show mPv 4 (Ea num room name other (some (.ol ws)) (some (.val d)) (some (.val (.lst ns))) (some (.val (.int m0))) e10) T2 = .ok (.sl 4) T2 from rfl]
    dsimp only
    rw [show plcL (Ea num room name other (some (.ol ws)) (some (.val d)) (some (.val (.lst ns))) (some (.val (.int m0))) e10) T2 (.sl 4) = some ws from rfl]
    dsimp only
    rw [ar]
    show (if ws.length < sizeLine then RS.nx _ _ else RS.bad) = _
    rw [if_pos (by rw [sizeLine_eq]; omega)]
    rfl
  exact (seqS_nx (set_ok (k := 9) p1)).trans ((seqS_nx s2).trans s3)
theorem ways_loop {num room k0 : Int} {name other : Str} {S S7 : Store} (hS7 : DrOk S7) (k0a : 0 ≤ k0) (k0b : k0 < 4) (it : mR1 (mCons (mBin addD (mK (.int 1)) (mCall F__law_pull 2 (mCons (mVar 0) (mCons (mK (.int 4)) mNil)))) mNil) (Ea num room name other (some (.ol [])) none none none none) S = .ok (rngL 0 (1 + k0).toNat) S7) :
    ∃ ws e5 e6 e9 e10 S', ws.length ≤ 4 ∧ 1 ≤ ws.length ∧ (∀ w ∈ ws, WayOk w) ∧ DrOk S' ∧
    forS (mR1 (mCons (mBin addD (mK (.int 1)) (mCall F__law_pull 2 (mCons (mVar 0) (mCons (mK (.int 4)) mNil)))) mNil)) (gN 5) (seqS (setS 9 (mCall F__law_pull 2 (mCons (mVar 0) (mCons (mK (.int 3)) mNil)))) (seqS (frzS 1 (setS 6 (mLc (mR1 (mCons (mVar 9) mNil)) (gN 10) mYes (mTup (mCons (mBin ixD (mVar 1) (mCall F__law_pull 2 (mCons (mVar 0) (mCons (mK (.int 10)) mNil)))) (mCons (mCall F__law_pull 2 (mCons (mVar 0) (mCons (mK (.int 1000)) mNil))) mNil))) [("_law_j", 10)]))) (frzS 6 (appS (mPv 4) (mCons (mTup (mCons (mCall F__law_pull 2 (mCons (mVar 0) (mCons (mK (.int 1000)) mNil))) (mCons (mCall F__law_pull 2 (mCons (mVar 0) (mCons (mK (.int 2)) mNil))) (mCons (mF tupD (mCons (mVar 6) mNil)) mNil)))) mNil)))))
      (Ea num room name other (some (.ol [])) none none none none) S = .nx (Ea num room name other (some (.ol ws)) e5 e6 e9 e10) S' := by
  have len : (rngL 0 (1 + k0).toNat).ds.length = (1 + k0).toNat := by
    show ((List.range _).map _).length = _
    rw [List.length_map, List.length_range]
  obtain ⟨E8, S8, l1, ws, e5, e6, e9, e10, rfl, l2, l3, hS8⟩ := loopS_inv (w := (rngL 0 (1 + k0).toNat).ds) (g := gN 5) (b := seqS (setS 9 (mCall F__law_pull 2 (mCons (mVar 0) (mCons (mK (.int 3)) mNil)))) (seqS (frzS 1 (setS 6 (mLc (mR1 (mCons (mVar 9) mNil)) (gN 10) mYes (mTup (mCons (mBin ixD (mVar 1) (mCall F__law_pull 2 (mCons (mVar 0) (mCons (mK (.int 10)) mNil)))) (mCons (mCall F__law_pull 2 (mCons (mVar 0) (mCons (mK (.int 1000)) mNil))) mNil))) [("_law_j", 10)]))) (frzS 6 (appS (mPv 4) (mCons (mTup (mCons (mCall F__law_pull 2 (mCons (mVar 0) (mCons (mK (.int 1000)) mNil))) (mCons (mCall F__law_pull 2 (mCons (mVar 0) (mCons (mK (.int 2)) mNil))) (mCons (mF tupD (mCons (mVar 6) mNil)) mNil)))) mNil)))))
    (fun i E S => ∃ ws e5 e6 e9 e10, E = Ea num room name other (some (.ol ws)) e5 e6 e9 e10 ∧ ws.length = i ∧ (∀ w ∈ ws, WayOk w) ∧ DrOk S)
    (ds := (rngL 0 (1 + k0).toNat).ds) (i := 0) (E := Ea num room name other (some (.ol [])) none none none none) (S := S7) (fun j d hj E S hI => by
      obtain ⟨ws, e5, e6, e9, e10, rfl, hl, hw, hS⟩ := hI
      have hlt : ws.length < 4 := by
        have z := (List.getElem?_eq_some_iff.mp hj).1
        rw [len] at z
        omega
      obtain ⟨w, a5, a6, a9, a10, S', hw', hS', q⟩ := way_turn (num := num) (room := room) (name := name) (other := other) (e5 := e5) (e6 := e6) (e9 := e9) (e10 := e10) (d := d) hS hlt
      refine ⟨_, _, S', rfl, .inl q, _, _, _, _, _, rfl, ?_, fun v hv => ?_, hS'⟩
      · rw [List.length_append, List.length_singleton]
        omega
      · rcases List.mem_append.mp hv with h | h
        · exact hw v h
        · rw [List.mem_singleton.mp h]; exact hw') ⟨[], none, none, none, none, rfl, rfl, (fun w hw => by cases hw), hS7⟩
  rw [len] at l2
  exact ⟨ws, e5, e6, e9, e10, S8, by omega, by omega, l3, hS8, forS_of it l1⟩
theorem any_ok {S : Store} (hS : DrOk S) : ∃ d S', F__law_any_deed [.ref 0] S = .ok (.val d) S' ∧ DeedOk d ∧ DrOk S' := by
  -- the menu, the two names
  have s1 : setS 1 (mCall F__law_menu 0 mNil) [some (.val (.ref 0)), none, none, none, none, none, none, none, none, none, none] S = .nx [some (.val (.ref 0)), some (.ol menuD), none, none, none, none, none, none, none, none, none] S := set_ok (call_ok nil_ok rfl menu_ok)
  obtain ⟨name, S1, q1, hn, hS1⟩ := menuE (E := [some (.val (.ref 0)), some (.val (.lst menuD)), none, none, none, none, none, none, none, none, none]) rfl rfl hS
  obtain ⟨other, S2, q2, ho, hS2⟩ := menuE (E := [some (.val (.ref 0)), some (.val (.lst menuD)), none, none, none, none, none, none, none, none, none]) rfl rfl hS1
  have s2 : frzS 1 (parS 7 8 (mCons (mBin ixD (mVar 1) (mCall F__law_pull 2 (mCons (mVar 0) (mCons (mK (.int 10)) mNil)))) (mCons (mBin ixD (mVar 1) (mCall F__law_pull 2 (mCons (mVar 0) (mCons (mK (.int 10)) mNil)))) mNil))) [some (.val (.ref 0)), some (.ol menuD), none, none, none, none, none, none, none, none, none] S = .nx [some (.val (.ref 0)), some (.val (.lst menuD)), none, none, none, none, none, some (.val (.str name)), some (.val (.str other)), none, none] S2 := by
    show parS 7 8 _ [some (.val (.ref 0)), some (.val (.lst menuD)), none, none, none, none, none, none, none, none, none] S = _
    unfold parS withE
    rw [cons_ok q1 (cons_ok q2 nil_ok)]
    rfl
  -- the numbers
  obtain ⟨n1, S3, q3, n1a, n1b, hS3⟩ := pullE (n := 10) (E := [some (.val (.ref 0)), some (.val (.lst menuD)), none, none, none, none, none, some (.val (.str name)), some (.val (.str other)), none, none]) rfl hS2 (by omega) (by omega)
  obtain ⟨n2, S4, q4, n2a, n2b, hS4⟩ := pullE (n := 1000) (E := [some (.val (.ref 0)), some (.val (.lst menuD)), none, none, none, none, none, some (.val (.str name)), some (.val (.str other)), none, none]) rfl hS3 (by omega) (by omega)
  obtain ⟨n3, S5, q5, n3a, n3b, hS5⟩ := pullE (n := 2) (E := [some (.val (.ref 0)), some (.val (.lst menuD)), none, none, none, none, none, some (.val (.str name)), some (.val (.str other)), none, none]) rfl hS4 (by omega) (by omega)
  obtain ⟨x, hx1, hx2⟩ := at_of (xs := [D.int n1, .int n2]) n3a n3b
  have num : ∃ num : Int, x = .int num ∧ 0 ≤ num ∧ num ≤ 999 := by
    rcases List.mem_cons.mp hx2 with e | e
    · exact ⟨n1, e, n1a, by omega⟩
    · exact ⟨n2, List.mem_singleton.mp e, n2a, by omega⟩
  obtain ⟨num, rfl, num0, num1⟩ := num
  have s3 := set_ok (k := 2) (bin_ok (lst_ok (cons_ok q3 (cons_ok q4 nil_ok)) (show 2 ≤ 1000 by decide)) q5 (ix_lst hx1))
  obtain ⟨r0, S6, q6, r0a, r0b, hS6⟩ := pullE (n := 1999) (E := [some (.val (.ref 0)), some (.val (.lst menuD)), some (.val (.int num)), none, none, none, none, some (.val (.str name)), some (.val (.str other)), none, none]) rfl hS5 (by omega) (by omega)
  obtain ⟨room, hroom⟩ : ∃ room, room = r0 - 999 := ⟨_, rfl⟩
  have room0 : -999 ≤ room := by omega
  have room1 : room ≤ 999 := by omega
  have s4 := set_ok (k := 3) (m := mBin subD (mCall F__law_pull 2 (mCons (mVar 0) (mCons (mK (.int 1999)) mNil))) (mK (.int 999))) (x := .val (.int room)) (bin_ok q6 k_ok (by rw [hroom]; rfl))
  have s5 : setS 4 (mLst mNil) [some (.val (.ref 0)), some (.val (.lst menuD)), some (.val (.int num)), some (.val (.int room)), none, none, none, some (.val (.str name)), some (.val (.str other)), none, none] S6 = .nx (Ea num room name other (some (.ol [])) none none none none) S6 := set_ok (lst_ok nil_ok (by decide))
  -- the ways
  obtain ⟨k0, S7, q7, k0a, k0b, hS7⟩ := pullE (n := 4) (E := Ea num room name other (some (.ol [])) none none none none) rfl hS6 (by omega) (by omega)
  have it : mR1 (mCons (mBin addD (mK (.int 1)) (mCall F__law_pull 2 (mCons (mVar 0) (mCons (mK (.int 4)) mNil)))) mNil) (Ea num room name other (some (.ol [])) none none none none) S6 = .ok (rngL 0 (1 + k0).toNat) S7 := by
    unfold mR1
    rw [bnd_ok (cons_ok (x := .val (.int (1 + k0))) (bin_ok k_ok q7 rfl) nil_ok)]
    show (if fit62 (1 + k0) then Res.ok (rngL 0 (1 + k0).toNat) S7 else Res.bad) = _
    rw [if_pos (by unfold fit62; rw [decide_eq_true (by omega), decide_eq_true (by omega)]; rfl)]
  obtain ⟨ws, e5, e6, e9, e10, S8, w1, w2, w3, hS8, s6⟩ := ways_loop hS7 k0a k0b it
  -- the fourteen
  have tp : mF tupD (mCons (mVar 4) mNil) (Ea num room name other (some (.val (.lst ws))) e5 e6 e9 e10) S8 = .ok (.val (.tup ws)) S8 := f_ok (cons_ok (x := .val (.lst ws)) (var_ok rfl) nil_ok) rfl
  have vn : ∀ {m e6}, mVar 7 (Ea num room name other m e5 e6 e9 e10) S8 = .ok (.val (.str name)) S8 := var_ok rfl
  have vo : ∀ {m e6}, mVar 8 (Ea num room name other m e5 e6 e9 e10) S8 = .ok (.val (.str other)) S8 := var_ok rfl
  have vk : ∀ {m e6}, mVar 2 (Ea num room name other m e5 e6 e9 e10) S8 = .ok (.val (.int num)) S8 := var_ok rfl
  have vr : ∀ {m e6}, mVar 3 (Ea num room name other m e5 e6 e9 e10) S8 = .ok (.val (.int room)) S8 := var_ok rfl
  have s7 : frzS 4 (setS 6 (mLst (mCons (mTup (mCons (mK (.str "stuff")) (mCons (mVar 7) (mCons (mVar 3) mNil)))) (mCons (mTup (mCons (mK (.str "stock")) (mCons (mVar 7) (mCons (mVar 2) (mCons (mVar 3) mNil))))) (mCons (mTup (mCons (mK (.str "gone")) (mCons (mVar 7) mNil))) (mCons (mTup (mCons (mK (.str "work")) (mCons (mVar 7) (mCons (mF tupD (mCons (mVar 4) mNil)) mNil)))) mNil))))))
      (Ea num room name other (some (.ol ws)) e5 e6 e9 e10) S8 = .nx (Ea num room name other (some (.val (.lst ws))) e5 (some (.ol ((stuffs num room name other ws).take 4))) e9 e10) S8 := by
    show setS 6 _ (Ea num room name other (some (.val (.lst ws))) e5 e6 e9 e10) S8 = _
    exact set_ok (lst_ok (cons_ok (tup_ok (cons_ok k_ok (cons_ok vn (cons_ok vr nil_ok))) (show 3 ≤ 1000 by decide)) (cons_ok (tup_ok (cons_ok k_ok (cons_ok vn (cons_ok vk (cons_ok vr nil_ok)))) (show 4 ≤ 1000 by decide)) (cons_ok (tup_ok (cons_ok k_ok (cons_ok vn nil_ok)) (show 2 ≤ 1000 by decide)) (cons_ok (tup_ok (cons_ok k_ok (cons_ok vn (cons_ok tp nil_ok))) (show 3 ≤ 1000 by decide)) nil_ok)))) (show 4 ≤ 1000 by decide))
  have s8 : frzS 6 (setS 6 (mBin addD (mVar 6) (mLst (mCons (mTup (mCons (mK (.str "drop")) (mCons (mVar 7) mNil))) (mCons (mTup (mCons (mK (.str "tie")) (mCons (mVar 2) (mCons (mVar 7) (mCons (mVar 8) (mCons (mVar 3) mNil)))))) (mCons (mTup (mCons (mK (.str "cut")) (mCons (mVar 3) mNil))) (mCons (mTup (mCons (mK (.str "shut")) (mCons (mVar 2) mNil))) mNil)))))))
      (Ea num room name other (some (.val (.lst ws))) e5 (some (.ol ((stuffs num room name other ws).take 4))) e9 e10) S8 = .nx (Ea num room name other (some (.val (.lst ws))) e5 (some (.ol ((stuffs num room name other ws).take 8))) e9 e10) S8 := by
    show setS 6 _ (Ea num room name other (some (.val (.lst ws))) e5 (some (.val (.lst ((stuffs num room name other ws).take 4)))) e9 e10) S8 = _
    exact set_ok (bin_ok (var_ok rfl) (lst_ok (cons_ok (tup_ok (cons_ok k_ok (cons_ok vn nil_ok)) (show 2 ≤ 1000 by decide)) (cons_ok (tup_ok (cons_ok k_ok (cons_ok vk (cons_ok vn (cons_ok vo (cons_ok vr nil_ok))))) (show 5 ≤ 1000 by decide)) (cons_ok (tup_ok (cons_ok k_ok (cons_ok vr nil_ok)) (show 2 ≤ 1000 by decide)) (cons_ok (tup_ok (cons_ok k_ok (cons_ok vk nil_ok)) (show 2 ≤ 1000 by decide)) nil_ok)))) (show 4 ≤ 1000 by decide)) rfl)
  have s9 : frzS 6 (setS 6 (mBin addD (mVar 6) (mLst (mCons (mTup (mCons (mK (.str "unshut")) (mCons (mVar 3) mNil))) (mCons (mTup (mCons (mK (.str "wait")) (mCons (mVar 7) (mCons (mVar 2) mNil)))) (mCons (mTup (mCons (mK (.str "begun")) (mCons (mVar 7) (mCons (mVar 3) mNil)))) mNil))))))
      (Ea num room name other (some (.val (.lst ws))) e5 (some (.ol ((stuffs num room name other ws).take 8))) e9 e10) S8 = .nx (Ea num room name other (some (.val (.lst ws))) e5 (some (.ol ((stuffs num room name other ws).take 11))) e9 e10) S8 := by
    show setS 6 _ (Ea num room name other (some (.val (.lst ws))) e5 (some (.val (.lst ((stuffs num room name other ws).take 8)))) e9 e10) S8 = _
    exact set_ok (bin_ok (var_ok rfl) (lst_ok (cons_ok (tup_ok (cons_ok k_ok (cons_ok vr nil_ok)) (show 2 ≤ 1000 by decide)) (cons_ok (tup_ok (cons_ok k_ok (cons_ok vn (cons_ok vk nil_ok))) (show 3 ≤ 1000 by decide)) (cons_ok (tup_ok (cons_ok k_ok (cons_ok vn (cons_ok vr nil_ok))) (show 3 ≤ 1000 by decide)) nil_ok))) (show 3 ≤ 1000 by decide)) rfl)
  have s10 : frzS 6 (setS 6 (mBin addD (mVar 6) (mLst (mCons (mTup (mCons (mK (.str "any")) (mCons (mVar 7) mNil))) (mCons (mTup (mCons (mK (.str "forget")) mNil)) (mCons (mTup (mCons (mK (.str "keep")) mNil)) mNil))))))
      (Ea num room name other (some (.val (.lst ws))) e5 (some (.ol ((stuffs num room name other ws).take 11))) e9 e10) S8 = .nx (Ea num room name other (some (.val (.lst ws))) e5 (some (.ol (stuffs num room name other ws))) e9 e10) S8 := by
    show setS 6 _ (Ea num room name other (some (.val (.lst ws))) e5 (some (.val (.lst ((stuffs num room name other ws).take 11)))) e9 e10) S8 = _
    exact set_ok (bin_ok (var_ok rfl) (lst_ok (cons_ok (tup_ok (cons_ok k_ok (cons_ok vn nil_ok)) (show 2 ≤ 1000 by decide)) (cons_ok (tup_ok (cons_ok k_ok nil_ok) (show 1 ≤ 1000 by decide)) (cons_ok (tup_ok (cons_ok k_ok nil_ok) (show 1 ≤ 1000 by decide)) nil_ok))) (show 3 ≤ 1000 by decide)) rfl)
  -- the one that is drawn
  obtain ⟨k, S9, q9, k9a, k9b, hS9⟩ := pullE (n := 14) (E := Ea num room name other (some (.val (.lst ws))) e5 (some (.val (.lst (stuffs num room name other ws)))) e9 e10) rfl hS8 (by omega) (by omega)
  obtain ⟨d, hd1, hd2⟩ := at_of (xs := stuffs num room name other ws) k9a (by exact k9b)
  have s11 : frzS 6 (retS (mBin ixD (mVar 6) (mCall F__law_pull 2 (mCons (mVar 0) (mCons (mK (.int 14)) mNil))))) (Ea num room name other (some (.val (.lst ws))) e5 (some (.ol (stuffs num room name other ws))) e9 e10) S8 = .rt (.val d) S9 := by
    show retS _ (Ea num room name other (some (.val (.lst ws))) e5 (some (.val (.lst (stuffs num room name other ws)))) e9 e10) S8 = _
    unfold retS withE
    rw [bin_ok (var_ok rfl) q9 (ix_lst hd1)]
  exact ⟨d, S9, runB_rt ((seqS_nx s1).trans ((seqS_nx s2).trans ((seqS_nx s3).trans ((seqS_nx s4).trans ((seqS_nx s5).trans ((seqS_nx s6).trans ((seqS_nx s7).trans ((seqS_nx s8).trans ((seqS_nx s9).trans ((seqS_nx s10).trans s11)))))))))), stuffs_ok hn ho num0 num1 room0 room1 w1 w2 w3 d hd2, hS9⟩
end Wk57
set_option Elab.async false
set_option linter.all false
set_option maxRecDepth 100000
set_option maxHeartbeats 4000000
namespace Wk57
open PySem PySem.Spec L2 Hm

/-! ### _law_open -/
theorem cut_map {α : Type} (f : α → D) (xs : List α) (lo hi : Option Int) : ∃ ys : List α, cutD (xs.map f) lo hi = ys.map f := by
  unfold cutD
  rw [← List.map_drop, ← List.map_take]
  exact ⟨_, rfl⟩
theorem open_ok (ns : List Int) : ∃ (cs : List Int) (s : Int), F__law_open [.scr (ns.map .int)] [] = .ok (.ol [.lst (cs.map .int), .int 0, .int 0, .int s]) [] ∧ 0 ≤ s ∧ s < 2147483647 := by
  obtain ⟨cs, hc⟩ := cut_map D.int ns none (some 63)
  have sl : ∀ {E : Ev}, E[0]? = some (some (.val (.scr (ns.map .int)))) → mSl (mVar 0) mNo (mPart (mK (.int 63))) E [] = .ok (.ol (cs.map .int)) [] := fun {E} h => by
    unfold mSl
    rw [bnd_ok (var_ok h)]
    show Res.ok (DV.ol (cutD (ns.map .int) none (some 63))) [] = _
    rw [hc]
  have s1 : setS 1 (mK (.int 7717)) [some (.val (.scr (ns.map .int))), none, none] [] = .nx [some (.val (.scr (ns.map .int))), some (.val (.int 7717)), none] [] := rfl
  have it : mWk itV (mSl (mVar 0) mNo (mPart (mK (.int 63)))) [some (.val (.scr (ns.map .int))), some (.val (.int 7717)), none] [] = .ok ⟨cs.map .int, none⟩ [] := by
    unfold mWk
    rw [bnd_ok (sl rfl)]
    rfl
  obtain ⟨E2, S2, l1, s, e2, rfl, s0, s2, rfl⟩ := loopS_inv (w := cs.map .int) (g := gN 2) (b := setS 1 (mBin modD (mBin addD (mBin addD (mBin mulD (mVar 1) (mK (.int 48271))) (mBin modD (mVar 2) (mK (.int 2147483629)))) (mK (.int 5))) (mK (.int 2147483647))))
    (fun _ E S => ∃ (s : Int) (e2 : Option DV), E = [some (.val (.scr (ns.map .int))), some (.val (.int s)), e2] ∧ 0 ≤ s ∧ s < 2147483647 ∧ S = []) (ds := cs.map .int) (i := 0) (E := [some (.val (.scr (ns.map .int))), some (.val (.int 7717)), none]) (S := []) (fun j d hj E S hI => by
      obtain ⟨s, e2, rfl, h0, h1, rfl⟩ := hI
      rw [List.getElem?_map] at hj
      obtain ⟨c, _, rfl⟩ := Option.map_eq_some_iff.mp hj
      refine ⟨[some (.val (.scr (ns.map .int))), some (.val (.int s)), some (.val (.int c))], _, [], rfl, .inl (set_ok (x := .val (.int ((s * 48271 + c % 2147483629 + 5) % 2147483647))) (bin_ok (bin_ok (bin_ok (bin_ok (x := .val (.int s)) (var_ok rfl) k_ok (mul_ok (mulR (by omega) (by omega)))) (bin_ok (x := .val (.int c)) (var_ok rfl) k_ok (mod_ok (by omega))) add_ok) k_ok add_ok) k_ok (mod_ok (by omega)))), _, _, rfl, Int.emod_nonneg _ (by omega), Int.emod_lt_of_pos _ (by omega), rfl⟩) ⟨7717, none, rfl, by omega, by omega, rfl⟩
  have s2' := forS_of (mi := mWk itV (mSl (mVar 0) mNo (mPart (mK (.int 63))))) it l1
  have s3 : retS (mLst (mCons (mF lstD (mCons (mSl (mVar 0) mNo (mPart (mK (.int 63)))) mNil)) (mCons (mK (.int 0)) (mCons (mK (.int 0)) (mCons (mVar 1) mNil))))) [some (.val (.scr (ns.map .int))), some (.val (.int s)), e2] [] = .rt (.ol [.lst (cs.map .int), .int 0, .int 0, .int s]) [] := by
    unfold retS withE
    rw [lst_ok (cons_ok (x := .ol (cs.map .int)) (f_ok (cons_ok (sl rfl) nil_ok) rfl) (cons_ok k_ok (cons_ok k_ok (cons_ok (x := .val (.int s)) (var_ok rfl) nil_ok)))) (show 4 ≤ 1000 by decide)]
    rfl
  exact ⟨cs, s, runB_rt ((seqS_nx s1).trans ((seqS_nx s2').trans s3)), s0, s2⟩

/-! ### _law_like of a thing and itself -/
inductive Pl : D → Nat → Prop
  | int {i : Int} {n : Nat} : Pl (.int i) (n + 1)
  | str {s : Str} {n : Nat} : PyData.strOk s = true → Pl (.str s) (n + 1)
  | tup {ds : List D} {n : Nat} : (∀ d ∈ ds, Pl d n) → ds.length ≤ 1000 → Pl (.tup ds) (n + 1)
  | lst {ds : List D} {n : Nat} : (∀ d ∈ ds, Pl d n) → ds.length ≤ 1000 → Pl (.lst ds) (n + 1)
section
variable {E : Ev} {S : Store}
theorem tru_ok {m : M DV} {S1 : Store} {k : Bool} (h : m E S = .ok (.val (.bl k)) S1) : mTru m E S = .ok k S1 := by
  unfold mTru
  rw [bnd_ok h]
  rfl
theorem ret_ok {m : M DV} {S1 : Store} {x : DV} (h : m E S = .ok x S1) : retS m E S = .rt x S1 := by
  unfold retS withE
  rw [h]
theorem andV_t {a b : M DV} {S1 : Store} (h : a E S = .ok (.val (.bl true)) S1) : mAndV a b E S = b E S1 := by
  unfold mAndV
  rw [bnd_ok h]
  rfl
theorem ifS_fn {t : M Bool} {a : MS} {S1 : Store} (h : t E S = .ok false S1) : ifS t a nextS E S = .nx E S1 := ifS_f h
theorem or_f {x y : M Bool} {S1 : Store} (h : x E S = .ok false S1) : mOr x y E S = y E S1 := by
  unfold mOr
  rw [bnd_ok h]
  rfl
theorem eqD_str {s : Str} (hs : PyData.strOk s = true) : eqD (.str s) (.str s) S = fine (.bl true) S := by
  have h : pyOf S (.str s) = some (.str s) := by
    show (if SeqAt.shaped (.str s) then some (PyData.str s) else none) = _
    have e : SeqAt.shaped (.str s) = true := by
      unfold SeqAt.shaped
      simp [PyData.canLay0, hs, PyData.depth]
    rw [if_pos e]
  unfold eqD
  rw [h]
  have e : PyData.eqv (.str s) (.str s) = true := by simp [PyData.eqv]
  dsimp only
  rw [e]
theorem neD_int {i : Int} : neD (.int i) (.int i) S = fine (.bl false) S := by
  show fine (.bl (!PyData.eqv (.int i) (.int i))) S = _
  have e : PyData.eqv (.int i) (.int i) = true := by
    simp only [PyData.eqv]
    exact beq_self_eq_true i
  rw [e]
  rfl
theorem isi_okE {k : Nat} {d : D} {T n : String} {b : Bool} (h : E[k]? = some (some (.val d))) (hk : kindS S d = some T) (ht : isiTab T n = some b) : mF isiT (mCons (mVar k) (mCons (mK (.ty n)) mNil)) E S = .ok (.val (.bl b)) S := by
  refine f_ok (cons_ok (var_ok h) (cons_ok k_ok nil_ok)) ?_
  show (match (kindS S d).bind fun T => isiTab T n with | some b => fine (.bl b) S | none => .bad) = _
  rw [hk]
  show (match isiTab T n with | some b => fine (.bl b) S | none => .bad) = _
  rw [ht]
  rfl
end
theorem at_nat {xs : List D} {i : Nat} (h : i < xs.length) : atI xs (0 + (i : Int)) = some xs[i] := by
  have e : ixN xs.length (0 + (i : Int)) = some i := by
    unfold ixN
    rw [if_pos (by omega), if_pos (by omega)]
    congr 1
    omega
  unfold atI
  rw [e]
  exact List.getElem?_eq_getElem h
/-- a sequence and itself -/
theorem like_seq {n : Nat} {S : Store} {d : D} {ds : List D} {T : String} (hT : T = "tuple" ∨ T = "list") (hk : kindS S d = some T) (hix : ∀ i : Int, ixD d (.int i) S = (match atI ds i with | some z => fine z S | none => .bad)) (hlen : lenOf S d = some ds.length) (hn : isN d = false)
    (hz : ds.length ≤ 1000) (ih : ∀ e ∈ ds, F__law_like n [e, e] S = .ok (.val (.bl true)) S) : F__law_like (n + 1) [d, d] S = .ok (.val (.bl true)) S := by
  have v0 : ([some (.val d), some (.val d), none] : Ev)[0]? = some (some (.val d)) := rfl
  have v1 : ([some (.val d), some (.val d), none] : Ev)[1]? = some (some (.val d)) := rfl
  have c1 : mTst (mBin isND (mVar 1) (mK .non)) [some (.val d), some (.val d), none] S = .ok false S := tst_ok (bin_ok (var_ok v1) k_ok (by show fine (.bl (isN d)) S = _; rw [hn]; rfl))
  have tb : isiTab T "bool" = some false := by rcases hT with rfl | rfl <;> rfl
  have ti : isiTab T "int" = some false := by rcases hT with rfl | rfl <;> rfl
  have tss : isiTab T "str" = some false := by rcases hT with rfl | rfl <;> rfl
  have c2 : mTru (mF isiT (mCons (mVar 1) (mCons (mK (.ty "bool")) mNil))) [some (.val d), some (.val d), none] S = .ok false S := tru_ok (isi_okE v1 hk tb)
  have c3 : mTru (mF isiT (mCons (mVar 1) (mCons (mK (.ty "int")) mNil))) [some (.val d), some (.val d), none] S = .ok false S := tru_ok (isi_okE v1 hk ti)
  have c4 : mTru (mF isiT (mCons (mVar 1) (mCons (mK (.ty "str")) mNil))) [some (.val d), some (.val d), none] S = .ok false S := tru_ok (isi_okE v1 hk tss)
  obtain ⟨bt, ht⟩ : ∃ b, isiTab T "tuple" = some b := by rcases hT with rfl | rfl <;> exact ⟨_, rfl⟩
  obtain ⟨bl, hl⟩ : ∃ b, isiTab T "list" = some b := by rcases hT with rfl | rfl <;> exact ⟨_, rfl⟩
  have nb : ∀ b : Bool, neD (.bl b) (.bl b) S = fine (.bl false) S := fun b => by cases b <;> rfl
  have c5 : mOr (mTst (mBin neD (mF isiT (mCons (mVar 1) (mCons (mK (.ty "tuple")) mNil))) (mF isiT (mCons (mVar 0) (mCons (mK (.ty "tuple")) mNil))))) (mTst (mBin neD (mF isiT (mCons (mVar 1) (mCons (mK (.ty "list")) mNil))) (mF isiT (mCons (mVar 0) (mCons (mK (.ty "list")) mNil))))) [some (.val d), some (.val d), none] S = .ok false S :=
    (or_f (tst_ok (bin_ok (isi_okE v1 hk ht) (isi_okE v0 hk ht) (nb bt)))).trans (tst_ok (bin_ok (isi_okE v1 hk hl) (isi_okE v0 hk hl) (nb bl)))
  have len : ∀ {E : Ev} {k : Nat}, E[k]? = some (some (.val d)) → mF lenD (mCons (mVar k) mNil) E S = .ok (.val (.int (ds.length : Nat))) S := fun {E k} h => f_ok (cons_ok (var_ok h) nil_ok) (by
    show (match lenOf S d with | some n => fine (.int n) S | none => .bad) = _
    rw [hlen]
    rfl)
  have c6 : mTst (mBin neD (mF lenD (mCons (mVar 0) mNil)) (mF lenD (mCons (mVar 1) mNil))) [some (.val d), some (.val d), none] S = .ok false S := tst_ok (bin_ok (len v0) (len v1) neD_int)
  have it : mR1 (mCons (mF lenD (mCons (mVar 1) mNil)) mNil) [some (.val d), some (.val d), none] S = .ok (rngL 0 ds.length) S := by
    unfold mR1
    rw [bnd_ok (cons_ok (len v1) nil_ok)]
    show (if fit62 (ds.length : Nat) then Res.ok (rngL 0 ((ds.length : Int)).toNat) S else Res.bad) = _
    rw [if_pos (by unfold fit62; rw [decide_eq_true (by omega), decide_eq_true (by omega)]; rfl)]
    rfl
  have cl := compL_fun (w := (rngL 0 ds.length).ds) (g := gN 2) (t := mYes) (e := mCall (F__law_like n) 2 (mCons (mBin ixD (mVar 0) (mVar 2)) (mCons (mBin ixD (mVar 1) (mVar 2)) mNil))) (E0 := innerE [("_law_k", 2)] [some (.val d), some (.val d), none]) (S := S) (fun _ => .bl true) (ds := (rngL 0 ds.length).ds) (acc := []) (fun x hx => by
    obtain ⟨i, hi, rfl⟩ := List.mem_map.mp hx
    have hi' : i < ds.length := List.mem_range.mp hi
    have q : ∀ k, ([some (.val d), some (.val d), some (.val (.int (0 + (i : Nat))))] : Ev)[k]? = some (some (.val d)) → mBin ixD (mVar k) (mVar 2) [some (.val d), some (.val d), some (.val (.int (0 + (i : Nat))))] S = .ok (.val ds[i]) S := fun k hk => bin_ok (var_ok hk) (var_ok rfl) (by
      show ixD d (.int (0 + (i : Nat))) S = _
      rw [hix, at_nat hi']
      rfl)
    exact ⟨[some (.val d), some (.val d), some (.val (.int (0 + (i : Nat))))], _, rfl, rfl, call_ok (cons_ok (q 0 rfl) (cons_ok (q 1 rfl) nil_ok)) rfl (ih _ (List.getElem_mem hi')), rfl⟩) (by
      show 0 + ((List.range ds.length).map _).length ≤ _
      rw [List.length_map, List.length_range, sizeLine_eq]
      omega)
  have fin : retS (mF allD (mCons (mLc (mR1 (mCons (mF lenD (mCons (mVar 1) mNil)) mNil)) (gN 2) mYes (mCall (F__law_like n) 2 (mCons (mBin ixD (mVar 0) (mVar 2)) (mCons (mBin ixD (mVar 1) (mVar 2)) mNil))) [("_law_k", 2)]) mNil)) [some (.val d), some (.val d), none] S = .rt (.val (.bl true)) S := by
    refine ret_ok (f_ok (cons_ok (mLc_of it cl) nil_ok) ?_)
    have ab : ∀ xs : List D, asBls (xs.map fun _ => D.bl true) = some (xs.map fun _ => true) := fun xs => by
      induction xs with
      | nil => rfl
      | cons x xs ih => show (asBls (xs.map fun _ => D.bl true)).map (true :: ·) = _; rw [ih]; rfl
    show (match asBls ([] ++ ((rngL 0 ds.length).ds.map fun _ => D.bl true)) with | some bs => fine (.bl (bs.all id)) S | none => .bad) = _
    rw [List.nil_append, ab]
    show fine (.bl (((rngL 0 ds.length).ds.map fun _ => true).all id)) S = _
    have e : ((rngL 0 ds.length).ds.map fun _ => true).all id = true := by simp
    rw [e]
    rfl
  show runB N__law_like.length (m__law_like (F__law_like n)) [d, d] S = _
  exact runB_rt ((seqS_nx (ifS_fn c1)).trans ((seqS_nx (ifS_fn c2)).trans ((seqS_nx (ifS_fn c3)).trans ((seqS_nx (ifS_fn c4)).trans ((seqS_nx (ifS_fn c5)).trans ((seqS_nx (ifS_fn c6)).trans fin))))))
theorem like_ok {S : Store} : ∀ (n : Nat) (d : D), Pl d n → F__law_like n [d, d] S = .ok (.val (.bl true)) S
  | 0, _, h => by cases h
  | n + 1, .int i, _ => by
    have v1 : ([some (.val (.int i)), some (.val (.int i)), none] : Ev)[1]? = some (some (.val (.int i))) := rfl
    have c1 : mTst (mBin isND (mVar 1) (mK .non)) [some (.val (.int i)), some (.val (.int i)), none] S = .ok false S := rfl
    have c2 : mTru (mF isiT (mCons (mVar 1) (mCons (mK (.ty "bool")) mNil))) [some (.val (.int i)), some (.val (.int i)), none] S = .ok false S := tru_ok (isi_okE v1 rfl rfl)
    have c3 : mTru (mF isiT (mCons (mVar 1) (mCons (mK (.ty "int")) mNil))) [some (.val (.int i)), some (.val (.int i)), none] S = .ok true S := tru_ok (isi_okE v1 rfl rfl)
    have nm : F__law_num [.int i] S = .ok (.val (.bl true)) S := rfl
    have fin : ifS (mTru (mF isiT (mCons (mVar 1) (mCons (mK (.ty "int")) mNil)))) (retS (mAndV (mCall F__law_num 1 (mCons (mVar 0) mNil)) (mBin eqD (mVar 0) (mVar 1)))) nextS [some (.val (.int i)), some (.val (.int i)), none] S = .rt (.val (.bl true)) S :=
      (ifS_t c3).trans (ret_ok ((andV_t (call_ok (cons_ok (x := .val (.int i)) (var_ok rfl) nil_ok) rfl nm)).trans (bin_ok (x := .val (.int i)) (y := .val (.int i)) (var_ok rfl) (var_ok rfl) (by
        show eqD (.int i) (.int i) S = _
        rw [eqD_int, decide_eq_true rfl]
        rfl))))
    show runB N__law_like.length (m__law_like (F__law_like n)) [.int i, .int i] S = _
    exact runB_rt ((seqS_nx (ifS_fn c1)).trans ((seqS_nx (ifS_fn c2)).trans (seqS_rt fin)))
  | n + 1, .str s, h => by
    have hs : PyData.strOk s = true := by cases h with | str h => exact h
    have v1 : ([some (.val (.str s)), some (.val (.str s)), none] : Ev)[1]? = some (some (.val (.str s))) := rfl
    have v0 : ([some (.val (.str s)), some (.val (.str s)), none] : Ev)[0]? = some (some (.val (.str s))) := rfl
    have c1 : mTst (mBin isND (mVar 1) (mK .non)) [some (.val (.str s)), some (.val (.str s)), none] S = .ok false S := rfl
    have c2 : mTru (mF isiT (mCons (mVar 1) (mCons (mK (.ty "bool")) mNil))) [some (.val (.str s)), some (.val (.str s)), none] S = .ok false S := tru_ok (isi_okE v1 rfl rfl)
    have c3 : mTru (mF isiT (mCons (mVar 1) (mCons (mK (.ty "int")) mNil))) [some (.val (.str s)), some (.val (.str s)), none] S = .ok false S := tru_ok (isi_okE v1 rfl rfl)
    have c4 : mTru (mF isiT (mCons (mVar 1) (mCons (mK (.ty "str")) mNil))) [some (.val (.str s)), some (.val (.str s)), none] S = .ok true S := tru_ok (isi_okE v1 rfl rfl)
    have fin : ifS (mTru (mF isiT (mCons (mVar 1) (mCons (mK (.ty "str")) mNil)))) (retS (mAndV (mF isiT (mCons (mVar 0) (mCons (mK (.ty "str")) mNil))) (mBin eqD (mVar 0) (mVar 1)))) nextS [some (.val (.str s)), some (.val (.str s)), none] S = .rt (.val (.bl true)) S :=
      (ifS_t c4).trans (ret_ok ((andV_t (isi_okE v0 rfl rfl)).trans (bin_ok (x := .val (.str s)) (y := .val (.str s)) (var_ok rfl) (var_ok rfl) (eqD_str hs))))
    show runB N__law_like.length (m__law_like (F__law_like n)) [.str s, .str s] S = _
    exact runB_rt ((seqS_nx (ifS_fn c1)).trans ((seqS_nx (ifS_fn c2)).trans ((seqS_nx (ifS_fn c3)).trans (seqS_rt fin))))
  | n + 1, .tup ds, h => by
    cases h with
    | tup h1 h2 => exact like_seq (.inl rfl) rfl (fun i => rfl) rfl rfl h2 fun e he => like_ok n e (h1 e he)
  | n + 1, .lst ds, h => by
    cases h with
    | lst h1 h2 => exact like_seq (.inr rfl) rfl (fun i => rfl) rfl rfl h2 fun e he => like_ok n e (h1 e he)
  | _ + 1, .non, h => by cases h
  | _ + 1, .bl _, h => by cases h
  | _ + 1, .ty _, h => by cases h
  | _ + 1, .obj _, h => by cases h
  | _ + 1, .scr _, h => by cases h
  | _ + 1, .dct _, h => by cases h
  | _ + 1, .ref _, h => by cases h
end Wk57
set_option Elab.async false
set_option linter.all false
set_option maxRecDepth 100000
set_option maxHeartbeats 4000000
namespace Wk57
open PySem PySem.Spec L2 Hm
open Builtin Builtin.Str

/-! ### texts -/
abbrev Ls (x : Str) : List Nat := x.cps.toList
theorem str_eq {x y : Str} (h : Ls x = Ls y) : x = y := Str.ext' (Array.toList_inj.mp h)
theorem ls_app (x y : Str) : Ls (x ++ y) = Ls x ++ Ls y := by
  show (x ++ y).cps.toList = _
  rw [Str.cps_append, Array.toList_append]
theorem ls_len (x : Str) : (Ls x).length = x.length := by simp [Str.length]
def Fr (c : Nat) (x : Str) : Prop := c ∉ Ls x
theorem fr_app {c : Nat} {x y : Str} (h1 : Fr c x) (h2 : Fr c y) : Fr c (x ++ y) := by
  unfold Fr
  rw [ls_app, List.mem_append, not_or]
  exact ⟨h1, h2⟩
def jl (c : Nat) : List (List Nat) → List Nat
  | [] => []
  | [x] => x
  | x :: y :: r => x ++ c :: jl c (y :: r)
theorem jn_jl (c : Nat) : ∀ xs : List Str, Ls (Str.join ⟨#[c]⟩ xs) = jl c (xs.map Ls)
  | [] => rfl
  | [x] => rfl
  | x :: y :: r => by
    show Ls (x ++ ⟨#[c]⟩ ++ Str.join ⟨#[c]⟩ (y :: r)) = _
    rw [ls_app, ls_app, jn_jl c (y :: r), List.append_assoc]
    rfl
theorem cut_inj {c : Nat} : ∀ {x y A B : List Nat}, c ∉ x → c ∉ y → x ++ c :: A = y ++ c :: B → x = y ∧ A = B
  | [], [], A, B, _, _, h => by
    rw [List.nil_append, List.nil_append, List.cons.injEq] at h
    exact ⟨rfl, h.2⟩
  | [], b :: y, A, B, _, hy, h => by
    rw [List.nil_append, List.cons_append, List.cons.injEq] at h
    exact absurd (by rw [h.1]; exact List.mem_cons_self) hy
  | a :: x, [], A, B, hx, _, h => by
    rw [List.nil_append, List.cons_append, List.cons.injEq] at h
    exact absurd (by rw [h.1]; exact List.mem_cons_self) hx
  | a :: x, b :: y, A, B, hx, hy, h => by
    rw [List.cons_append, List.cons_append, List.cons.injEq] at h
    obtain ⟨e1, e2⟩ := cut_inj (fun z => hx (List.mem_cons_of_mem _ z)) (fun z => hy (List.mem_cons_of_mem _ z)) h.2
    exact ⟨by rw [h.1, e1], e2⟩
theorem jl_inj {c : Nat} : ∀ {xs ys : List (List Nat)}, xs ≠ [] → ys ≠ [] → (∀ x ∈ xs, c ∉ x) → (∀ y ∈ ys, c ∉ y) → jl c xs = jl c ys → xs = ys
  | [], _, h, _, _, _, _ => absurd rfl h
  | _, [], _, h, _, _, _ => absurd rfl h
  | [x], [y], _, _, _, _, h => by
    have e : x = y := h
    rw [e]
  | [x], y :: z :: r, _, _, hx, _, h => by
    have e : x = y ++ c :: jl c (z :: r) := h
    exact absurd (by rw [e]; simp) (hx x List.mem_cons_self)
  | x :: z :: r, [y], _, _, _, hy, h => by
    have e : x ++ c :: jl c (z :: r) = y := h
    exact absurd (by rw [← e]; simp) (hy y List.mem_cons_self)
  | x :: z :: r, y :: w :: t, _, _, hx, hy, h => by
    obtain ⟨e1, e2⟩ := cut_inj (hx x List.mem_cons_self) (hy y List.mem_cons_self) h
    have e3 := jl_inj (by simp) (by simp) (fun a ha => hx a (List.mem_cons_of_mem _ ha)) (fun a ha => hy a (List.mem_cons_of_mem _ ha)) e2
    rw [e1, e3]
theorem ls_inj {xs ys : List Str} (h : xs.map Ls = ys.map Ls) : xs = ys := by
  induction xs generalizing ys with
  | nil => cases ys with
    | nil => rfl
    | cons y ys => cases h
  | cons x xs ih => cases ys with
    | nil => cases h
    | cons y ys =>
      rw [List.map_cons, List.map_cons, List.cons.injEq] at h
      rw [str_eq h.1, ih h.2]
theorem join_is (c : Nat) (xs : List Str) : Txt.join ⟨#[c]⟩ xs = Str.join ⟨#[c]⟩ xs := StrLaws.glued_eq_join _ _
theorem split_join {c : Nat} {xs : List Str} (h : xs ≠ []) (hf : ∀ x ∈ xs, Fr c x) : Txt.split (Txt.join ⟨#[c]⟩ xs) ⟨#[c]⟩ = xs := by
  have e := StrLaws.join_split (Txt.join ⟨#[c]⟩ xs) ⟨#[c]⟩
  have f := StrLaws.split_free (Txt.join ⟨#[c]⟩ xs) c
  have n : Txt.split (Txt.join ⟨#[c]⟩ xs) ⟨#[c]⟩ ≠ [] := fun z => by
    have q := PyProof.Rows.split_pos (Txt.join ⟨#[c]⟩ xs) ⟨#[c]⟩
    rw [z] at q
    exact absurd q (by decide)
  generalize Txt.split (Txt.join ⟨#[c]⟩ xs) ⟨#[c]⟩ = ys at e f n
  rw [join_is] at e
  refine ls_inj (jl_inj (by simpa using n) (by simpa using h) (fun y hy => ?_) (fun y hy => ?_) (by rw [← jn_jl, ← jn_jl, e]))
  · obtain ⟨z, hz, rfl⟩ := List.mem_map.mp hy
    exact f z hz
  · obtain ⟨z, hz, rfl⟩ := List.mem_map.mp hy
    exact hf z hz
theorem at_one (x : Str) (c i : Nat) : StrLaws.At x ⟨#[c]⟩ x.length i ↔ (Ls x)[i]? = some c := StrLaws.subAt_one x c i
theorem part_ok {c : Nat} {a b : Str} (h : Fr c a) : Txt.partition (a ++ ⟨#[c]⟩ ++ b) ⟨#[c]⟩ = (a, ⟨#[c]⟩, b) := by
  have L : Ls (a ++ ⟨#[c]⟩ ++ b) = Ls a ++ c :: Ls b := by rw [ls_app, ls_app, List.append_assoc]; rfl
  have here : StrLaws.At (a ++ ⟨#[c]⟩ ++ b) ⟨#[c]⟩ (a ++ ⟨#[c]⟩ ++ b).length (Ls a).length := by
    rw [at_one, L, List.getElem?_append_right (Nat.le_refl _), Nat.sub_self]
    rfl
  unfold Txt.partition
  rcases StrLaws.occ_head (a ++ ⟨#[c]⟩ ++ b) ⟨#[c]⟩ 1 (Nat.le_refl _) with ⟨_, hn⟩ | ⟨i, r, e, h1, h2⟩
  · exact absurd here (hn _)
  · rw [e]
    have ei : i = (Ls a).length := by
      rcases Nat.lt_trichotomy i (Ls a).length with q | q | q
      · rw [at_one, L, List.getElem?_append_left q] at h1
        exact absurd (List.mem_of_getElem? h1) h
      · exact q
      · exact absurd here (h2 _ q)
    have e1 : strSub (a ++ ⟨#[c]⟩ ++ b) 0 i = a := str_eq (by
      show (strSub (a ++ ⟨#[c]⟩ ++ b) 0 i).cps.toList = _
      rw [StrLaws.strSub_toList]
      show ((Ls (a ++ ⟨#[c]⟩ ++ b)).drop 0).take (i - 0) = _
      rw [L, ei]
      simp)
    have e2 : strSub (a ++ ⟨#[c]⟩ ++ b) (i + (⟨#[c]⟩ : Str).length) (a ++ ⟨#[c]⟩ ++ b).length = b := str_eq (by
      show (strSub (a ++ ⟨#[c]⟩ ++ b) _ _).cps.toList = _
      rw [StrLaws.strSub_toList, ← ls_len]
      show ((Ls (a ++ ⟨#[c]⟩ ++ b)).drop (i + 1)).take _ = _
      have e3 : (⟨#[c]⟩ : Str).length = 1 := rfl
      rw [L, ei, e3]
      have e4 : (Ls a ++ c :: Ls b).drop ((Ls a).length + 1) = Ls b := by
        rw [← List.drop_drop, List.drop_left]
        rfl
      rw [e4]
      refine List.take_of_length_le ?_
      rw [List.length_append, List.length_cons]
      omega)
    show (strSub _ 0 i, _, strSub _ _ _) = _
    rw [e1, e2]
theorem ends_t {c : Nat} {a : Str} : Txt.endswith (a ++ ⟨#[c]⟩) ⟨#[c]⟩ = true := by
  have h := (StrLaws.subAt_one (a ++ ⟨#[c]⟩) c (Ls a).length).mpr (by
    show (Ls (a ++ ⟨#[c]⟩))[_]? = _
    rw [ls_app, List.getElem?_append_right (Nat.le_refl _), Nat.sub_self]
    rfl)
  unfold Txt.endswith
  have e : (a ++ ⟨#[c]⟩ : Str).length = (Ls a).length + 1 := by rw [← ls_len, ls_app, List.length_append]; rfl
  have e3 : (⟨#[c]⟩ : Str).length = 1 := rfl
  rw [e3, e, Nat.add_sub_cancel, h.2, decide_eq_true (by omega)]
  rfl
theorem ends_f {c : Nat} {x : Str} (h : Fr c x) : Txt.endswith x ⟨#[c]⟩ = false := by
  cases e : Txt.endswith x ⟨#[c]⟩ with
  | false => rfl
  | true =>
    unfold Txt.endswith at e
    rw [Bool.and_eq_true, decide_eq_true_eq] at e
    have e3 : (⟨#[c]⟩ : Str).length = 1 := rfl
    rw [e3] at e
    have q := (StrLaws.subAt_one x c (x.length - 1)).mp ⟨by rw [e3]; omega, e.2⟩
    exact absurd (List.mem_of_getElem? q) h
theorem starts_t {c : Nat} {a : Str} : Txt.startswith (⟨#[c]⟩ ++ a) ⟨#[c]⟩ = true := by
  have h := (StrLaws.subAt_one (⟨#[c]⟩ ++ a) c 0).mpr (by
    show (Ls (⟨#[c]⟩ ++ a))[_]? = _
    rw [ls_app]
    rfl)
  unfold Txt.startswith
  rw [h.2, decide_eq_true h.1]
  rfl
theorem starts_f {c : Nat} {x : Str} (h : Fr c x) : Txt.startswith x ⟨#[c]⟩ = false := by
  cases e : Txt.startswith x ⟨#[c]⟩ with
  | false => rfl
  | true =>
    unfold Txt.startswith at e
    rw [Bool.and_eq_true, decide_eq_true_eq] at e
    have q := (StrLaws.subAt_one x c 0).mp e
    exact absurd (List.mem_of_getElem? q) h
theorem cut_to {a b : Str} : StrLaws.sliceText (a ++ b) none (some (a.length : Int)) = a := by
  rw [StrLaws.sliceText_to ⟨by omega, by
    show _ ≤ ((Ls (a ++ b)).length : Int)
    rw [ls_app, List.length_append, ← ls_len]
    omega⟩]
  refine str_eq ?_
  show ((Ls (a ++ b)).drop 0).take ((a.length : Int) - 0).toNat = _
  rw [ls_app, ← ls_len]
  simp
theorem cut_from {c : Nat} {a : Str} : StrLaws.sliceText (⟨#[c]⟩ ++ a) (some 1) none = a := by
  rw [StrLaws.sliceText_from ⟨by omega, by
    show _ ≤ ((Ls (⟨#[c]⟩ ++ a)).length : Int)
    rw [ls_app, List.length_append]
    show (1 : Int) ≤ ((1 + _ : Nat) : Int)
    omega⟩]
  refine str_eq ?_
  show ((Ls (⟨#[c]⟩ ++ a)).drop 1).take (((Ls (⟨#[c]⟩ ++ a)).length : Int) - 1).toNat = _
  rw [ls_app]
  show (Ls a).take _ = _
  refine List.take_of_length_le ?_
  rw [List.length_append]
  show _ ≤ (((1 + (Ls a).length : Nat) : Int) - 1).toNat
  omega
/-- short, and sound -/
structure Sh (n : Nat) (x : Str) : Prop where
  le : x.length ≤ n
  ok : PyData.strOk x = true
theorem sh_mono {n m : Nat} {x : Str} (h : Sh n x) (hm : n ≤ m) : Sh m x := ⟨Nat.le_trans h.le hm, h.ok⟩
theorem ok_iff {x : Str} : PyData.strOk x = true ↔ ∀ c ∈ Ls x, c < 0x110000 := by
  show x.cps.all (· < 0x110000) = true ↔ _
  rw [← Array.all_toList, List.all_eq_true]
  simp
theorem sh_app {n m : Nat} {x y : Str} (h : Sh n x) (k : Sh m y) : Sh (n + m) (x ++ y) := ⟨by
  rw [Str.length_append]
  have := h.le
  have := k.le
  omega, by
  rw [ok_iff, ls_app]
  intro c hc
  rcases List.mem_append.mp hc with q | q
  · exact ok_iff.mp h.ok c q
  · exact ok_iff.mp k.ok c q⟩
theorem sh_one {c : Nat} (h : c < 0x110000) : Sh 1 ⟨#[c]⟩ := ⟨Nat.le_refl _, ok_iff.mpr fun d hd => by
  rw [List.mem_singleton.mp hd]
  exact h⟩
theorem sh_sum {n : Nat} : ∀ {xs : List Str}, (∀ x ∈ xs, Sh n x) → (xs.map (·.length)).sum ≤ xs.length * n
  | [], _ => by simp
  | x :: xs, h => by
    have := sh_sum (xs := xs) fun y hy => h y (List.mem_cons_of_mem _ hy)
    have := (h x List.mem_cons_self).le
    rw [List.map_cons, List.sum_cons, List.length_cons, Nat.succ_mul]
    omega
theorem sh_join {c n : Nat} (hc : c < 0x110000) : ∀ {xs : List Str}, (∀ x ∈ xs, Sh n x) → Sh (xs.length * (n + 1)) (Txt.join ⟨#[c]⟩ xs)
  | xs, h => by
    rw [join_is]
    induction xs with
    | nil => exact ⟨Nat.zero_le _, ok_iff.mpr fun d hd => by cases hd⟩
    | cons x xs ih =>
      have h1 := h x List.mem_cons_self
      cases xs with
      | nil => exact sh_mono h1 (by rw [List.length_singleton]; omega)
      | cons y r =>
        have h2 := ih fun z hz => h z (List.mem_cons_of_mem _ hz)
        show Sh _ (x ++ ⟨#[c]⟩ ++ Str.join ⟨#[c]⟩ (y :: r))
        refine sh_mono (sh_app (sh_app h1 (sh_one hc)) h2) ?_
        rw [List.length_cons (a := x), Nat.succ_mul]
        omega
theorem fr_join {c k : Nat} (hk : k ≠ c) : ∀ {xs : List Str}, (∀ x ∈ xs, Fr k x) → Fr k (Txt.join ⟨#[c]⟩ xs)
  | xs, h => by
    rw [join_is]
    induction xs with
    | nil => exact fun z => by cases z
    | cons x xs ih =>
      have h1 := h x List.mem_cons_self
      cases xs with
      | nil => exact h1
      | cons y r =>
        show Fr k (x ++ ⟨#[c]⟩ ++ Str.join ⟨#[c]⟩ (y :: r))
        exact fr_app (fr_app h1 fun z => hk (List.mem_singleton.mp z)) (ih fun z hz => h z (List.mem_cons_of_mem _ hz))
end Wk57
set_option Elab.async false
set_option linter.all false
set_option maxRecDepth 100000
set_option maxHeartbeats 4000000
namespace Wk57
open PySem PySem.Spec L2 Hm
open Builtin Builtin.Str

/-! ### numbers as texts -/
def numT (i : Int) : Str := toString i
def figB (n : Nat) : Bool := let l := Ls (numT (n : Int)); l.all (fun c => decide (48 ≤ c) && decide (c ≤ 57)) && decide (1 ≤ l.length) && decide (l.length ≤ 3) && (decide (n = 0) || decide (l[0]? ≠ some 48)) && decide (PySem.intText? (numT (n : Int)) = some (n : Int))
theorem fig_all : (List.range 1000).all figB = true := by decide +kernel
theorem neg_all : (List.range 1000).all (fun n => decide (n = 0) || decide (Ls (numT (-(n : Int))) = 45 :: Ls (numT (n : Int)))) = true := by decide +kernel
structure Fig (n : Int) (x : Str) : Prop where
  dig : ∀ c ∈ Ls x, 48 ≤ c ∧ c ≤ 57
  lo : 1 ≤ x.length
  hi : x.length ≤ 3
  fst : n = 0 ∨ (Ls x)[0]? ≠ some 48
  int : PySem.intText? x = some n
theorem fig_ok {i : Int} (h0 : 0 ≤ i) (h1 : i < 1000) : Fig i (numT i) := by
  obtain ⟨n, rfl⟩ := Int.eq_ofNat_of_zero_le h0
  have h := List.all_eq_true.mp fig_all n (List.mem_range.mpr (by omega))
  unfold figB at h
  simp only [Bool.and_eq_true, Bool.or_eq_true, decide_eq_true_eq, List.all_eq_true] at h
  obtain ⟨⟨⟨⟨a, b⟩, c⟩, d⟩, e⟩ := h
  exact ⟨a, by rw [← ls_len]; exact b, by rw [← ls_len]; exact c, d.imp (fun z => by rw [z]; rfl) id, e⟩
theorem neg_txt {i : Int} (h0 : 0 < i) (h1 : i < 1000) : numT (-i) = ⟨#[45]⟩ ++ numT i := by
  obtain ⟨n, rfl⟩ := Int.eq_ofNat_of_zero_le (Int.le_of_lt h0)
  have h := List.all_eq_true.mp neg_all n (List.mem_range.mpr (by omega))
  rw [Bool.or_eq_true, decide_eq_true_eq, decide_eq_true_eq] at h
  rcases h with h | h
  · omega
  · exact str_eq (by rw [h, ls_app]; rfl)
theorem num_zero : numT 0 = "0" := by decide +kernel
theorem num_sh {i : Int} (h0 : -999 ≤ i) (h1 : i ≤ 999) : Sh 4 (numT i) := by
  have key : ∀ j : Int, 0 ≤ j → j < 1000 → Sh 3 (numT j) := fun j a b => by
    have f := fig_ok a b
    exact ⟨f.hi, ok_iff.mpr fun c hc => by have := f.dig c hc; omega⟩
  by_cases c : 0 ≤ i
  · exact sh_mono (key i c (by omega)) (by omega)
  · have e := neg_txt (i := -i) (by omega) (by omega)
    rw [Int.neg_neg] at e
    rw [e]
    exact sh_mono (sh_app (sh_one (by omega)) (key (-i) (by omega) (by omega))) (by omega)
theorem num_fr {i : Int} {c : Nat} (h0 : -999 ≤ i) (h1 : i ≤ 999) (hc : c < 48 ∨ 57 < c) (h45 : c ≠ 45) : Fr c (numT i) := by
  have key : ∀ j : Int, 0 ≤ j → j < 1000 → Fr c (numT j) := fun j a b z => by
    have := (fig_ok a b).dig c z
    omega
  by_cases q : 0 ≤ i
  · exact key i q (by omega)
  · have e := neg_txt (i := -i) (by omega) (by omega)
    rw [Int.neg_neg] at e
    rw [e]
    exact fr_app (fun z => h45 (List.mem_singleton.mp z)) (key (-i) (by omega) (by omega))
/-! ### the texts of a deed -/
def needT (d : D) : Str := match d with
  | .tup [.str x, .int k] => x ++ ⟨#[42]⟩ ++ numT k
  | _ => Str.empty
def restT (r : Int) : Str := Txt.mul "r" r
def wayT (d : D) : Str := match d with
  | .tup [.int l, .int r, .tup ns] => Txt.join ⟨#[43]⟩ ((numT l ++ restT r) :: ns.map needT)
  | _ => Str.empty
def thT (d : D) : Str := match d with
  | .str x => x
  | .int i => numT i
  | .tup ws => Txt.join ⟨#[47]⟩ (ws.map wayT)
  | _ => Str.empty
/-- a name: letters alone -/
structure Nm (x : Str) : Prop where
  az : ∀ c ∈ Ls x, 97 ≤ c ∧ c ≤ 122
  lo : 1 ≤ x.length
  hi : x.length ≤ 8
theorem menu_nm {x : Str} (h : x ∈ names) : Nm x := by
  have all : names.all (fun x => (Ls x).all (fun c => decide (97 ≤ c) && decide (c ≤ 122)) && decide (1 ≤ x.length) && decide (x.length ≤ 8)) = true := by decide +kernel
  have q := List.all_eq_true.mp all x h
  simp only [Bool.and_eq_true, decide_eq_true_eq, List.all_eq_true] at q
  exact ⟨q.1.1, q.1.2, q.2⟩
theorem nm_sh {x : Str} (h : Nm x) : Sh 8 x := ⟨h.hi, ok_iff.mpr fun c hc => by have := h.az c hc; omega⟩
theorem nm_fr {x : Str} {c : Nat} (h : Nm x) (hc : c < 97 ∨ 122 < c) : Fr c x := fun z => by
  have := h.az c z
  omega
theorem rest0 : restT 0 = Str.empty := rfl
theorem rest1 : restT 1 = ⟨#[114]⟩ := rfl
theorem rest_cases {r : Int} (h : 0 ≤ r ∧ r < 2) : r = 0 ∨ r = 1 := by omega
theorem rest_sh {r : Int} (h : 0 ≤ r ∧ r < 2) : Sh 1 (restT r) := by
  rcases rest_cases h with rfl | rfl
  · exact ⟨Nat.zero_le _, rest0 ▸ ok_iff.mpr fun c hc => by cases hc⟩
  · exact rest1 ▸ sh_one (by omega)
theorem rest_fr {r : Int} {c : Nat} (h : 0 ≤ r ∧ r < 2) (hc : c ≠ 114) : Fr c (restT r) := by
  rcases rest_cases h with rfl | rfl
  · exact fun z => by cases z
  · exact fun z => hc (List.mem_singleton.mp z)
theorem need_sh {d : D} (h : NeedOk d) : Sh 13 (needT d) := by
  obtain ⟨x, k, rfl, hx, h0, h1⟩ := h
  exact sh_mono (sh_app (sh_app (nm_sh (menu_nm hx)) (sh_one (c := 42) (by omega))) (num_sh (i := k) (by omega) (by omega))) (by omega)
theorem need_fr {d : D} {c : Nat} (h : NeedOk d) (hc : c < 48) (h1 : c ≠ 45) (h2 : c ≠ 42) : Fr c (needT d) := by
  obtain ⟨x, k, rfl, hx, a, b⟩ := h
  exact fr_app (fr_app (nm_fr (menu_nm hx) (by omega)) fun z => h2 (List.mem_singleton.mp z)) (num_fr (by omega) (by omega) (by omega) h1)
theorem head_sh {l r : Int} (h : 0 ≤ l ∧ l < 1000) (k : 0 ≤ r ∧ r < 2) : Sh 5 (numT l ++ restT r) := sh_app (num_sh (by omega) (by omega)) (rest_sh k)
theorem way_parts {l r : Int} {ns : List D} (h : 0 ≤ l ∧ l < 1000) (k : 0 ≤ r ∧ r < 2) (hn : ∀ n ∈ ns, NeedOk n) : ∀ x ∈ (numT l ++ restT r) :: ns.map needT, Sh 13 x := fun x hx => by
  rcases List.mem_cons.mp hx with q | q
  · rw [q]; exact sh_mono (head_sh h k) (by omega)
  · obtain ⟨n, hn', rfl⟩ := List.mem_map.mp q
    exact need_sh (hn n hn')
theorem way_sh {d : D} (h : WayOk d) : Sh 42 (wayT d) := by
  obtain ⟨l, r, ns, rfl, h1, h2, h3, h4⟩ := h
  refine sh_mono (sh_join (c := 43) (by omega) (way_parts h1 h2 h4)) ?_
  rw [List.length_cons, List.length_map]
  have := Nat.mul_le_mul_right (13 + 1) (show ns.length + 1 ≤ 3 by omega)
  omega
theorem way_fr {d : D} {c : Nat} (h : WayOk d) (hc : c < 48) (h1 : c ≠ 45) (h2 : c ≠ 42) (h3 : c ≠ 43) : Fr c (wayT d) := by
  obtain ⟨l, r, ns, rfl, a, b, _, hn⟩ := h
  refine fr_join h3 fun x hx => ?_
  rcases List.mem_cons.mp hx with q | q
  · rw [q]; exact fr_app (num_fr (by omega) (by omega) (by omega) h1) (rest_fr b (by omega))
  · obtain ⟨n, hn', rfl⟩ := List.mem_map.mp q
    exact need_fr (hn n hn') hc h1 h2
theorem th_sh {c : Nat} {d : D} (h : ThOk c d) : Sh 172 (thT d) := by
  cases h with
  | n h => exact sh_mono (nm_sh (menu_nm h)) (by omega)
  | k a b => exact sh_mono (num_sh a b) (by omega)
  | w a b hw =>
    rename_i ws
    refine sh_mono (sh_join (c := 47) (n := 42) (by omega) fun x hx => ?_) ?_
    · obtain ⟨w, hw', rfl⟩ := List.mem_map.mp hx
      exact way_sh (hw w hw')
    · rw [List.length_map]
      have := Nat.mul_le_mul_right (42 + 1) a
      omega
theorem th_fr {c : Nat} {d : D} (h : ThOk c d) : Fr 32 (thT d) := by
  cases h with
  | n h => exact nm_fr (menu_nm h) (by omega)
  | k a b => exact num_fr a b (by omega) (by omega)
  | w a b hw =>
    refine fr_join (by omega) fun x hx => ?_
    obtain ⟨w, hw', rfl⟩ := List.mem_map.mp hx
    exact way_fr (hw w hw') (by omega) (by omega) (by omega) (by omega)
end Wk57
set_option Elab.async false
set_option linter.all false
set_option maxRecDepth 100000
set_option maxHeartbeats 4000000
namespace Wk57
open PySem PySem.Spec L2 Hm
open Builtin Builtin.Str

section
variable {E : Ev} {S S1 S2 : Store}
theorem small_le {n : Nat} (h : n ≤ 100000) : small n = true := by
  unfold small
  exact decide_eq_true (by rw [sizeLine_eq]; omega)
theorem fit_ok {i : Int} (h0 : -999 ≤ i) (h1 : i ≤ 999) : fitI i = true := by
  unfold fitI
  refine decide_eq_true ?_
  by_cases c : i.natAbs = 0
  · rw [c]; decide
  · refine (Nat.log2_lt c).mpr (Nat.lt_of_lt_of_le (m := 1024) (by omega) ?_)
    exact Nat.pow_le_pow_right (n := 2) (by omega) (show 10 ≤ 1920 by omega)
theorem strI {m : M DV} {i : Int} (h : m E S = .ok (.val (.int i)) S1) (h0 : -999 ≤ i) (h1 : i ≤ 999) : mF strD (mCons m mNil) E S = .ok (.val (.str (numT i))) S1 := f_ok (cons_ok h nil_ok) (by
  show (if fitI i then fine (.str (toString i)) S1 else .bad) = _
  rw [if_pos (fit_ok h0 h1)]
  rfl)
theorem strS {m : M DV} {x : Str} (h : m E S = .ok (.val (.str x)) S1) : mF strD (mCons m mNil) E S = .ok (.val (.str x)) S1 := f_ok (cons_ok h nil_ok) rfl
theorem addT {a b : Str} (h : a.length + b.length ≤ 1000) : addD (.str a) (.str b) S = .ok (.val (.str (a ++ b))) S := by
  show (if small (a.length + b.length) then fine (.str (a ++ b)) S else .bad) = _
  rw [if_pos (small_le (by omega))]
  rfl
theorem addL {xs ys : List D} (h : xs.length + ys.length ≤ 1000) : addD (.lst xs) (.lst ys) S = .ok (.ol (xs ++ ys)) S := by
  show (if small (xs.length + ys.length) then Res.ok (DV.ol (xs ++ ys)) S else .bad) = _
  rw [if_pos (small_le (by omega))]
theorem strs_map : ∀ xs : List Str, asStrs (xs.map .str) = some xs
  | [] => rfl
  | x :: xs => by
    show (asStrs (xs.map .str)).map (x :: ·) = _
    rw [strs_map xs]
    rfl
theorem joinL {c n : Nat} {xs : List Str} (h : ∀ x ∈ xs, Sh n x) (hn : xs.length * (n + 1) ≤ 100000) : joinD ⟨#[c]⟩ (.lst (xs.map .str)) S = .ok (.val (.str (Txt.join ⟨#[c]⟩ xs))) S := by
  show (match asStrs (xs.map .str) with
    | some ys => if joinOk ⟨#[c]⟩ ys then fine (.str (Txt.join ⟨#[c]⟩ ys)) S else .bad
    | none => .bad) = _
  rw [strs_map]
  dsimp only
  rw [if_pos (by
    unfold joinOk
    refine decide_eq_true ?_
    have a := sh_sum h
    have e : (⟨#[c]⟩ : Str).length = 1 := rfl
    rw [e]
    rw [Nat.mul_add] at hn
    omega)]
  rfl
theorem mM1_ok {f : Str → F1} {mo me : M DV} {a : Str} {y : DV} {r : Res DV} (h1 : mo E S = .ok (.val (.str a)) S1) (h2 : me E S1 = .ok y S2) (h3 : f a y.frz S2 = r) : mM1 f mo me E S = r := by
  unfold mM1
  rw [bnd_ok h1]
  show bnd me _ E S1 = r
  rw [bnd_ok h2]
  exact h3
theorem if_t {t : M Bool} {a b : M DV} (h : t E S = .ok true S1) : mIf t a b E S = a E S1 := by
  unfold mIf
  rw [bnd_ok h]
  rfl
theorem if_f {t : M Bool} {a b : M DV} (h : t E S = .ok false S1) : mIf t a b E S = b E S1 := by
  unfold mIf
  rw [bnd_ok h]
  rfl
theorem wk_ok {m : M DV} {dv : DV} {w : Wk} (h : m E S = .ok dv S1) (hw : itV dv.frz S1 = some w) : mWk itV m E S = .ok w S1 := by
  unfold mWk
  rw [bnd_ok h]
  show (match itV dv.frz S1 with | some w => Res.ok w S1 | none => .bad) = _
  rw [hw]
theorem map_str (f : D → Str) (xs : List D) : xs.map (fun d => D.str (f d)) = (xs.map f).map .str := by rw [List.map_map]; rfl
/-- the head and the needs, joined -/
theorem way_join {l r : Int} {ns : List D} (h : WayOk (.tup [.int l, .int r, .tup ns])) {m1 m2 : M DV} (h1 : m1 E S = .ok (.ol [.str (numT l ++ restT r)]) S) (h2 : m2 E S = .ok (.ol (ns.map fun d => .str (needT d))) S) :
    mM1 joinD (mK (.str "+")) (mBin addD m1 m2) E S = .ok (.val (.str (wayT (.tup [.int l, .int r, .tup ns])))) S := by
  obtain ⟨_, _, _, e, a, b, c, d⟩ := h
  cases e
  have add : mBin addD m1 m2 E S = .ok (.ol (((numT l ++ restT r) :: ns.map needT).map .str)) S := bin_ok h1 h2 (by
    show addD (.lst [.str (numT l ++ restT r)]) (.lst (ns.map fun d => .str (needT d))) S = _
    rw [addL (by rw [List.length_map, List.length_singleton]; omega), map_str]
    rfl)
  refine mM1_ok (a := ⟨#[43]⟩) k_ok add (joinL (way_parts a b d) ?_)
  rw [List.length_cons, List.length_map]
  omega
theorem head_ok {ml mr : M DV} {l r : Int} (a : 0 ≤ l ∧ l < 1000) (b : 0 ≤ r ∧ r < 2) (hl : ml E S = .ok (.val (.int l)) S) (hr : mr E S = .ok (.val (.int r)) S) : mLst (mCons (mBin addD (mF strD (mCons ml mNil)) (mBin mulD (mK (.str "r")) mr)) mNil) E S = .ok (.ol [.str (numT l ++ restT r)]) S := by
  refine lst_ok (cons_ok (x := .val (.str (numT l ++ restT r))) (bin_ok (strI hl (by omega) (by omega)) (bin_ok (x := .val (.str "r")) (r := .ok (.val (.str (restT r))) S) k_ok hr ?_) ?_) nil_ok) (show 1 ≤ 1000 by decide)
  · show (if 0 ≤ r ∧ r ≤ 64 ∧ ("r" : Str).length ≤ 100 then fine (.str (Txt.mul "r" r)) S else .bad) = _
    rw [if_pos ⟨b.1, by omega, by decide⟩]
    rfl
  · have h1 := (num_sh (i := l) (by omega) (by omega)).le
    have h2 := (rest_sh b).le
    exact addT (by omega)
end
theorem lway_ok {S : Store} {d : D} (h : WayOk d) : F__law_way_text [d] S = .ok (.val (.str (wayT d))) S := by
  obtain ⟨l, r, ns, rfl, a, b, c, hn⟩ := id h
  have v0 : ([some (.val (.tup [.int l, .int r, .tup ns])), none] : Ev)[0]? = some (some (.val (.tup [.int l, .int r, .tup ns]))) := rfl
  have cl := compL_fun (w := ns) (g := gN 1) (t := mYes) (e := mBin addD (mBin addD (mBin ixD (mVar 1) (mK (.int 0))) (mK (.str "*"))) (mF strD (mCons (mBin ixD (mVar 1) (mK (.int 1))) mNil))) (E0 := innerE [("_law_pair", 1)] [some (.val (.tup [.int l, .int r, .tup ns])), none]) (S := S) (fun d => .str (needT d)) (ds := ns) (acc := []) (fun z hz => by
    obtain ⟨x, k, rfl, hx, k0, k1⟩ := hn z hz
    have hl := (nm_sh (menu_nm hx)).le
    have hk := (num_sh (i := k) (by omega) (by omega)).le
    refine ⟨[some (.val (.tup [.int l, .int r, .tup ns])), some (.val (.tup [.str x, .int k]))], .val (.str (x ++ ⟨#[42]⟩ ++ numT k)), rfl, rfl, ?_, rfl⟩
    refine bin_ok (x := .val (.str (x ++ (⟨#[42]⟩ : Str)))) (bin_ok (x := .val (.str x)) (y := .val (.str ⟨#[42]⟩)) (bin_ok (var_ok rfl) k_ok rfl) k_ok (addT ?_)) (strI (bin_ok (var_ok rfl) k_ok rfl) (by omega) (by omega)) (addT ?_)
    · show x.length + 1 ≤ _
      omega
    · rw [Str.length_append]
      show x.length + 1 + (numT k).length ≤ _
      omega) (by rw [List.length_nil, sizeLine_eq]; omega)
  rw [List.nil_append] at cl
  exact runB_rt (ret_ok (way_join h (head_ok a b (bin_ok (var_ok v0) k_ok rfl) (bin_ok (var_ok v0) k_ok rfl)) (mLc_of (wk_ok (bin_ok (var_ok v0) k_ok (r := .ok (.val (.tup ns)) S) rfl) rfl) cl)))
end Wk57
set_option Elab.async false
set_option linter.all false
set_option maxRecDepth 100000
set_option maxHeartbeats 4000000
namespace Wk57
open PySem PySem.Spec L2 Hm
open Builtin Builtin.Str

theorem lookup_mem {α : Type} {w : Str} {v : α} : ∀ {kvs : List (Str × α)}, kvs.lookup w = some v → (w, v) ∈ kvs
  | [], h => by cases h
  | (k, u) :: kvs, h => by
    rw [List.lookup_cons] at h
    cases e : w == k with
    | true =>
      rw [e] at h
      cases h
      rw [eq_of_beq e]
      exact List.mem_cons_self
    | false =>
      rw [e] at h
      exact List.mem_cons_of_mem _ (lookup_mem h)
structure WordOk (w f : Str) : Prop where
  sh : Sh 10 w
  fr : Fr 32 w
  len : f.cps.toList.length ≤ 4
theorem word_ok {w f : Str} (h : tab_FORMS.lookup w = some (.str f)) : WordOk w f := by
  have all : tab_FORMS.all (fun kv => decide (kv.1.length ≤ 10) && PyData.strOk kv.1 && decide (32 ∉ Ls kv.1) && (match kv.2 with | .str f => decide (f.cps.toList.length ≤ 4) | _ => false)) = true := by decide +kernel
  have q := List.all_eq_true.mp all _ (lookup_mem h)
  simp only [Bool.and_eq_true, decide_eq_true_eq] at q
  exact ⟨⟨q.1.1.1, q.1.1.2⟩, q.1.2, q.2⟩
theorem ths_mem {cs : List Nat} {ds : List D} (h : ThsOk cs ds) : ∀ d ∈ ds, ∃ c, ThOk c d := by
  induction h with
  | nil => intro d hd; cases hd
  | cons h _ ih =>
    intro d hd
    rcases List.mem_cons.mp hd with q | q
    · rw [q]; exact ⟨_, h⟩
    · exact ih d q
theorem ths_len {cs : List Nat} {ds : List D} (h : ThsOk cs ds) : ds.length = cs.length := by
  induction h with
  | nil => rfl
  | cons _ _ ih => rw [List.length_cons, List.length_cons, ih]
def wordsT (d : D) : Str := match d with
  | .tup ds => Txt.join ⟨#[32]⟩ (ds.map thT)
  | _ => Str.empty
theorem words_sh {w f : Str} {ths : List D} (hw : WordOk w f) (h : ThsOk f.cps.toList ths) : ∀ x ∈ (.str w :: ths).map thT, Sh 172 x := fun x hx => by
  obtain ⟨d, hd, rfl⟩ := List.mem_map.mp hx
  rcases List.mem_cons.mp hd with q | q
  · rw [q]; exact sh_mono hw.sh (by omega)
  · obtain ⟨c, hc⟩ := ths_mem h d q
    exact th_sh hc
theorem words_fr {w f : Str} {ths : List D} (hw : WordOk w f) (h : ThsOk f.cps.toList ths) : ∀ x ∈ (.str w :: ths).map thT, Fr 32 x := fun x hx => by
  obtain ⟨d, hd, rfl⟩ := List.mem_map.mp hx
  rcases List.mem_cons.mp hd with q | q
  · rw [q]; exact hw.fr
  · obtain ⟨c, hc⟩ := ths_mem h d q
    exact th_fr hc
theorem words_len {w f : Str} {ths : List D} (hw : WordOk w f) (h : ThsOk f.cps.toList ths) : ((.str w :: ths).map thT).length ≤ 5 := by
  have := ths_len h
  have := hw.len
  rw [List.length_map, List.length_cons]
  omega
section
variable {E : Ev} {S S1 : Store}
theorem app_ok {k : Nat} {xs : List D} {d : D} {ms : M (List D)} (h : E[k]? = some (some (.ol xs))) (hm : ms E S = .ok [d] S) (hz : xs.length < 1000) : appS (mPv k) ms E S = .nx (E.set k (some (.ol (xs ++ [d])))) S := by
  have e1 : mPv k E S = .ok (.sl k) S := by unfold mPv; rw [h]
  have e2 : plcL E S (.sl k) = some xs := by
    show (match E[k]? with
      | some (some (.ol ds)) => some ds
      | _ => none) = _
    rw [h]
  unfold appS withE
  rw [e1]
  dsimp only
  rw [e2]
  dsimp only
  rw [hm]
  dsimp only
  rw [e2]
  dsimp only
  rw [if_pos (by rw [sizeLine_eq]; omega)]
  rfl
theorem py_str {s : Str} (hs : PyData.strOk s = true) : pyOf S (.str s) = some (.str s) := by
  show (if SeqAt.shaped (.str s) then some (PyData.str s) else none) = _
  rw [if_pos (by
    unfold SeqAt.shaped
    simp [PyData.canLay0, hs, PyData.depth])]
theorem eqS {a b : Str} (ha : PyData.strOk a = true) (hb : PyData.strOk b = true) : eqD (.str a) (.str b) S = .ok (.val (.bl (a == b))) S := by
  unfold eqD
  rw [py_str ha, py_str hb]
  have e : PyData.eqv (.str a) (.str b) = (a == b) := by simp [PyData.eqv]
  dsimp only
  rw [e]
  rfl
theorem neS {a b : Str} (ha : PyData.strOk a = true) (hb : PyData.strOk b = true) : neD (.str a) (.str b) S = .ok (.val (.bl (!(a == b)))) S := by
  unfold neD
  rw [py_str ha, py_str hb]
  have e : PyData.eqv (.str a) (.str b) = (a == b) := by simp [PyData.eqv]
  dsimp only
  rw [e]
  rfl
theorem mTru_val {b : Bool} {m : M DV} (h : m E S = .ok (.val (.bl b)) S) : mTru m E S = .ok b S := tru_ok h
end
def isTup (z : D) : Bool := match z with | .tup _ => true | _ => false
/-- one word of a deed, as the law writes it -/
theorem lword_ok {S : Store} {dd : D} {xs : List D} {z : D} {e3 e4 : Option DV} (hz : (∃ c, ThOk c z) ∨ ∃ w, z = .str w) (hl : xs.length < 1000) :
    seqS (setS 3 (mF isiT (mCons (mVar 2) (mCons (mK (.ty "tuple")) mNil)))) (appS (mPv 1) (mCons (mIf (mTru (mVar 3)) (mM1 joinD (mK (.str "/")) (mLc (mWk itV (mVar 2)) (gN 4) mYes (mCall F__law_way_text 1 (mCons (mVar 4) mNil)) [("_law_mode", 4)])) (mF strD (mCons (mVar 2) mNil))) mNil))
      [some (.val dd), some (.ol xs), some (.val z), e3, e4] S = .nx [some (.val dd), some (.ol (xs ++ [.str (thT z)])), some (.val z), some (.val (.bl (isTup z))), e4] S := by
  have text : ∀ x : Str, seqS (setS 3 (mF isiT (mCons (mVar 2) (mCons (mK (.ty "tuple")) mNil)))) (appS (mPv 1) (mCons (mIf (mTru (mVar 3)) (mM1 joinD (mK (.str "/")) (mLc (mWk itV (mVar 2)) (gN 4) mYes (mCall F__law_way_text 1 (mCons (mVar 4) mNil)) [("_law_mode", 4)])) (mF strD (mCons (mVar 2) mNil))) mNil))
      [some (.val dd), some (.ol xs), some (.val (.str x)), e3, e4] S = .nx [some (.val dd), some (.ol (xs ++ [.str x])), some (.val (.str x)), some (.val (.bl false)), e4] S := fun x => by
    rw [seqS_nx (set_ok (k := 3) (isi_okE (k := 2) (d := .str x) (b := false) rfl rfl rfl))]
    exact app_ok rfl (cons_ok (x := .val (.str x)) ((if_f (tru_ok (var_ok rfl))).trans (strS (var_ok rfl))) nil_ok) hl
  rcases hz with ⟨c, h⟩ | ⟨w, rfl⟩
  · cases h with
    | n h => exact text _
    | k a b =>
      rename_i i
      rw [seqS_nx (set_ok (k := 3) (isi_okE (k := 2) (d := .int i) (b := false) rfl rfl rfl))]
      exact app_ok rfl (cons_ok (x := .val (.str (numT i))) ((if_f (tru_ok (var_ok rfl))).trans (strI (var_ok rfl) a b)) nil_ok) hl
    | w a b hw =>
      rename_i ws
      rw [seqS_nx (set_ok (k := 3) (isi_okE (k := 2) (d := .tup ws) (b := true) rfl rfl rfl))]
      have cl := compL_fun (w := ws) (g := gN 4) (t := mYes) (e := mCall F__law_way_text 1 (mCons (mVar 4) mNil)) (E0 := innerE [("_law_mode", 4)] [some (.val dd), some (.ol xs), some (.val (.tup ws)), some (.val (.bl true)), e4]) (S := S) (fun d => .str (wayT d)) (ds := ws) (acc := []) (fun z hz => by
        refine ⟨_, .val (.str (wayT z)), rfl, rfl, call_ok (cons_ok (x := .val z) (var_ok rfl) nil_ok) rfl (lway_ok (hw z hz)), rfl⟩) (by rw [List.length_nil, sizeLine_eq]; omega)
      rw [List.nil_append, map_str] at cl
      refine app_ok rfl (cons_ok (x := .val (.str (thT (.tup ws)))) ((if_t (tru_ok (var_ok rfl))).trans (mM1_ok (a := ⟨#[47]⟩) k_ok (mLc_of (wk_ok (dv := .val (.tup ws)) (var_ok rfl) rfl) cl) (joinL (n := 42) (fun x hx => ?_) ?_))) nil_ok) hl
      · obtain ⟨w, hw', rfl⟩ := List.mem_map.mp hx
        exact way_sh (hw w hw')
      · rw [List.length_map]; omega
  · exact text w
theorem ltext_ok {S : Store} {d : D} (h : DeedOk d) : F__law_text [d] S = .ok (.val (.str (wordsT d))) S := by
  obtain ⟨w, f, ths, rfl, hf, ht⟩ := h
  have hw := word_ok hf
  have hlen := words_len hw ht
  have items : ∀ z ∈ D.str w :: ths, (∃ c, ThOk c z) ∨ ∃ w, z = .str w := fun z hz => by
    rcases List.mem_cons.mp hz with q | q
    · exact .inr ⟨w, q⟩
    · exact .inl (ths_mem ht z q)
  generalize hds : D.str w :: ths = ds at *
  have s1 : setS 1 (mLst mNil) [some (.val (.tup ds)), none, none, none, none] S = .nx [some (.val (.tup ds)), some (.ol []), none, none, none] S := set_ok (lst_ok nil_ok (Nat.zero_le _))
  obtain ⟨E2, S2, l1, e2, e3, e4, rfl, rfl⟩ := loopS_inv (w := ds) (g := gN 2) (b := seqS (setS 3 (mF isiT (mCons (mVar 2) (mCons (mK (.ty "tuple")) mNil)))) (appS (mPv 1) (mCons (mIf (mTru (mVar 3)) (mM1 joinD (mK (.str "/")) (mLc (mWk itV (mVar 2)) (gN 4) mYes (mCall F__law_way_text 1 (mCons (mVar 4) mNil)) [("_law_mode", 4)])) (mF strD (mCons (mVar 2) mNil))) mNil)))
    (fun i E S' => ∃ e2 e3 e4, E = [some (.val (.tup ds)), some (.ol ((ds.take i).map fun d => .str (thT d))), e2, e3, e4] ∧ S' = S) (ds := ds) (i := 0) (E := [some (.val (.tup ds)), some (.ol []), none, none, none]) (S := S) (fun j z hj E S' hI => by
      obtain ⟨e2, e3, e4, rfl, rfl⟩ := hI
      obtain ⟨hj1, hj2⟩ := List.getElem?_eq_some_iff.mp hj
      have hl : ((ds.take (0 + j)).map fun d => D.str (thT d)).length < 1000 := by
        rw [List.length_map] at hlen ⊢
        have := List.length_take_le (0 + j) ds
        rw [List.length_take]
        omega
      refine ⟨[some (.val (.tup ds)), some (.ol ((ds.take (0 + j)).map fun d => .str (thT d))), some (.val z), e3, e4], _, _, rfl, .inl (lword_ok (items z (List.mem_of_getElem? hj)) hl), some (.val z), some (.val (.bl (isTup z))), e4, ?_, rfl⟩
      have tk : ds.take (0 + j + 1) = ds.take (0 + j) ++ [z] := by rw [Nat.zero_add, ← hj2]; exact (List.take_append_getElem hj1).symm
      rw [tk, List.map_append]
      rfl) ⟨none, none, none, rfl, rfl⟩
  rw [Nat.zero_add, List.take_length, map_str] at l1
  have s2 := forS_of (mi := mWk itV (mVar 0)) (wk_ok (dv := .val (.tup ds)) (E := [some (.val (.tup ds)), some (.ol []), none, none, none]) (S := S2) (var_ok rfl) rfl) l1
  have s3 : frzS 1 (retS (mM1 joinD (mK (.str " ")) (mVar 1))) [some (.val (.tup ds)), some (.ol ((ds.map thT).map .str)), e2, e3, e4] S2 = .rt (.val (.str (wordsT (.tup ds)))) S2 := by
    show retS (mM1 joinD (mK (.str " ")) (mVar 1)) [some (.val (.tup ds)), some (.val (.lst ((ds.map thT).map .str))), e2, e3, e4] S2 = _
    refine ret_ok (mM1_ok (a := ⟨#[32]⟩) k_ok (var_ok rfl) (joinL (n := 172) (by rw [← hds]; exact words_sh hw ht) ?_))
    omega
  exact runB_rt ((seqS_nx s1).trans ((seqS_nx s2).trans s3))
/-! ### the program's side -/
end Wk57
set_option Elab.async false
set_option linter.all false
set_option maxRecDepth 100000
set_option maxHeartbeats 4000000
namespace Wk57
open PySem PySem.Spec L2 Hm
open Builtin Builtin.Str

/-! ### reading any text: names, numbers -/
theorem named_same : F__law_named = F_is_name := rfl
theorem figs_same : F__law_figures = F_figures_in := rfl
theorem lc_map {mi : M Wk} {g : MG} {t : M Bool} {e : M DV} {own : List (Str × Nat)} {E : Ev} {S : Store} {ds : List D} (f : D → D) (h1 : mi E S = .ok ⟨ds, none⟩ S)
    (h : ∀ d ∈ ds, ∃ E1 x, g d (innerE own E) S = some E1 ∧ t E1 S = .ok true S ∧ e E1 S = .ok x S ∧ x.frz = f d) (hz : ds.length ≤ 100000) : mLc mi g t e own E S = .ok (.ol (ds.map f)) S := by
  have c := compL_fun (w := ds) (g := g) (t := t) (e := e) (E0 := innerE own E) (S := S) f (ds := ds) (acc := []) h (by rw [List.length_nil, sizeLine_eq]; omega)
  rw [List.nil_append] at c
  exact mLc_of h1 c
theorem not_ev {t : M Bool} {b : Bool} {E : Ev} {S S1 : Store} (h : t E S = .ok b S1) : mNot t E S = .ok (!b) S1 := by
  unfold mNot
  rw [bnd_ok h]
def headD (a : Str) : D → D
  | .str s => .bl (match Ls s with | c :: _ => decide (c ∈ Ls a) | [] => false)
  | _ => .non
theorem all_bls (p : Nat → Bool) : ∀ l : List Nat, asBls (l.map fun c => D.bl (p c)) = some (l.map p)
  | [] => rfl
  | c :: l => by
    show (asBls (l.map fun c => D.bl (p c))).map (p c :: ·) = _
    rw [all_bls p l]
    rfl
theorem all_ev {x a nm : Str} {S : Store} {E : Ev} (h0 : E = [some (.val (.str x)), none]) (hx : x.length ≤ 1000) : mF allD (mCons (mLc (mWk itV (mVar 0)) (gN 1) mYes (mBin inD (mVar 1) (mK (.str a))) [(nm, 1)]) mNil) E S = .ok (.val (.bl ((Ls x).all fun c => decide (c ∈ Ls a)))) S := by
  subst h0
  have lc := lc_map (mi := mWk itV (mVar 0)) (g := gN 1) (t := mYes) (e := mBin inD (mVar 1) (mK (.str a))) (own := [(nm, 1)]) (E := [some (.val (.str x)), none]) (S := S) (ds := signs x) (headD a) rfl (fun d hd => by
    obtain ⟨c, hc, rfl⟩ := List.mem_map.mp hd
    exact ⟨[some (.val (.str x)), some (.val (.str ⟨#[c]⟩))], .val (.bl (decide (c ∈ Ls a))), rfl, rfl, rfl, rfl⟩) (by
      unfold signs
      rw [List.length_map]
      have := ls_len x
      show (Ls x).length ≤ _
      omega)
  refine f_ok (cons_ok lc nil_ok) ?_
  show (match asBls ((signs x).map (headD a)) with | some bs => fine (.bl (bs.all id)) S | none => .bad) = _
  have e : (signs x).map (headD a) = (Ls x).map fun c => D.bl (decide (c ∈ Ls a)) := by
    unfold signs
    rw [List.map_map]
    rfl
  rw [e, all_bls]
  show fine (.bl (((Ls x).map fun c => decide (c ∈ Ls a)).all id)) S = _
  rw [List.all_map]
  rfl
theorem int_dec {i j : Int} {b : Bool} (h : (decide (i ≤ j)) = b) {S : Store} : leD (.int i) (.int j) S = .ok (.val (.bl b)) S := by rw [← h]; rfl
def azS : Str := "abcdefghijklmnopqrstuvwxyz"
def fgS : Str := "0123456789"
def allB (a x : Str) : Bool := (Ls x).all fun c => decide (c ∈ Ls a)
def nameB (x : Str) : Bool := decide (1 ≤ x.length) && (decide (x.length ≤ 8) && allB azS x)
theorem name_ev {x : Str} {S : Store} (hx : x.length ≤ 1000) : F_is_name [.str x] S = .ok (.val (.bl (nameB x))) S := by
  have all := all_ev (x := x) (a := azS) (nm := "sign") (S := S) rfl hx
  have l := ln_str (s := x) (S := S) (by omega)
  unfold nameB
  by_cases h1 : 1 ≤ x.length
  · have a1 : decide ((1 : Int) ≤ ((x.length : Nat) : Int)) = true := decide_eq_true (by omega)
    have b1 : decide (1 ≤ x.length) = true := decide_eq_true h1
    by_cases h2 : x.length ≤ 8
    · have a2 : decide (((x.length : Nat) : Int) ≤ 8) = true := decide_eq_true (by omega)
      have b2 : decide (x.length ≤ 8) = true := decide_eq_true h2
      have c : (mCh leD leD (mK (.int 1)) (mF lenD (mCons (mVar 0) mNil)) (mK (.int 8))) [some (.val (.str x)), none] S = .ok (.val (.bl true)) S := by simp only [Hm.goS_0, Hm.goS_1, Hm.goS_2, Hm.goS_3, Hm.goS_4, Hm.goS_5, Hm.x_seqS, Hm.goSet_0, Hm.goSet_1, Hm.goSet_2, Hm.x_setS, Hm.goRet_0, Hm.goRet_1, Hm.goRet_2, Hm.x_retS, Hm.goEx_0, Hm.goEx_1, Hm.goEx_2, Hm.x_exprS, Hm.goIf_0, Hm.goIf_1,
    Hm.goIf_2, Hm.goIf_3, Hm.x_ifS, Hm.x_nextS, Hm.x_neverS, Hm.x_retNS, Hm.x_contS, Hm.x_breakS, Hm.goRv_0, Hm.x_retVarS, Hm.goFr_0, Hm.goFr_1, Hm.goFr_2, Hm.x_frzS, Hm.goCel_0, Hm.goCel_1, Hm.goCel_2, Hm.goCel_3, Hm.goCel_4,
    Hm.x_celS, Hm.goV_0, Hm.x_mVar, Hm.x_mK, Hm.goU_0, Hm.goU_1, Hm.goU_2, Hm.x_mUn, Hm.goB2_0, Hm.goB2_1, Hm.goB2_2, Hm.goB_0, Hm.goB_1, Hm.goB_2, Hm.x_mBin, Hm.goT_0, Hm.goT_1, Hm.goT_2, Hm.x_mTst, Hm.goTr2_0, Hm.goTr2_1, Hm.goTr_0,
    Hm.goTr_1, Hm.goTr_2, Hm.x_mTru, Hm.goN_0, Hm.goN_1, Hm.goN_2, Hm.x_mNot, Hm.goAn_0, Hm.goAn_1, Hm.goAn_2, Hm.goAn_3, Hm.goOr_0, Hm.goOr_1, Hm.goOr_2, Hm.goOr_3, Hm.goIe_0, Hm.goIe_1, Hm.goIe_2, Hm.goIe_3, Hm.x_mAnd, Hm.x_mOr,
    Hm.x_mIf, Hm.goNv2_0, Hm.goNv2_1, Hm.goNv_0, Hm.goNv_1, Hm.goNv_2, Hm.x_mNotV, Hm.goOv2_0, Hm.goOv2_1, Hm.goOv2_2, Hm.goOv_0, Hm.goOv_1, Hm.goOv_2, Hm.x_mOrV, Hm.goAv2_0, Hm.goAv2_1, Hm.goAv2_2, Hm.goAv_0, Hm.goAv_1, Hm.goAv_2,
    Hm.x_mAndV, Hm.x_mNil, Hm.goC2_0, Hm.goC2_1, Hm.goC2_2, Hm.goC_0, Hm.goC_1, Hm.goC_2, Hm.x_mCons, Hm.goTp_0, Hm.goTp_1, Hm.goTp_2, Hm.x_mTup, Hm.goLs_0, Hm.goLs_1, Hm.goLs_2, Hm.x_mLst, Hm.x_mNo, Hm.goPt_0, Hm.goPt_1, Hm.goPt_2,
    Hm.x_mPart, Hm.goSl3_0, Hm.goSl3_1, Hm.goSl3_2, Hm.goSl2_0, Hm.goSl2_1, Hm.goSl2_2, Hm.goSl_0, Hm.goSl_1, Hm.goSl_2, Hm.x_mSl, Hm.goCall_0, Hm.goCall_1, Hm.goCall_2, Hm.x_mCall, Hm.goFn_0, Hm.goFn_1, Hm.goFn_2, Hm.x_mF, Hm.goM3_0,
    Hm.goM3_1, Hm.goM3_2, Hm.goM2_0, Hm.goM_0, Hm.goM_1, Hm.goM_2, Hm.x_mM1, Hm.goG2_0, Hm.goG2_1, Hm.goG_0, Hm.goG_1, Hm.goG_2, Hm.x_setG, Hm.x_gN, Hm.x_gNil, Hm.goGs_0, Hm.goGs_1, Hm.x_gCons, Hm.x_gT_tup, Hm.x_gT_lst, Hm.goRs_0,
    Hm.goRs_1, Hm.goRs_2, Hm.x_raiseS, Hm.goW2_0, Hm.goW2_1, Hm.goW_0, Hm.goW_1, Hm.goW_2, Hm.x_mWk, Hm.x_itL, Hm.x_itT, Hm.x_itS, Hm.x_itD, Hm.goMk2_0, Hm.goMk2_1, Hm.goMk_0, Hm.goMk_1, Hm.goMk_2, Hm.x_mMkF, Hm.goRun_0, Hm.goRun_1,
    Hm.goRun_2, Hm.goRun_3, Hm.goRun_4, Hm.goRun_5, Hm.x_runB, Hm.goCh3_0, Hm.goCh3_1, Hm.goCh2_0, Hm.goCh2_1, Hm.goCh2_2, Hm.goCh_0, Hm.goCh_1, Hm.goCh_2, Hm.x_mCh, Hm.goIx_0, Hm.goIx_1, Hm.x_ixl, Hm.x_ixt, Hm.goFor_0, Hm.goFor_1,
    Hm.goFor_2, Hm.x_forS, Hm.goL2_0, Hm.goL2_1, Hm.goL2_2, Hm.goL2_3, Hm.goL2_4, Hm.goL2_5, Hm.goL_0, Hm.goL_1, Hm.x_loopN, Hm.x_loopC, Hm.goR1_0, Hm.goR1_1, Hm.goR1_2, Hm.x_mR1, Hm.goTy_0, Hm.goTy_1, Hm.goTy_2, Hm.goTy_3, Hm.goTy_4,
    Hm.goTy_5, Hm.x_tryS, Hm.goFl_0, Hm.goFl_1, Hm.x_fldH, Hm.x_wipenx, Hm.x_wipert, Hm.x_wipebk, Hm.x_wipect, Hm.x_fzv, Hm.x_fzl, Hm.x_fzd, Hm.x_fine, Hm.x_isNn, Hm.x_isNi, Hm.x_isNs, Hm.x_isNb, Hm.x_isNt, Hm.x_isNl, Hm.x_isNd,
    Hm.x_swD, Hm.x_ewD, slots0, List.map_cons, List.map_nil, List.length_cons, List.length_nil, Nat.reduceSub, Nat.reduceAdd, List.replicate_succ, List.replicate_zero, List.cons_append, List.nil_append, List.append_nil,
    List.getElem?_cons_zero, List.getElem?_cons_succ, List.set_cons_zero, List.set_cons_succ, Bool.false_eq_true, if_true, if_false, ite_true, ite_false, reduceIte, Bool.not_true, Bool.not_false, decide_true, decide_false, Hm.vw_int,
    Hm.vw_str, Hm.vw_bl, Hm.vw_non, Hm.vw_lst, Hm.vw_tup, Hm.vw_dct, Hm.eq_ii, Hm.ne_ii, Hm.eq_bb, Hm.ne_bb, Hm.ln_lst, Hm.ln_tup, Hm.sl_lst, Hm.sl_tup, Hm.ad_ii, Hm.sb_ii, Hm.le_ii, Hm.lt_ii, Hm.gt_ii, Hm.ge_ii, Hm.ng_i, Hm.is_n,
    Hm.nis_n, Hm.tr_bl, Hm.tr_non, Hm.tr_int, Hm.tr_lst, Hm.tr_tup, Hm.tr_dct, Hm.tp_lst, Hm.tp_tup, Hm.in_bl, Hm.at_0, Hm.at_1, Hm.at_2, Hm.at_3, Hm.at_4, Hm.gst_lst, Hm.gst_tup, Hm.sm_0, Hm.sm_1, Hm.sm_2, Hm.sm_3, Hm.sm_4, Hm.sm_5,
    Hm.sm_6, Hm.sm_7, Hm.sm_8, Hm.sm_9, Hm.sm_10, Hm.sm_11, Hm.sm_12, Hm.sm_13, Hm.sm_14, Hm.sm_15, Hm.sm_16, true_and, and_true, Nat.zero_le, Nat.reduceLeDiff, Nat.reduceEqDiff, Nat.reduceLT, List.length_map,
    l, a1, a2]
      rw [b1, b2, Bool.true_and, Bool.true_and]
      exact runB_rt (ret_ok ((andV_t c).trans all))
    · have a2 : decide (((x.length : Nat) : Int) ≤ 8) = false := decide_eq_false (by omega)
      have b2 : decide (x.length ≤ 8) = false := decide_eq_false h2
      simp only [Hm.goS_0, Hm.goS_1, Hm.goS_2, Hm.goS_3, Hm.goS_4, Hm.goS_5, Hm.x_seqS, Hm.goSet_0, Hm.goSet_1, Hm.goSet_2, Hm.x_setS, Hm.goRet_0, Hm.goRet_1, Hm.goRet_2, Hm.x_retS, Hm.goEx_0, Hm.goEx_1, Hm.goEx_2, Hm.x_exprS, Hm.goIf_0, Hm.goIf_1,
    Hm.goIf_2, Hm.goIf_3, Hm.x_ifS, Hm.x_nextS, Hm.x_neverS, Hm.x_retNS, Hm.x_contS, Hm.x_breakS, Hm.goRv_0, Hm.x_retVarS, Hm.goFr_0, Hm.goFr_1, Hm.goFr_2, Hm.x_frzS, Hm.goCel_0, Hm.goCel_1, Hm.goCel_2, Hm.goCel_3, Hm.goCel_4,
    Hm.x_celS, Hm.goV_0, Hm.x_mVar, Hm.x_mK, Hm.goU_0, Hm.goU_1, Hm.goU_2, Hm.x_mUn, Hm.goB2_0, Hm.goB2_1, Hm.goB2_2, Hm.goB_0, Hm.goB_1, Hm.goB_2, Hm.x_mBin, Hm.goT_0, Hm.goT_1, Hm.goT_2, Hm.x_mTst, Hm.goTr2_0, Hm.goTr2_1, Hm.goTr_0,
    Hm.goTr_1, Hm.goTr_2, Hm.x_mTru, Hm.goN_0, Hm.goN_1, Hm.goN_2, Hm.x_mNot, Hm.goAn_0, Hm.goAn_1, Hm.goAn_2, Hm.goAn_3, Hm.goOr_0, Hm.goOr_1, Hm.goOr_2, Hm.goOr_3, Hm.goIe_0, Hm.goIe_1, Hm.goIe_2, Hm.goIe_3, Hm.x_mAnd, Hm.x_mOr,
    Hm.x_mIf, Hm.goNv2_0, Hm.goNv2_1, Hm.goNv_0, Hm.goNv_1, Hm.goNv_2, Hm.x_mNotV, Hm.goOv2_0, Hm.goOv2_1, Hm.goOv2_2, Hm.goOv_0, Hm.goOv_1, Hm.goOv_2, Hm.x_mOrV, Hm.goAv2_0, Hm.goAv2_1, Hm.goAv2_2, Hm.goAv_0, Hm.goAv_1, Hm.goAv_2,
    Hm.x_mAndV, Hm.x_mNil, Hm.goC2_0, Hm.goC2_1, Hm.goC2_2, Hm.goC_0, Hm.goC_1, Hm.goC_2, Hm.x_mCons, Hm.goTp_0, Hm.goTp_1, Hm.goTp_2, Hm.x_mTup, Hm.goLs_0, Hm.goLs_1, Hm.goLs_2, Hm.x_mLst, Hm.x_mNo, Hm.goPt_0, Hm.goPt_1, Hm.goPt_2,
    Hm.x_mPart, Hm.goSl3_0, Hm.goSl3_1, Hm.goSl3_2, Hm.goSl2_0, Hm.goSl2_1, Hm.goSl2_2, Hm.goSl_0, Hm.goSl_1, Hm.goSl_2, Hm.x_mSl, Hm.goCall_0, Hm.goCall_1, Hm.goCall_2, Hm.x_mCall, Hm.goFn_0, Hm.goFn_1, Hm.goFn_2, Hm.x_mF, Hm.goM3_0,
    Hm.goM3_1, Hm.goM3_2, Hm.goM2_0, Hm.goM_0, Hm.goM_1, Hm.goM_2, Hm.x_mM1, Hm.goG2_0, Hm.goG2_1, Hm.goG_0, Hm.goG_1, Hm.goG_2, Hm.x_setG, Hm.x_gN, Hm.x_gNil, Hm.goGs_0, Hm.goGs_1, Hm.x_gCons, Hm.x_gT_tup, Hm.x_gT_lst, Hm.goRs_0,
    Hm.goRs_1, Hm.goRs_2, Hm.x_raiseS, Hm.goW2_0, Hm.goW2_1, Hm.goW_0, Hm.goW_1, Hm.goW_2, Hm.x_mWk, Hm.x_itL, Hm.x_itT, Hm.x_itS, Hm.x_itD, Hm.goMk2_0, Hm.goMk2_1, Hm.goMk_0, Hm.goMk_1, Hm.goMk_2, Hm.x_mMkF, Hm.goRun_0, Hm.goRun_1,
    Hm.goRun_2, Hm.goRun_3, Hm.goRun_4, Hm.goRun_5, Hm.x_runB, Hm.goCh3_0, Hm.goCh3_1, Hm.goCh2_0, Hm.goCh2_1, Hm.goCh2_2, Hm.goCh_0, Hm.goCh_1, Hm.goCh_2, Hm.x_mCh, Hm.goIx_0, Hm.goIx_1, Hm.x_ixl, Hm.x_ixt, Hm.goFor_0, Hm.goFor_1,
    Hm.goFor_2, Hm.x_forS, Hm.goL2_0, Hm.goL2_1, Hm.goL2_2, Hm.goL2_3, Hm.goL2_4, Hm.goL2_5, Hm.goL_0, Hm.goL_1, Hm.x_loopN, Hm.x_loopC, Hm.goR1_0, Hm.goR1_1, Hm.goR1_2, Hm.x_mR1, Hm.goTy_0, Hm.goTy_1, Hm.goTy_2, Hm.goTy_3, Hm.goTy_4,
    Hm.goTy_5, Hm.x_tryS, Hm.goFl_0, Hm.goFl_1, Hm.x_fldH, Hm.x_wipenx, Hm.x_wipert, Hm.x_wipebk, Hm.x_wipect, Hm.x_fzv, Hm.x_fzl, Hm.x_fzd, Hm.x_fine, Hm.x_isNn, Hm.x_isNi, Hm.x_isNs, Hm.x_isNb, Hm.x_isNt, Hm.x_isNl, Hm.x_isNd,
    Hm.x_swD, Hm.x_ewD, slots0, List.map_cons, List.map_nil, List.length_cons, List.length_nil, Nat.reduceSub, Nat.reduceAdd, List.replicate_succ, List.replicate_zero, List.cons_append, List.nil_append, List.append_nil,
    List.getElem?_cons_zero, List.getElem?_cons_succ, List.set_cons_zero, List.set_cons_succ, Bool.false_eq_true, if_true, if_false, ite_true, ite_false, reduceIte, Bool.not_true, Bool.not_false, decide_true, decide_false, Hm.vw_int,
    Hm.vw_str, Hm.vw_bl, Hm.vw_non, Hm.vw_lst, Hm.vw_tup, Hm.vw_dct, Hm.eq_ii, Hm.ne_ii, Hm.eq_bb, Hm.ne_bb, Hm.ln_lst, Hm.ln_tup, Hm.sl_lst, Hm.sl_tup, Hm.ad_ii, Hm.sb_ii, Hm.le_ii, Hm.lt_ii, Hm.gt_ii, Hm.ge_ii, Hm.ng_i, Hm.is_n,
    Hm.nis_n, Hm.tr_bl, Hm.tr_non, Hm.tr_int, Hm.tr_lst, Hm.tr_tup, Hm.tr_dct, Hm.tp_lst, Hm.tp_tup, Hm.in_bl, Hm.at_0, Hm.at_1, Hm.at_2, Hm.at_3, Hm.at_4, Hm.gst_lst, Hm.gst_tup, Hm.sm_0, Hm.sm_1, Hm.sm_2, Hm.sm_3, Hm.sm_4, Hm.sm_5,
    Hm.sm_6, Hm.sm_7, Hm.sm_8, Hm.sm_9, Hm.sm_10, Hm.sm_11, Hm.sm_12, Hm.sm_13, Hm.sm_14, Hm.sm_15, Hm.sm_16, true_and, and_true, Nat.zero_le, Nat.reduceLeDiff, Nat.reduceEqDiff, Nat.reduceLT, List.length_map,
    F_is_name, m_is_name, N_is_name, l, a1, a2, b1, b2, Bool.and_false, Bool.false_and]
  · have a1 : decide ((1 : Int) ≤ ((x.length : Nat) : Int)) = false := decide_eq_false (by omega)
    have b1 : decide (1 ≤ x.length) = false := decide_eq_false h1
    simp only [Hm.goS_0, Hm.goS_1, Hm.goS_2, Hm.goS_3, Hm.goS_4, Hm.goS_5, Hm.x_seqS, Hm.goSet_0, Hm.goSet_1, Hm.goSet_2, Hm.x_setS, Hm.goRet_0, Hm.goRet_1, Hm.goRet_2, Hm.x_retS, Hm.goEx_0, Hm.goEx_1, Hm.goEx_2, Hm.x_exprS, Hm.goIf_0, Hm.goIf_1,
    Hm.goIf_2, Hm.goIf_3, Hm.x_ifS, Hm.x_nextS, Hm.x_neverS, Hm.x_retNS, Hm.x_contS, Hm.x_breakS, Hm.goRv_0, Hm.x_retVarS, Hm.goFr_0, Hm.goFr_1, Hm.goFr_2, Hm.x_frzS, Hm.goCel_0, Hm.goCel_1, Hm.goCel_2, Hm.goCel_3, Hm.goCel_4,
    Hm.x_celS, Hm.goV_0, Hm.x_mVar, Hm.x_mK, Hm.goU_0, Hm.goU_1, Hm.goU_2, Hm.x_mUn, Hm.goB2_0, Hm.goB2_1, Hm.goB2_2, Hm.goB_0, Hm.goB_1, Hm.goB_2, Hm.x_mBin, Hm.goT_0, Hm.goT_1, Hm.goT_2, Hm.x_mTst, Hm.goTr2_0, Hm.goTr2_1, Hm.goTr_0,
    Hm.goTr_1, Hm.goTr_2, Hm.x_mTru, Hm.goN_0, Hm.goN_1, Hm.goN_2, Hm.x_mNot, Hm.goAn_0, Hm.goAn_1, Hm.goAn_2, Hm.goAn_3, Hm.goOr_0, Hm.goOr_1, Hm.goOr_2, Hm.goOr_3, Hm.goIe_0, Hm.goIe_1, Hm.goIe_2, Hm.goIe_3, Hm.x_mAnd, Hm.x_mOr,
    Hm.x_mIf, Hm.goNv2_0, Hm.goNv2_1, Hm.goNv_0, Hm.goNv_1, Hm.goNv_2, Hm.x_mNotV, Hm.goOv2_0, Hm.goOv2_1, Hm.goOv2_2, Hm.goOv_0, Hm.goOv_1, Hm.goOv_2, Hm.x_mOrV, Hm.goAv2_0, Hm.goAv2_1, Hm.goAv2_2, Hm.goAv_0, Hm.goAv_1, Hm.goAv_2,
    Hm.x_mAndV, Hm.x_mNil, Hm.goC2_0, Hm.goC2_1, Hm.goC2_2, Hm.goC_0, Hm.goC_1, Hm.goC_2, Hm.x_mCons, Hm.goTp_0, Hm.goTp_1, Hm.goTp_2, Hm.x_mTup, Hm.goLs_0, Hm.goLs_1, Hm.goLs_2, Hm.x_mLst, Hm.x_mNo, Hm.goPt_0, Hm.goPt_1, Hm.goPt_2,
    Hm.x_mPart, Hm.goSl3_0, Hm.goSl3_1, Hm.goSl3_2, Hm.goSl2_0, Hm.goSl2_1, Hm.goSl2_2, Hm.goSl_0, Hm.goSl_1, Hm.goSl_2, Hm.x_mSl, Hm.goCall_0, Hm.goCall_1, Hm.goCall_2, Hm.x_mCall, Hm.goFn_0, Hm.goFn_1, Hm.goFn_2, Hm.x_mF, Hm.goM3_0,
    Hm.goM3_1, Hm.goM3_2, Hm.goM2_0, Hm.goM_0, Hm.goM_1, Hm.goM_2, Hm.x_mM1, Hm.goG2_0, Hm.goG2_1, Hm.goG_0, Hm.goG_1, Hm.goG_2, Hm.x_setG, Hm.x_gN, Hm.x_gNil, Hm.goGs_0, Hm.goGs_1, Hm.x_gCons, Hm.x_gT_tup, Hm.x_gT_lst, Hm.goRs_0,
    Hm.goRs_1, Hm.goRs_2, Hm.x_raiseS, Hm.goW2_0, Hm.goW2_1, Hm.goW_0, Hm.goW_1, Hm.goW_2, Hm.x_mWk, Hm.x_itL, Hm.x_itT, Hm.x_itS, Hm.x_itD, Hm.goMk2_0, Hm.goMk2_1, Hm.goMk_0, Hm.goMk_1, Hm.goMk_2, Hm.x_mMkF, Hm.goRun_0, Hm.goRun_1,
    Hm.goRun_2, Hm.goRun_3, Hm.goRun_4, Hm.goRun_5, Hm.x_runB, Hm.goCh3_0, Hm.goCh3_1, Hm.goCh2_0, Hm.goCh2_1, Hm.goCh2_2, Hm.goCh_0, Hm.goCh_1, Hm.goCh_2, Hm.x_mCh, Hm.goIx_0, Hm.goIx_1, Hm.x_ixl, Hm.x_ixt, Hm.goFor_0, Hm.goFor_1,
    Hm.goFor_2, Hm.x_forS, Hm.goL2_0, Hm.goL2_1, Hm.goL2_2, Hm.goL2_3, Hm.goL2_4, Hm.goL2_5, Hm.goL_0, Hm.goL_1, Hm.x_loopN, Hm.x_loopC, Hm.goR1_0, Hm.goR1_1, Hm.goR1_2, Hm.x_mR1, Hm.goTy_0, Hm.goTy_1, Hm.goTy_2, Hm.goTy_3, Hm.goTy_4,
    Hm.goTy_5, Hm.x_tryS, Hm.goFl_0, Hm.goFl_1, Hm.x_fldH, Hm.x_wipenx, Hm.x_wipert, Hm.x_wipebk, Hm.x_wipect, Hm.x_fzv, Hm.x_fzl, Hm.x_fzd, Hm.x_fine, Hm.x_isNn, Hm.x_isNi, Hm.x_isNs, Hm.x_isNb, Hm.x_isNt, Hm.x_isNl, Hm.x_isNd,
    Hm.x_swD, Hm.x_ewD, slots0, List.map_cons, List.map_nil, List.length_cons, List.length_nil, Nat.reduceSub, Nat.reduceAdd, List.replicate_succ, List.replicate_zero, List.cons_append, List.nil_append, List.append_nil,
    List.getElem?_cons_zero, List.getElem?_cons_succ, List.set_cons_zero, List.set_cons_succ, Bool.false_eq_true, if_true, if_false, ite_true, ite_false, reduceIte, Bool.not_true, Bool.not_false, decide_true, decide_false, Hm.vw_int,
    Hm.vw_str, Hm.vw_bl, Hm.vw_non, Hm.vw_lst, Hm.vw_tup, Hm.vw_dct, Hm.eq_ii, Hm.ne_ii, Hm.eq_bb, Hm.ne_bb, Hm.ln_lst, Hm.ln_tup, Hm.sl_lst, Hm.sl_tup, Hm.ad_ii, Hm.sb_ii, Hm.le_ii, Hm.lt_ii, Hm.gt_ii, Hm.ge_ii, Hm.ng_i, Hm.is_n,
    Hm.nis_n, Hm.tr_bl, Hm.tr_non, Hm.tr_int, Hm.tr_lst, Hm.tr_tup, Hm.tr_dct, Hm.tp_lst, Hm.tp_tup, Hm.in_bl, Hm.at_0, Hm.at_1, Hm.at_2, Hm.at_3, Hm.at_4, Hm.gst_lst, Hm.gst_tup, Hm.sm_0, Hm.sm_1, Hm.sm_2, Hm.sm_3, Hm.sm_4, Hm.sm_5,
    Hm.sm_6, Hm.sm_7, Hm.sm_8, Hm.sm_9, Hm.sm_10, Hm.sm_11, Hm.sm_12, Hm.sm_13, Hm.sm_14, Hm.sm_15, Hm.sm_16, true_and, and_true, Nat.zero_le, Nat.reduceLeDiff, Nat.reduceEqDiff, Nat.reduceLT, List.length_map,
    F_is_name, m_is_name, N_is_name, l, a1, b1, Bool.and_false, Bool.false_and]
/-! ### figures -/
theorem dig1 : (List.range 10).all (fun a => (PySem.intText? ⟨#[48 + a]⟩).isSome) = true := by decide +kernel
theorem dig2 : (List.range 100).all (fun a => (PySem.intText? ⟨#[48 + a / 10, 48 + a % 10]⟩).isSome) = true := by decide +kernel
theorem dig3 : (List.range 1000).all (fun a => (PySem.intText? ⟨#[48 + a / 100, 48 + a / 10 % 10, 48 + a % 10]⟩).isSome) = true := by decide +kernel
theorem fg_mem {c : Nat} (h : c ∈ Ls fgS) : 48 ≤ c ∧ c ≤ 57 := by
  have all : (Ls fgS).all (fun c => decide (48 ≤ c) && decide (c ≤ 57)) = true := by decide +kernel
  have q := List.all_eq_true.mp all c h
  rw [Bool.and_eq_true, decide_eq_true_eq, decide_eq_true_eq] at q
  exact q
theorem dig_some {x : Str} (h1 : 1 ≤ x.length) (h2 : x.length ≤ 3) (h : allB fgS x = true) : ∃ n, PySem.intText? x = some n := by
  have hd : ∀ c ∈ Ls x, 48 ≤ c ∧ c ≤ 57 := fun c hc => fg_mem (of_decide_eq_true (List.all_eq_true.mp h c hc))
  rw [← ls_len] at h1 h2
  have go : ∀ l : List Nat, Ls x = l → 1 ≤ l.length → l.length ≤ 3 → (∀ c ∈ l, 48 ≤ c ∧ c ≤ 57) → ∃ n, PySem.intText? x = some n := fun l e a b d => by
    match l, e, a, b, d with
    | [p], e, _, _, d =>
      have hp := d p (by simp)
      have z := List.all_eq_true.mp dig1 (p - 48) (List.mem_range.mpr (by omega))
      have ex : x = ⟨#[48 + (p - 48)]⟩ := str_eq (by rw [e, show 48 + (p - 48) = p by omega])
      rw [← ex] at z
      exact Option.isSome_iff_exists.mp z
    | [p, q], e, _, _, d =>
      have hp := d p (by simp)
      have hq := d q (by simp)
      have z := List.all_eq_true.mp dig2 ((p - 48) * 10 + (q - 48)) (List.mem_range.mpr (by omega))
      have ex : x = ⟨#[48 + ((p - 48) * 10 + (q - 48)) / 10, 48 + ((p - 48) * 10 + (q - 48)) % 10]⟩ := str_eq (by
        rw [e, show 48 + ((p - 48) * 10 + (q - 48)) / 10 = p by omega, show 48 + ((p - 48) * 10 + (q - 48)) % 10 = q by omega])
      rw [← ex] at z
      exact Option.isSome_iff_exists.mp z
    | [p, q, r], e, _, _, d =>
      have hp := d p (by simp)
      have hq := d q (by simp)
      have hr := d r (by simp)
      have z := List.all_eq_true.mp dig3 ((p - 48) * 100 + (q - 48) * 10 + (r - 48)) (List.mem_range.mpr (by omega))
      have ex : x = ⟨#[48 + ((p - 48) * 100 + (q - 48) * 10 + (r - 48)) / 100, 48 + ((p - 48) * 100 + (q - 48) * 10 + (r - 48)) / 10 % 10, 48 + ((p - 48) * 100 + (q - 48) * 10 + (r - 48)) % 10]⟩ := str_eq (by
        rw [e, show 48 + ((p - 48) * 100 + (q - 48) * 10 + (r - 48)) / 100 = p by omega, show 48 + ((p - 48) * 100 + (q - 48) * 10 + (r - 48)) / 10 % 10 = q by omega, show 48 + ((p - 48) * 100 + (q - 48) * 10 + (r - 48)) % 10 = r by omega])
      rw [← ex] at z
      exact Option.isSome_iff_exists.mp z
    | [], _, a, _, _ => exact absurd a (by decide)
    | _ :: _ :: _ :: _ :: _, _, _, b, _ => simp only [List.length_cons] at b; omega
  exact go _ rfl h1 h2 hd
def figB1 (x : Str) : Bool := decide (1 ≤ x.length) && (decide (x.length ≤ 3) && allB fgS x)
/-- what figures write -/
def figD (x : Str) : D := if figB1 x = true then (if (Ls x).head? = some 48 ∧ x ≠ "0" then .non else .int ((PySem.intText? x).getD 0)) else .non
theorem zero_ok : PyData.strOk ("0" : Str) = true := by decide +kernel
theorem sgn_eq {c d : Nat} : ((⟨#[c]⟩ : Str) = ⟨#[d]⟩) ↔ c = d := ⟨fun h => by
  have e : Ls (⟨#[c]⟩ : Str) = Ls (⟨#[d]⟩ : Str) := by rw [h]
  have e2 : [c] = [d] := e
  exact (List.cons.inj e2).1, fun h => by rw [h]⟩
theorem int_ev {x : Str} {S : Store} (h : figB1 x = true) : intD1 [.str x] S = .ok (.val (.int ((PySem.intText? x).getD 0))) S := by
  unfold figB1 at h
  simp only [Bool.and_eq_true, decide_eq_true_eq] at h
  obtain ⟨n, hn⟩ := dig_some h.1 h.2.1 h.2.2
  show (match PySem.intText? x with | some n => if x.length ≤ 640 then fine (.int n) S else .bad | none => .bad) = _
  rw [hn]
  dsimp only
  rw [if_pos (by have := h.2.1; omega)]
  rfl
theorem figs_ev {n : Nat} {x : Str} {S : Store} (hs : Sh n x) (hn : n ≤ 1000) : F_figures_in [.str x] S = .ok (.val (figD x)) S := by
  have hx := hs.le
  have all := all_ev (x := x) (a := fgS) (nm := "sign") (S := S) rfl (by omega)
  have l := ln_str (s := x) (S := S) (by omega)
  have cond : (mOr (mNot (mTst (mCh leD leD (mK (.int 1)) (mF lenD (mCons (mVar 0) mNil)) (mK (.int 3))))) (mNot (mTru (mF allD (mCons (mLc (mWk itV (mVar 0)) (gN 1) mYes (mBin inD (mVar 1) (mK (.str "0123456789"))) [("sign", 1)]) mNil))))) [some (.val (.str x)), none] S = .ok (!figB1 x) S := by
    unfold figB1
    by_cases h1 : 1 ≤ x.length
    · have a1 : decide ((1 : Int) ≤ ((x.length : Nat) : Int)) = true := decide_eq_true (by omega)
      have b1 : decide (1 ≤ x.length) = true := decide_eq_true h1
      by_cases h2 : x.length ≤ 3
      · have a2 : decide (((x.length : Nat) : Int) ≤ 3) = true := decide_eq_true (by omega)
        have b2 : decide (x.length ≤ 3) = true := decide_eq_true h2
        have c : mNot (mTst (mCh leD leD (mK (.int 1)) (mF lenD (mCons (mVar 0) mNil)) (mK (.int 3)))) [some (.val (.str x)), none] S = .ok false S := by simp only [Hm.goS_0, Hm.goS_1, Hm.goS_2, Hm.goS_3, Hm.goS_4, Hm.goS_5, Hm.x_seqS, Hm.goSet_0, Hm.goSet_1, Hm.goSet_2, Hm.x_setS, Hm.goRet_0, Hm.goRet_1, Hm.goRet_2, Hm.x_retS, Hm.goEx_0, Hm.goEx_1, Hm.goEx_2, Hm.x_exprS, Hm.goIf_0, Hm.goIf_1,
    Hm.goIf_2, Hm.goIf_3, Hm.x_ifS, Hm.x_nextS, Hm.x_neverS, Hm.x_retNS, Hm.x_contS, Hm.x_breakS, Hm.goRv_0, Hm.x_retVarS, Hm.goFr_0, Hm.goFr_1, Hm.goFr_2, Hm.x_frzS, Hm.goCel_0, Hm.goCel_1, Hm.goCel_2, Hm.goCel_3, Hm.goCel_4,
    Hm.x_celS, Hm.goV_0, Hm.x_mVar, Hm.x_mK, Hm.goU_0, Hm.goU_1, Hm.goU_2, Hm.x_mUn, Hm.goB2_0, Hm.goB2_1, Hm.goB2_2, Hm.goB_0, Hm.goB_1, Hm.goB_2, Hm.x_mBin, Hm.goT_0, Hm.goT_1, Hm.goT_2, Hm.x_mTst, Hm.goTr2_0, Hm.goTr2_1, Hm.goTr_0,
    Hm.goTr_1, Hm.goTr_2, Hm.x_mTru, Hm.goN_0, Hm.goN_1, Hm.goN_2, Hm.x_mNot, Hm.goAn_0, Hm.goAn_1, Hm.goAn_2, Hm.goAn_3, Hm.goOr_0, Hm.goOr_1, Hm.goOr_2, Hm.goOr_3, Hm.goIe_0, Hm.goIe_1, Hm.goIe_2, Hm.goIe_3, Hm.x_mAnd, Hm.x_mOr,
    Hm.x_mIf, Hm.goNv2_0, Hm.goNv2_1, Hm.goNv_0, Hm.goNv_1, Hm.goNv_2, Hm.x_mNotV, Hm.goOv2_0, Hm.goOv2_1, Hm.goOv2_2, Hm.goOv_0, Hm.goOv_1, Hm.goOv_2, Hm.x_mOrV, Hm.goAv2_0, Hm.goAv2_1, Hm.goAv2_2, Hm.goAv_0, Hm.goAv_1, Hm.goAv_2,
    Hm.x_mAndV, Hm.x_mNil, Hm.goC2_0, Hm.goC2_1, Hm.goC2_2, Hm.goC_0, Hm.goC_1, Hm.goC_2, Hm.x_mCons, Hm.goTp_0, Hm.goTp_1, Hm.goTp_2, Hm.x_mTup, Hm.goLs_0, Hm.goLs_1, Hm.goLs_2, Hm.x_mLst, Hm.x_mNo, Hm.goPt_0, Hm.goPt_1, Hm.goPt_2,
    Hm.x_mPart, Hm.goSl3_0, Hm.goSl3_1, Hm.goSl3_2, Hm.goSl2_0, Hm.goSl2_1, Hm.goSl2_2, Hm.goSl_0, Hm.goSl_1, Hm.goSl_2, Hm.x_mSl, Hm.goCall_0, Hm.goCall_1, Hm.goCall_2, Hm.x_mCall, Hm.goFn_0, Hm.goFn_1, Hm.goFn_2, Hm.x_mF, Hm.goM3_0,
    Hm.goM3_1, Hm.goM3_2, Hm.goM2_0, Hm.goM_0, Hm.goM_1, Hm.goM_2, Hm.x_mM1, Hm.goG2_0, Hm.goG2_1, Hm.goG_0, Hm.goG_1, Hm.goG_2, Hm.x_setG, Hm.x_gN, Hm.x_gNil, Hm.goGs_0, Hm.goGs_1, Hm.x_gCons, Hm.x_gT_tup, Hm.x_gT_lst, Hm.goRs_0,
    Hm.goRs_1, Hm.goRs_2, Hm.x_raiseS, Hm.goW2_0, Hm.goW2_1, Hm.goW_0, Hm.goW_1, Hm.goW_2, Hm.x_mWk, Hm.x_itL, Hm.x_itT, Hm.x_itS, Hm.x_itD, Hm.goMk2_0, Hm.goMk2_1, Hm.goMk_0, Hm.goMk_1, Hm.goMk_2, Hm.x_mMkF, Hm.goRun_0, Hm.goRun_1,
    Hm.goRun_2, Hm.goRun_3, Hm.goRun_4, Hm.goRun_5, Hm.x_runB, Hm.goCh3_0, Hm.goCh3_1, Hm.goCh2_0, Hm.goCh2_1, Hm.goCh2_2, Hm.goCh_0, Hm.goCh_1, Hm.goCh_2, Hm.x_mCh, Hm.goIx_0, Hm.goIx_1, Hm.x_ixl, Hm.x_ixt, Hm.goFor_0, Hm.goFor_1,
    Hm.goFor_2, Hm.x_forS, Hm.goL2_0, Hm.goL2_1, Hm.goL2_2, Hm.goL2_3, Hm.goL2_4, Hm.goL2_5, Hm.goL_0, Hm.goL_1, Hm.x_loopN, Hm.x_loopC, Hm.goR1_0, Hm.goR1_1, Hm.goR1_2, Hm.x_mR1, Hm.goTy_0, Hm.goTy_1, Hm.goTy_2, Hm.goTy_3, Hm.goTy_4,
    Hm.goTy_5, Hm.x_tryS, Hm.goFl_0, Hm.goFl_1, Hm.x_fldH, Hm.x_wipenx, Hm.x_wipert, Hm.x_wipebk, Hm.x_wipect, Hm.x_fzv, Hm.x_fzl, Hm.x_fzd, Hm.x_fine, Hm.x_isNn, Hm.x_isNi, Hm.x_isNs, Hm.x_isNb, Hm.x_isNt, Hm.x_isNl, Hm.x_isNd,
    Hm.x_swD, Hm.x_ewD, slots0, List.map_cons, List.map_nil, List.length_cons, List.length_nil, Nat.reduceSub, Nat.reduceAdd, List.replicate_succ, List.replicate_zero, List.cons_append, List.nil_append, List.append_nil,
    List.getElem?_cons_zero, List.getElem?_cons_succ, List.set_cons_zero, List.set_cons_succ, Bool.false_eq_true, if_true, if_false, ite_true, ite_false, reduceIte, Bool.not_true, Bool.not_false, decide_true, decide_false, Hm.vw_int,
    Hm.vw_str, Hm.vw_bl, Hm.vw_non, Hm.vw_lst, Hm.vw_tup, Hm.vw_dct, Hm.eq_ii, Hm.ne_ii, Hm.eq_bb, Hm.ne_bb, Hm.ln_lst, Hm.ln_tup, Hm.sl_lst, Hm.sl_tup, Hm.ad_ii, Hm.sb_ii, Hm.le_ii, Hm.lt_ii, Hm.gt_ii, Hm.ge_ii, Hm.ng_i, Hm.is_n,
    Hm.nis_n, Hm.tr_bl, Hm.tr_non, Hm.tr_int, Hm.tr_lst, Hm.tr_tup, Hm.tr_dct, Hm.tp_lst, Hm.tp_tup, Hm.in_bl, Hm.at_0, Hm.at_1, Hm.at_2, Hm.at_3, Hm.at_4, Hm.gst_lst, Hm.gst_tup, Hm.sm_0, Hm.sm_1, Hm.sm_2, Hm.sm_3, Hm.sm_4, Hm.sm_5,
    Hm.sm_6, Hm.sm_7, Hm.sm_8, Hm.sm_9, Hm.sm_10, Hm.sm_11, Hm.sm_12, Hm.sm_13, Hm.sm_14, Hm.sm_15, Hm.sm_16, true_and, and_true, Nat.zero_le, Nat.reduceLeDiff, Nat.reduceEqDiff, Nat.reduceLT, List.length_map,
    l, a1, a2]
        rw [b1, b2, Bool.true_and, Bool.true_and]
        exact (or_f c).trans (not_ev (tru_ok all))
      · have a2 : decide (((x.length : Nat) : Int) ≤ 3) = false := decide_eq_false (by omega)
        have b2 : decide (x.length ≤ 3) = false := decide_eq_false h2
        simp only [Hm.goS_0, Hm.goS_1, Hm.goS_2, Hm.goS_3, Hm.goS_4, Hm.goS_5, Hm.x_seqS, Hm.goSet_0, Hm.goSet_1, Hm.goSet_2, Hm.x_setS, Hm.goRet_0, Hm.goRet_1, Hm.goRet_2, Hm.x_retS, Hm.goEx_0, Hm.goEx_1, Hm.goEx_2, Hm.x_exprS, Hm.goIf_0, Hm.goIf_1,
    Hm.goIf_2, Hm.goIf_3, Hm.x_ifS, Hm.x_nextS, Hm.x_neverS, Hm.x_retNS, Hm.x_contS, Hm.x_breakS, Hm.goRv_0, Hm.x_retVarS, Hm.goFr_0, Hm.goFr_1, Hm.goFr_2, Hm.x_frzS, Hm.goCel_0, Hm.goCel_1, Hm.goCel_2, Hm.goCel_3, Hm.goCel_4,
    Hm.x_celS, Hm.goV_0, Hm.x_mVar, Hm.x_mK, Hm.goU_0, Hm.goU_1, Hm.goU_2, Hm.x_mUn, Hm.goB2_0, Hm.goB2_1, Hm.goB2_2, Hm.goB_0, Hm.goB_1, Hm.goB_2, Hm.x_mBin, Hm.goT_0, Hm.goT_1, Hm.goT_2, Hm.x_mTst, Hm.goTr2_0, Hm.goTr2_1, Hm.goTr_0,
    Hm.goTr_1, Hm.goTr_2, Hm.x_mTru, Hm.goN_0, Hm.goN_1, Hm.goN_2, Hm.x_mNot, Hm.goAn_0, Hm.goAn_1, Hm.goAn_2, Hm.goAn_3, Hm.goOr_0, Hm.goOr_1, Hm.goOr_2, Hm.goOr_3, Hm.goIe_0, Hm.goIe_1, Hm.goIe_2, Hm.goIe_3, Hm.x_mAnd, Hm.x_mOr,
    Hm.x_mIf, Hm.goNv2_0, Hm.goNv2_1, Hm.goNv_0, Hm.goNv_1, Hm.goNv_2, Hm.x_mNotV, Hm.goOv2_0, Hm.goOv2_1, Hm.goOv2_2, Hm.goOv_0, Hm.goOv_1, Hm.goOv_2, Hm.x_mOrV, Hm.goAv2_0, Hm.goAv2_1, Hm.goAv2_2, Hm.goAv_0, Hm.goAv_1, Hm.goAv_2,
    Hm.x_mAndV, Hm.x_mNil, Hm.goC2_0, Hm.goC2_1, Hm.goC2_2, Hm.goC_0, Hm.goC_1, Hm.goC_2, Hm.x_mCons, Hm.goTp_0, Hm.goTp_1, Hm.goTp_2, Hm.x_mTup, Hm.goLs_0, Hm.goLs_1, Hm.goLs_2, Hm.x_mLst, Hm.x_mNo, Hm.goPt_0, Hm.goPt_1, Hm.goPt_2,
    Hm.x_mPart, Hm.goSl3_0, Hm.goSl3_1, Hm.goSl3_2, Hm.goSl2_0, Hm.goSl2_1, Hm.goSl2_2, Hm.goSl_0, Hm.goSl_1, Hm.goSl_2, Hm.x_mSl, Hm.goCall_0, Hm.goCall_1, Hm.goCall_2, Hm.x_mCall, Hm.goFn_0, Hm.goFn_1, Hm.goFn_2, Hm.x_mF, Hm.goM3_0,
    Hm.goM3_1, Hm.goM3_2, Hm.goM2_0, Hm.goM_0, Hm.goM_1, Hm.goM_2, Hm.x_mM1, Hm.goG2_0, Hm.goG2_1, Hm.goG_0, Hm.goG_1, Hm.goG_2, Hm.x_setG, Hm.x_gN, Hm.x_gNil, Hm.goGs_0, Hm.goGs_1, Hm.x_gCons, Hm.x_gT_tup, Hm.x_gT_lst, Hm.goRs_0,
    Hm.goRs_1, Hm.goRs_2, Hm.x_raiseS, Hm.goW2_0, Hm.goW2_1, Hm.goW_0, Hm.goW_1, Hm.goW_2, Hm.x_mWk, Hm.x_itL, Hm.x_itT, Hm.x_itS, Hm.x_itD, Hm.goMk2_0, Hm.goMk2_1, Hm.goMk_0, Hm.goMk_1, Hm.goMk_2, Hm.x_mMkF, Hm.goRun_0, Hm.goRun_1,
    Hm.goRun_2, Hm.goRun_3, Hm.goRun_4, Hm.goRun_5, Hm.x_runB, Hm.goCh3_0, Hm.goCh3_1, Hm.goCh2_0, Hm.goCh2_1, Hm.goCh2_2, Hm.goCh_0, Hm.goCh_1, Hm.goCh_2, Hm.x_mCh, Hm.goIx_0, Hm.goIx_1, Hm.x_ixl, Hm.x_ixt, Hm.goFor_0, Hm.goFor_1,
    Hm.goFor_2, Hm.x_forS, Hm.goL2_0, Hm.goL2_1, Hm.goL2_2, Hm.goL2_3, Hm.goL2_4, Hm.goL2_5, Hm.goL_0, Hm.goL_1, Hm.x_loopN, Hm.x_loopC, Hm.goR1_0, Hm.goR1_1, Hm.goR1_2, Hm.x_mR1, Hm.goTy_0, Hm.goTy_1, Hm.goTy_2, Hm.goTy_3, Hm.goTy_4,
    Hm.goTy_5, Hm.x_tryS, Hm.goFl_0, Hm.goFl_1, Hm.x_fldH, Hm.x_wipenx, Hm.x_wipert, Hm.x_wipebk, Hm.x_wipect, Hm.x_fzv, Hm.x_fzl, Hm.x_fzd, Hm.x_fine, Hm.x_isNn, Hm.x_isNi, Hm.x_isNs, Hm.x_isNb, Hm.x_isNt, Hm.x_isNl, Hm.x_isNd,
    Hm.x_swD, Hm.x_ewD, slots0, List.map_cons, List.map_nil, List.length_cons, List.length_nil, Nat.reduceSub, Nat.reduceAdd, List.replicate_succ, List.replicate_zero, List.cons_append, List.nil_append, List.append_nil,
    List.getElem?_cons_zero, List.getElem?_cons_succ, List.set_cons_zero, List.set_cons_succ, Bool.false_eq_true, if_true, if_false, ite_true, ite_false, reduceIte, Bool.not_true, Bool.not_false, decide_true, decide_false, Hm.vw_int,
    Hm.vw_str, Hm.vw_bl, Hm.vw_non, Hm.vw_lst, Hm.vw_tup, Hm.vw_dct, Hm.eq_ii, Hm.ne_ii, Hm.eq_bb, Hm.ne_bb, Hm.ln_lst, Hm.ln_tup, Hm.sl_lst, Hm.sl_tup, Hm.ad_ii, Hm.sb_ii, Hm.le_ii, Hm.lt_ii, Hm.gt_ii, Hm.ge_ii, Hm.ng_i, Hm.is_n,
    Hm.nis_n, Hm.tr_bl, Hm.tr_non, Hm.tr_int, Hm.tr_lst, Hm.tr_tup, Hm.tr_dct, Hm.tp_lst, Hm.tp_tup, Hm.in_bl, Hm.at_0, Hm.at_1, Hm.at_2, Hm.at_3, Hm.at_4, Hm.gst_lst, Hm.gst_tup, Hm.sm_0, Hm.sm_1, Hm.sm_2, Hm.sm_3, Hm.sm_4, Hm.sm_5,
    Hm.sm_6, Hm.sm_7, Hm.sm_8, Hm.sm_9, Hm.sm_10, Hm.sm_11, Hm.sm_12, Hm.sm_13, Hm.sm_14, Hm.sm_15, Hm.sm_16, true_and, and_true, Nat.zero_le, Nat.reduceLeDiff, Nat.reduceEqDiff, Nat.reduceLT, List.length_map,
    l, a1, a2, b1, b2, Bool.and_false, Bool.false_and]
    · have a1 : decide ((1 : Int) ≤ ((x.length : Nat) : Int)) = false := decide_eq_false (by omega)
      have b1 : decide (1 ≤ x.length) = false := decide_eq_false h1
      simp only [Hm.goS_0, Hm.goS_1, Hm.goS_2, Hm.goS_3, Hm.goS_4, Hm.goS_5, Hm.x_seqS, Hm.goSet_0, Hm.goSet_1, Hm.goSet_2, Hm.x_setS, Hm.goRet_0, Hm.goRet_1, Hm.goRet_2, Hm.x_retS, Hm.goEx_0, Hm.goEx_1, Hm.goEx_2, Hm.x_exprS, Hm.goIf_0, Hm.goIf_1,
    Hm.goIf_2, Hm.goIf_3, Hm.x_ifS, Hm.x_nextS, Hm.x_neverS, Hm.x_retNS, Hm.x_contS, Hm.x_breakS, Hm.goRv_0, Hm.x_retVarS, Hm.goFr_0, Hm.goFr_1, Hm.goFr_2, Hm.x_frzS, Hm.goCel_0, Hm.goCel_1, Hm.goCel_2, Hm.goCel_3, Hm.goCel_4,
    Hm.x_celS, Hm.goV_0, Hm.x_mVar, Hm.x_mK, Hm.goU_0, Hm.goU_1, Hm.goU_2, Hm.x_mUn, Hm.goB2_0, Hm.goB2_1, Hm.goB2_2, Hm.goB_0, Hm.goB_1, Hm.goB_2, Hm.x_mBin, Hm.goT_0, Hm.goT_1, Hm.goT_2, Hm.x_mTst, Hm.goTr2_0, Hm.goTr2_1, Hm.goTr_0,
    Hm.goTr_1, Hm.goTr_2, Hm.x_mTru, Hm.goN_0, Hm.goN_1, Hm.goN_2, Hm.x_mNot, Hm.goAn_0, Hm.goAn_1, Hm.goAn_2, Hm.goAn_3, Hm.goOr_0, Hm.goOr_1, Hm.goOr_2, Hm.goOr_3, Hm.goIe_0, Hm.goIe_1, Hm.goIe_2, Hm.goIe_3, Hm.x_mAnd, Hm.x_mOr,
    Hm.x_mIf, Hm.goNv2_0, Hm.goNv2_1, Hm.goNv_0, Hm.goNv_1, Hm.goNv_2, Hm.x_mNotV, Hm.goOv2_0, Hm.goOv2_1, Hm.goOv2_2, Hm.goOv_0, Hm.goOv_1, Hm.goOv_2, Hm.x_mOrV, Hm.goAv2_0, Hm.goAv2_1, Hm.goAv2_2, Hm.goAv_0, Hm.goAv_1, Hm.goAv_2,
    Hm.x_mAndV, Hm.x_mNil, Hm.goC2_0, Hm.goC2_1, Hm.goC2_2, Hm.goC_0, Hm.goC_1, Hm.goC_2, Hm.x_mCons, Hm.goTp_0, Hm.goTp_1, Hm.goTp_2, Hm.x_mTup, Hm.goLs_0, Hm.goLs_1, Hm.goLs_2, Hm.x_mLst, Hm.x_mNo, Hm.goPt_0, Hm.goPt_1, Hm.goPt_2,
    Hm.x_mPart, Hm.goSl3_0, Hm.goSl3_1, Hm.goSl3_2, Hm.goSl2_0, Hm.goSl2_1, Hm.goSl2_2, Hm.goSl_0, Hm.goSl_1, Hm.goSl_2, Hm.x_mSl, Hm.goCall_0, Hm.goCall_1, Hm.goCall_2, Hm.x_mCall, Hm.goFn_0, Hm.goFn_1, Hm.goFn_2, Hm.x_mF, Hm.goM3_0,
    Hm.goM3_1, Hm.goM3_2, Hm.goM2_0, Hm.goM_0, Hm.goM_1, Hm.goM_2, Hm.x_mM1, Hm.goG2_0, Hm.goG2_1, Hm.goG_0, Hm.goG_1, Hm.goG_2, Hm.x_setG, Hm.x_gN, Hm.x_gNil, Hm.goGs_0, Hm.goGs_1, Hm.x_gCons, Hm.x_gT_tup, Hm.x_gT_lst, Hm.goRs_0,
    Hm.goRs_1, Hm.goRs_2, Hm.x_raiseS, Hm.goW2_0, Hm.goW2_1, Hm.goW_0, Hm.goW_1, Hm.goW_2, Hm.x_mWk, Hm.x_itL, Hm.x_itT, Hm.x_itS, Hm.x_itD, Hm.goMk2_0, Hm.goMk2_1, Hm.goMk_0, Hm.goMk_1, Hm.goMk_2, Hm.x_mMkF, Hm.goRun_0, Hm.goRun_1,
    Hm.goRun_2, Hm.goRun_3, Hm.goRun_4, Hm.goRun_5, Hm.x_runB, Hm.goCh3_0, Hm.goCh3_1, Hm.goCh2_0, Hm.goCh2_1, Hm.goCh2_2, Hm.goCh_0, Hm.goCh_1, Hm.goCh_2, Hm.x_mCh, Hm.goIx_0, Hm.goIx_1, Hm.x_ixl, Hm.x_ixt, Hm.goFor_0, Hm.goFor_1,
    Hm.goFor_2, Hm.x_forS, Hm.goL2_0, Hm.goL2_1, Hm.goL2_2, Hm.goL2_3, Hm.goL2_4, Hm.goL2_5, Hm.goL_0, Hm.goL_1, Hm.x_loopN, Hm.x_loopC, Hm.goR1_0, Hm.goR1_1, Hm.goR1_2, Hm.x_mR1, Hm.goTy_0, Hm.goTy_1, Hm.goTy_2, Hm.goTy_3, Hm.goTy_4,
    Hm.goTy_5, Hm.x_tryS, Hm.goFl_0, Hm.goFl_1, Hm.x_fldH, Hm.x_wipenx, Hm.x_wipert, Hm.x_wipebk, Hm.x_wipect, Hm.x_fzv, Hm.x_fzl, Hm.x_fzd, Hm.x_fine, Hm.x_isNn, Hm.x_isNi, Hm.x_isNs, Hm.x_isNb, Hm.x_isNt, Hm.x_isNl, Hm.x_isNd,
    Hm.x_swD, Hm.x_ewD, slots0, List.map_cons, List.map_nil, List.length_cons, List.length_nil, Nat.reduceSub, Nat.reduceAdd, List.replicate_succ, List.replicate_zero, List.cons_append, List.nil_append, List.append_nil,
    List.getElem?_cons_zero, List.getElem?_cons_succ, List.set_cons_zero, List.set_cons_succ, Bool.false_eq_true, if_true, if_false, ite_true, ite_false, reduceIte, Bool.not_true, Bool.not_false, decide_true, decide_false, Hm.vw_int,
    Hm.vw_str, Hm.vw_bl, Hm.vw_non, Hm.vw_lst, Hm.vw_tup, Hm.vw_dct, Hm.eq_ii, Hm.ne_ii, Hm.eq_bb, Hm.ne_bb, Hm.ln_lst, Hm.ln_tup, Hm.sl_lst, Hm.sl_tup, Hm.ad_ii, Hm.sb_ii, Hm.le_ii, Hm.lt_ii, Hm.gt_ii, Hm.ge_ii, Hm.ng_i, Hm.is_n,
    Hm.nis_n, Hm.tr_bl, Hm.tr_non, Hm.tr_int, Hm.tr_lst, Hm.tr_tup, Hm.tr_dct, Hm.tp_lst, Hm.tp_tup, Hm.in_bl, Hm.at_0, Hm.at_1, Hm.at_2, Hm.at_3, Hm.at_4, Hm.gst_lst, Hm.gst_tup, Hm.sm_0, Hm.sm_1, Hm.sm_2, Hm.sm_3, Hm.sm_4, Hm.sm_5,
    Hm.sm_6, Hm.sm_7, Hm.sm_8, Hm.sm_9, Hm.sm_10, Hm.sm_11, Hm.sm_12, Hm.sm_13, Hm.sm_14, Hm.sm_15, Hm.sm_16, true_and, and_true, Nat.zero_le, Nat.reduceLeDiff, Nat.reduceEqDiff, Nat.reduceLT, List.length_map,
    l, a1, b1, Bool.and_false, Bool.false_and]
  unfold figD
  cases hb : figB1 x with
  | false =>
    rw [hb] at cond
    exact runB_rt (seqS_rt ((ifS_t cond).trans (ret_ok k_ok)))
  | true =>
    rw [hb] at cond
    have fb := hb
    unfold figB1 at fb
    simp only [Bool.and_eq_true, decide_eq_true_eq] at fb
    have ne : Ls x ≠ [] := fun z => by
      have := ls_len x
      rw [z] at this
      rw [← this] at fb
      exact absurd fb.1 (by decide)
    obtain ⟨c, r, hc⟩ := List.exists_cons_of_ne_nil ne
    have ix : ixD (.str x) (.int 0) S = .ok (.val (.str ⟨#[c]⟩)) S := Hm.ix_str (by rw [show x.cps.toList = c :: r from hc]; exact Hm.at_0) (by omega)
    have okc : PyData.strOk ⟨#[c]⟩ = true := ok_iff.mpr fun d hd => by
      rw [List.mem_singleton.mp hd]
      exact ok_iff.mp hs.ok c (by rw [hc]; exact List.mem_cons_self)
    have q1 := Hm.eq_ss (S := S) okc zero_ok
    have q2 := Hm.ne_ss (S := S) hs.ok zero_ok
    have q3 := int_ev (S := S) hb
    have hh : ((Ls x).head? = some 48) ↔ c = 48 := by rw [hc]; simp
    have zz : ("0" : Str) = ⟨#[48]⟩ := by decide +kernel
    refine runB_rt ((seqS_nx (ifS_fn cond)).trans (ret_ok ?_))
    rw [if_pos rfl]
    by_cases z1 : c = 48
    · have d1 : decide ((⟨#[c]⟩ : Str) = "0") = true := decide_eq_true (by rw [z1, zz])
      by_cases z2 : x = "0"
      · have d2 : decide (x = "0") = true := decide_eq_true z2
        rw [if_neg (fun h => h.2 z2)]
        simp only [Hm.goS_0, Hm.goS_1, Hm.goS_2, Hm.goS_3, Hm.goS_4, Hm.goS_5, Hm.x_seqS, Hm.goSet_0, Hm.goSet_1, Hm.goSet_2, Hm.x_setS, Hm.goRet_0, Hm.goRet_1, Hm.goRet_2, Hm.x_retS, Hm.goEx_0, Hm.goEx_1, Hm.goEx_2, Hm.x_exprS, Hm.goIf_0, Hm.goIf_1,
    Hm.goIf_2, Hm.goIf_3, Hm.x_ifS, Hm.x_nextS, Hm.x_neverS, Hm.x_retNS, Hm.x_contS, Hm.x_breakS, Hm.goRv_0, Hm.x_retVarS, Hm.goFr_0, Hm.goFr_1, Hm.goFr_2, Hm.x_frzS, Hm.goCel_0, Hm.goCel_1, Hm.goCel_2, Hm.goCel_3, Hm.goCel_4,
    Hm.x_celS, Hm.goV_0, Hm.x_mVar, Hm.x_mK, Hm.goU_0, Hm.goU_1, Hm.goU_2, Hm.x_mUn, Hm.goB2_0, Hm.goB2_1, Hm.goB2_2, Hm.goB_0, Hm.goB_1, Hm.goB_2, Hm.x_mBin, Hm.goT_0, Hm.goT_1, Hm.goT_2, Hm.x_mTst, Hm.goTr2_0, Hm.goTr2_1, Hm.goTr_0,
    Hm.goTr_1, Hm.goTr_2, Hm.x_mTru, Hm.goN_0, Hm.goN_1, Hm.goN_2, Hm.x_mNot, Hm.goAn_0, Hm.goAn_1, Hm.goAn_2, Hm.goAn_3, Hm.goOr_0, Hm.goOr_1, Hm.goOr_2, Hm.goOr_3, Hm.goIe_0, Hm.goIe_1, Hm.goIe_2, Hm.goIe_3, Hm.x_mAnd, Hm.x_mOr,
    Hm.x_mIf, Hm.goNv2_0, Hm.goNv2_1, Hm.goNv_0, Hm.goNv_1, Hm.goNv_2, Hm.x_mNotV, Hm.goOv2_0, Hm.goOv2_1, Hm.goOv2_2, Hm.goOv_0, Hm.goOv_1, Hm.goOv_2, Hm.x_mOrV, Hm.goAv2_0, Hm.goAv2_1, Hm.goAv2_2, Hm.goAv_0, Hm.goAv_1, Hm.goAv_2,
    Hm.x_mAndV, Hm.x_mNil, Hm.goC2_0, Hm.goC2_1, Hm.goC2_2, Hm.goC_0, Hm.goC_1, Hm.goC_2, Hm.x_mCons, Hm.goTp_0, Hm.goTp_1, Hm.goTp_2, Hm.x_mTup, Hm.goLs_0, Hm.goLs_1, Hm.goLs_2, Hm.x_mLst, Hm.x_mNo, Hm.goPt_0, Hm.goPt_1, Hm.goPt_2,
    Hm.x_mPart, Hm.goSl3_0, Hm.goSl3_1, Hm.goSl3_2, Hm.goSl2_0, Hm.goSl2_1, Hm.goSl2_2, Hm.goSl_0, Hm.goSl_1, Hm.goSl_2, Hm.x_mSl, Hm.goCall_0, Hm.goCall_1, Hm.goCall_2, Hm.x_mCall, Hm.goFn_0, Hm.goFn_1, Hm.goFn_2, Hm.x_mF, Hm.goM3_0,
    Hm.goM3_1, Hm.goM3_2, Hm.goM2_0, Hm.goM_0, Hm.goM_1, Hm.goM_2, Hm.x_mM1, Hm.goG2_0, Hm.goG2_1, Hm.goG_0, Hm.goG_1, Hm.goG_2, Hm.x_setG, Hm.x_gN, Hm.x_gNil, Hm.goGs_0, Hm.goGs_1, Hm.x_gCons, Hm.x_gT_tup, Hm.x_gT_lst, Hm.goRs_0,
    Hm.goRs_1, Hm.goRs_2, Hm.x_raiseS, Hm.goW2_0, Hm.goW2_1, Hm.goW_0, Hm.goW_1, Hm.goW_2, Hm.x_mWk, Hm.x_itL, Hm.x_itT, Hm.x_itS, Hm.x_itD, Hm.goMk2_0, Hm.goMk2_1, Hm.goMk_0, Hm.goMk_1, Hm.goMk_2, Hm.x_mMkF, Hm.goRun_0, Hm.goRun_1,
    Hm.goRun_2, Hm.goRun_3, Hm.goRun_4, Hm.goRun_5, Hm.x_runB, Hm.goCh3_0, Hm.goCh3_1, Hm.goCh2_0, Hm.goCh2_1, Hm.goCh2_2, Hm.goCh_0, Hm.goCh_1, Hm.goCh_2, Hm.x_mCh, Hm.goIx_0, Hm.goIx_1, Hm.x_ixl, Hm.x_ixt, Hm.goFor_0, Hm.goFor_1,
    Hm.goFor_2, Hm.x_forS, Hm.goL2_0, Hm.goL2_1, Hm.goL2_2, Hm.goL2_3, Hm.goL2_4, Hm.goL2_5, Hm.goL_0, Hm.goL_1, Hm.x_loopN, Hm.x_loopC, Hm.goR1_0, Hm.goR1_1, Hm.goR1_2, Hm.x_mR1, Hm.goTy_0, Hm.goTy_1, Hm.goTy_2, Hm.goTy_3, Hm.goTy_4,
    Hm.goTy_5, Hm.x_tryS, Hm.goFl_0, Hm.goFl_1, Hm.x_fldH, Hm.x_wipenx, Hm.x_wipert, Hm.x_wipebk, Hm.x_wipect, Hm.x_fzv, Hm.x_fzl, Hm.x_fzd, Hm.x_fine, Hm.x_isNn, Hm.x_isNi, Hm.x_isNs, Hm.x_isNb, Hm.x_isNt, Hm.x_isNl, Hm.x_isNd,
    Hm.x_swD, Hm.x_ewD, slots0, List.map_cons, List.map_nil, List.length_cons, List.length_nil, Nat.reduceSub, Nat.reduceAdd, List.replicate_succ, List.replicate_zero, List.cons_append, List.nil_append, List.append_nil,
    List.getElem?_cons_zero, List.getElem?_cons_succ, List.set_cons_zero, List.set_cons_succ, Bool.false_eq_true, if_true, if_false, ite_true, ite_false, reduceIte, Bool.not_true, Bool.not_false, decide_true, decide_false, Hm.vw_int,
    Hm.vw_str, Hm.vw_bl, Hm.vw_non, Hm.vw_lst, Hm.vw_tup, Hm.vw_dct, Hm.eq_ii, Hm.ne_ii, Hm.eq_bb, Hm.ne_bb, Hm.ln_lst, Hm.ln_tup, Hm.sl_lst, Hm.sl_tup, Hm.ad_ii, Hm.sb_ii, Hm.le_ii, Hm.lt_ii, Hm.gt_ii, Hm.ge_ii, Hm.ng_i, Hm.is_n,
    Hm.nis_n, Hm.tr_bl, Hm.tr_non, Hm.tr_int, Hm.tr_lst, Hm.tr_tup, Hm.tr_dct, Hm.tp_lst, Hm.tp_tup, Hm.in_bl, Hm.at_0, Hm.at_1, Hm.at_2, Hm.at_3, Hm.at_4, Hm.gst_lst, Hm.gst_tup, Hm.sm_0, Hm.sm_1, Hm.sm_2, Hm.sm_3, Hm.sm_4, Hm.sm_5,
    Hm.sm_6, Hm.sm_7, Hm.sm_8, Hm.sm_9, Hm.sm_10, Hm.sm_11, Hm.sm_12, Hm.sm_13, Hm.sm_14, Hm.sm_15, Hm.sm_16, true_and, and_true, Nat.zero_le, Nat.reduceLeDiff, Nat.reduceEqDiff, Nat.reduceLT, List.length_map,
    ix, q1, q2, q3, d1, d2]
      · have d2 : decide (x = "0") = false := decide_eq_false z2
        rw [if_pos ⟨hh.mpr z1, z2⟩]
        simp only [Hm.goS_0, Hm.goS_1, Hm.goS_2, Hm.goS_3, Hm.goS_4, Hm.goS_5, Hm.x_seqS, Hm.goSet_0, Hm.goSet_1, Hm.goSet_2, Hm.x_setS, Hm.goRet_0, Hm.goRet_1, Hm.goRet_2, Hm.x_retS, Hm.goEx_0, Hm.goEx_1, Hm.goEx_2, Hm.x_exprS, Hm.goIf_0, Hm.goIf_1,
    Hm.goIf_2, Hm.goIf_3, Hm.x_ifS, Hm.x_nextS, Hm.x_neverS, Hm.x_retNS, Hm.x_contS, Hm.x_breakS, Hm.goRv_0, Hm.x_retVarS, Hm.goFr_0, Hm.goFr_1, Hm.goFr_2, Hm.x_frzS, Hm.goCel_0, Hm.goCel_1, Hm.goCel_2, Hm.goCel_3, Hm.goCel_4,
    Hm.x_celS, Hm.goV_0, Hm.x_mVar, Hm.x_mK, Hm.goU_0, Hm.goU_1, Hm.goU_2, Hm.x_mUn, Hm.goB2_0, Hm.goB2_1, Hm.goB2_2, Hm.goB_0, Hm.goB_1, Hm.goB_2, Hm.x_mBin, Hm.goT_0, Hm.goT_1, Hm.goT_2, Hm.x_mTst, Hm.goTr2_0, Hm.goTr2_1, Hm.goTr_0,
    Hm.goTr_1, Hm.goTr_2, Hm.x_mTru, Hm.goN_0, Hm.goN_1, Hm.goN_2, Hm.x_mNot, Hm.goAn_0, Hm.goAn_1, Hm.goAn_2, Hm.goAn_3, Hm.goOr_0, Hm.goOr_1, Hm.goOr_2, Hm.goOr_3, Hm.goIe_0, Hm.goIe_1, Hm.goIe_2, Hm.goIe_3, Hm.x_mAnd, Hm.x_mOr,
    Hm.x_mIf, Hm.goNv2_0, Hm.goNv2_1, Hm.goNv_0, Hm.goNv_1, Hm.goNv_2, Hm.x_mNotV, Hm.goOv2_0, Hm.goOv2_1, Hm.goOv2_2, Hm.goOv_0, Hm.goOv_1, Hm.goOv_2, Hm.x_mOrV, Hm.goAv2_0, Hm.goAv2_1, Hm.goAv2_2, Hm.goAv_0, Hm.goAv_1, Hm.goAv_2,
    Hm.x_mAndV, Hm.x_mNil, Hm.goC2_0, Hm.goC2_1, Hm.goC2_2, Hm.goC_0, Hm.goC_1, Hm.goC_2, Hm.x_mCons, Hm.goTp_0, Hm.goTp_1, Hm.goTp_2, Hm.x_mTup, Hm.goLs_0, Hm.goLs_1, Hm.goLs_2, Hm.x_mLst, Hm.x_mNo, Hm.goPt_0, Hm.goPt_1, Hm.goPt_2,
    Hm.x_mPart, Hm.goSl3_0, Hm.goSl3_1, Hm.goSl3_2, Hm.goSl2_0, Hm.goSl2_1, Hm.goSl2_2, Hm.goSl_0, Hm.goSl_1, Hm.goSl_2, Hm.x_mSl, Hm.goCall_0, Hm.goCall_1, Hm.goCall_2, Hm.x_mCall, Hm.goFn_0, Hm.goFn_1, Hm.goFn_2, Hm.x_mF, Hm.goM3_0,
    Hm.goM3_1, Hm.goM3_2, Hm.goM2_0, Hm.goM_0, Hm.goM_1, Hm.goM_2, Hm.x_mM1, Hm.goG2_0, Hm.goG2_1, Hm.goG_0, Hm.goG_1, Hm.goG_2, Hm.x_setG, Hm.x_gN, Hm.x_gNil, Hm.goGs_0, Hm.goGs_1, Hm.x_gCons, Hm.x_gT_tup, Hm.x_gT_lst, Hm.goRs_0,
    Hm.goRs_1, Hm.goRs_2, Hm.x_raiseS, Hm.goW2_0, Hm.goW2_1, Hm.goW_0, Hm.goW_1, Hm.goW_2, Hm.x_mWk, Hm.x_itL, Hm.x_itT, Hm.x_itS, Hm.x_itD, Hm.goMk2_0, Hm.goMk2_1, Hm.goMk_0, Hm.goMk_1, Hm.goMk_2, Hm.x_mMkF, Hm.goRun_0, Hm.goRun_1,
    Hm.goRun_2, Hm.goRun_3, Hm.goRun_4, Hm.goRun_5, Hm.x_runB, Hm.goCh3_0, Hm.goCh3_1, Hm.goCh2_0, Hm.goCh2_1, Hm.goCh2_2, Hm.goCh_0, Hm.goCh_1, Hm.goCh_2, Hm.x_mCh, Hm.goIx_0, Hm.goIx_1, Hm.x_ixl, Hm.x_ixt, Hm.goFor_0, Hm.goFor_1,
    Hm.goFor_2, Hm.x_forS, Hm.goL2_0, Hm.goL2_1, Hm.goL2_2, Hm.goL2_3, Hm.goL2_4, Hm.goL2_5, Hm.goL_0, Hm.goL_1, Hm.x_loopN, Hm.x_loopC, Hm.goR1_0, Hm.goR1_1, Hm.goR1_2, Hm.x_mR1, Hm.goTy_0, Hm.goTy_1, Hm.goTy_2, Hm.goTy_3, Hm.goTy_4,
    Hm.goTy_5, Hm.x_tryS, Hm.goFl_0, Hm.goFl_1, Hm.x_fldH, Hm.x_wipenx, Hm.x_wipert, Hm.x_wipebk, Hm.x_wipect, Hm.x_fzv, Hm.x_fzl, Hm.x_fzd, Hm.x_fine, Hm.x_isNn, Hm.x_isNi, Hm.x_isNs, Hm.x_isNb, Hm.x_isNt, Hm.x_isNl, Hm.x_isNd,
    Hm.x_swD, Hm.x_ewD, slots0, List.map_cons, List.map_nil, List.length_cons, List.length_nil, Nat.reduceSub, Nat.reduceAdd, List.replicate_succ, List.replicate_zero, List.cons_append, List.nil_append, List.append_nil,
    List.getElem?_cons_zero, List.getElem?_cons_succ, List.set_cons_zero, List.set_cons_succ, Bool.false_eq_true, if_true, if_false, ite_true, ite_false, reduceIte, Bool.not_true, Bool.not_false, decide_true, decide_false, Hm.vw_int,
    Hm.vw_str, Hm.vw_bl, Hm.vw_non, Hm.vw_lst, Hm.vw_tup, Hm.vw_dct, Hm.eq_ii, Hm.ne_ii, Hm.eq_bb, Hm.ne_bb, Hm.ln_lst, Hm.ln_tup, Hm.sl_lst, Hm.sl_tup, Hm.ad_ii, Hm.sb_ii, Hm.le_ii, Hm.lt_ii, Hm.gt_ii, Hm.ge_ii, Hm.ng_i, Hm.is_n,
    Hm.nis_n, Hm.tr_bl, Hm.tr_non, Hm.tr_int, Hm.tr_lst, Hm.tr_tup, Hm.tr_dct, Hm.tp_lst, Hm.tp_tup, Hm.in_bl, Hm.at_0, Hm.at_1, Hm.at_2, Hm.at_3, Hm.at_4, Hm.gst_lst, Hm.gst_tup, Hm.sm_0, Hm.sm_1, Hm.sm_2, Hm.sm_3, Hm.sm_4, Hm.sm_5,
    Hm.sm_6, Hm.sm_7, Hm.sm_8, Hm.sm_9, Hm.sm_10, Hm.sm_11, Hm.sm_12, Hm.sm_13, Hm.sm_14, Hm.sm_15, Hm.sm_16, true_and, and_true, Nat.zero_le, Nat.reduceLeDiff, Nat.reduceEqDiff, Nat.reduceLT, List.length_map,
    ix, q1, q2, q3, d1, d2]
    · have d1 : decide ((⟨#[c]⟩ : Str) = "0") = false := decide_eq_false fun h => z1 (sgn_eq.mp (h.trans zz))
      rw [if_neg (fun h => z1 (hh.mp h.1))]
      simp only [Hm.goS_0, Hm.goS_1, Hm.goS_2, Hm.goS_3, Hm.goS_4, Hm.goS_5, Hm.x_seqS, Hm.goSet_0, Hm.goSet_1, Hm.goSet_2, Hm.x_setS, Hm.goRet_0, Hm.goRet_1, Hm.goRet_2, Hm.x_retS, Hm.goEx_0, Hm.goEx_1, Hm.goEx_2, Hm.x_exprS, Hm.goIf_0, Hm.goIf_1,
    Hm.goIf_2, Hm.goIf_3, Hm.x_ifS, Hm.x_nextS, Hm.x_neverS, Hm.x_retNS, Hm.x_contS, Hm.x_breakS, Hm.goRv_0, Hm.x_retVarS, Hm.goFr_0, Hm.goFr_1, Hm.goFr_2, Hm.x_frzS, Hm.goCel_0, Hm.goCel_1, Hm.goCel_2, Hm.goCel_3, Hm.goCel_4,
    Hm.x_celS, Hm.goV_0, Hm.x_mVar, Hm.x_mK, Hm.goU_0, Hm.goU_1, Hm.goU_2, Hm.x_mUn, Hm.goB2_0, Hm.goB2_1, Hm.goB2_2, Hm.goB_0, Hm.goB_1, Hm.goB_2, Hm.x_mBin, Hm.goT_0, Hm.goT_1, Hm.goT_2, Hm.x_mTst, Hm.goTr2_0, Hm.goTr2_1, Hm.goTr_0,
    Hm.goTr_1, Hm.goTr_2, Hm.x_mTru, Hm.goN_0, Hm.goN_1, Hm.goN_2, Hm.x_mNot, Hm.goAn_0, Hm.goAn_1, Hm.goAn_2, Hm.goAn_3, Hm.goOr_0, Hm.goOr_1, Hm.goOr_2, Hm.goOr_3, Hm.goIe_0, Hm.goIe_1, Hm.goIe_2, Hm.goIe_3, Hm.x_mAnd, Hm.x_mOr,
    Hm.x_mIf, Hm.goNv2_0, Hm.goNv2_1, Hm.goNv_0, Hm.goNv_1, Hm.goNv_2, Hm.x_mNotV, Hm.goOv2_0, Hm.goOv2_1, Hm.goOv2_2, Hm.goOv_0, Hm.goOv_1, Hm.goOv_2, Hm.x_mOrV, Hm.goAv2_0, Hm.goAv2_1, Hm.goAv2_2, Hm.goAv_0, Hm.goAv_1, Hm.goAv_2,
    Hm.x_mAndV, Hm.x_mNil, Hm.goC2_0, Hm.goC2_1, Hm.goC2_2, Hm.goC_0, Hm.goC_1, Hm.goC_2, Hm.x_mCons, Hm.goTp_0, Hm.goTp_1, Hm.goTp_2, Hm.x_mTup, Hm.goLs_0, Hm.goLs_1, Hm.goLs_2, Hm.x_mLst, Hm.x_mNo, Hm.goPt_0, Hm.goPt_1, Hm.goPt_2,
    Hm.x_mPart, Hm.goSl3_0, Hm.goSl3_1, Hm.goSl3_2, Hm.goSl2_0, Hm.goSl2_1, Hm.goSl2_2, Hm.goSl_0, Hm.goSl_1, Hm.goSl_2, Hm.x_mSl, Hm.goCall_0, Hm.goCall_1, Hm.goCall_2, Hm.x_mCall, Hm.goFn_0, Hm.goFn_1, Hm.goFn_2, Hm.x_mF, Hm.goM3_0,
    Hm.goM3_1, Hm.goM3_2, Hm.goM2_0, Hm.goM_0, Hm.goM_1, Hm.goM_2, Hm.x_mM1, Hm.goG2_0, Hm.goG2_1, Hm.goG_0, Hm.goG_1, Hm.goG_2, Hm.x_setG, Hm.x_gN, Hm.x_gNil, Hm.goGs_0, Hm.goGs_1, Hm.x_gCons, Hm.x_gT_tup, Hm.x_gT_lst, Hm.goRs_0,
    Hm.goRs_1, Hm.goRs_2, Hm.x_raiseS, Hm.goW2_0, Hm.goW2_1, Hm.goW_0, Hm.goW_1, Hm.goW_2, Hm.x_mWk, Hm.x_itL, Hm.x_itT, Hm.x_itS, Hm.x_itD, Hm.goMk2_0, Hm.goMk2_1, Hm.goMk_0, Hm.goMk_1, Hm.goMk_2, Hm.x_mMkF, Hm.goRun_0, Hm.goRun_1,
    Hm.goRun_2, Hm.goRun_3, Hm.goRun_4, Hm.goRun_5, Hm.x_runB, Hm.goCh3_0, Hm.goCh3_1, Hm.goCh2_0, Hm.goCh2_1, Hm.goCh2_2, Hm.goCh_0, Hm.goCh_1, Hm.goCh_2, Hm.x_mCh, Hm.goIx_0, Hm.goIx_1, Hm.x_ixl, Hm.x_ixt, Hm.goFor_0, Hm.goFor_1,
    Hm.goFor_2, Hm.x_forS, Hm.goL2_0, Hm.goL2_1, Hm.goL2_2, Hm.goL2_3, Hm.goL2_4, Hm.goL2_5, Hm.goL_0, Hm.goL_1, Hm.x_loopN, Hm.x_loopC, Hm.goR1_0, Hm.goR1_1, Hm.goR1_2, Hm.x_mR1, Hm.goTy_0, Hm.goTy_1, Hm.goTy_2, Hm.goTy_3, Hm.goTy_4,
    Hm.goTy_5, Hm.x_tryS, Hm.goFl_0, Hm.goFl_1, Hm.x_fldH, Hm.x_wipenx, Hm.x_wipert, Hm.x_wipebk, Hm.x_wipect, Hm.x_fzv, Hm.x_fzl, Hm.x_fzd, Hm.x_fine, Hm.x_isNn, Hm.x_isNi, Hm.x_isNs, Hm.x_isNb, Hm.x_isNt, Hm.x_isNl, Hm.x_isNd,
    Hm.x_swD, Hm.x_ewD, slots0, List.map_cons, List.map_nil, List.length_cons, List.length_nil, Nat.reduceSub, Nat.reduceAdd, List.replicate_succ, List.replicate_zero, List.cons_append, List.nil_append, List.append_nil,
    List.getElem?_cons_zero, List.getElem?_cons_succ, List.set_cons_zero, List.set_cons_succ, Bool.false_eq_true, if_true, if_false, ite_true, ite_false, reduceIte, Bool.not_true, Bool.not_false, decide_true, decide_false, Hm.vw_int,
    Hm.vw_str, Hm.vw_bl, Hm.vw_non, Hm.vw_lst, Hm.vw_tup, Hm.vw_dct, Hm.eq_ii, Hm.ne_ii, Hm.eq_bb, Hm.ne_bb, Hm.ln_lst, Hm.ln_tup, Hm.sl_lst, Hm.sl_tup, Hm.ad_ii, Hm.sb_ii, Hm.le_ii, Hm.lt_ii, Hm.gt_ii, Hm.ge_ii, Hm.ng_i, Hm.is_n,
    Hm.nis_n, Hm.tr_bl, Hm.tr_non, Hm.tr_int, Hm.tr_lst, Hm.tr_tup, Hm.tr_dct, Hm.tp_lst, Hm.tp_tup, Hm.in_bl, Hm.at_0, Hm.at_1, Hm.at_2, Hm.at_3, Hm.at_4, Hm.gst_lst, Hm.gst_tup, Hm.sm_0, Hm.sm_1, Hm.sm_2, Hm.sm_3, Hm.sm_4, Hm.sm_5,
    Hm.sm_6, Hm.sm_7, Hm.sm_8, Hm.sm_9, Hm.sm_10, Hm.sm_11, Hm.sm_12, Hm.sm_13, Hm.sm_14, Hm.sm_15, Hm.sm_16, true_and, and_true, Nat.zero_le, Nat.reduceLeDiff, Nat.reduceEqDiff, Nat.reduceLT, List.length_map,
    ix, q1, q2, q3, d1]
/-- a number or nothing -/
theorem fig_cases (x : Str) : figD x = .non ∨ ∃ i, figD x = .int i ∧ figB1 x = true ∧ i = (PySem.intText? x).getD 0 := by
  unfold figD
  split
  · rename_i h
    split
    · exact .inl rfl
    · exact .inr ⟨_, rfl, h, rfl⟩
  · exact .inl rfl
end Wk57
set_option Elab.async false
set_option linter.all false
set_option maxRecDepth 100000
set_option maxHeartbeats 4000000
namespace Wk57
open PySem PySem.Spec L2 Hm
open Builtin Builtin.Str

/-! ### parts of a text -/
theorem cut_mem {x : Str} {lo hi : Option Int} {c : Nat} (h : c ∈ Ls (cutS x lo hi)) : c ∈ Ls x := by
  have e : Ls (cutS x lo hi) = ((Ls x).drop (HT.sIx x.length 0 lo)).take (HT.sIx x.length x.length hi - HT.sIx x.length 0 lo) := rfl
  rw [e] at h
  exact List.mem_of_mem_drop (List.mem_of_mem_take h)
theorem cut_len {x : Str} {lo hi : Option Int} : (cutS x lo hi).length ≤ x.length := by
  have e : Ls (cutS x lo hi) = ((Ls x).drop (HT.sIx x.length 0 lo)).take (HT.sIx x.length x.length hi - HT.sIx x.length 0 lo) := rfl
  rw [← ls_len, e, ← ls_len, List.length_take, List.length_drop]
  omega
theorem cut_sh {n : Nat} {x : Str} {lo hi : Option Int} (h : Sh n x) : Sh n (cutS x lo hi) := ⟨Nat.le_trans cut_len h.le, ok_iff.mpr fun c hc => ok_iff.mp h.ok c (cut_mem hc)⟩
theorem starts_iff {x : Str} {c : Nat} : Txt.startswith x ⟨#[c]⟩ = decide ((Ls x).head? = some c) := by
  have key : (Txt.startswith x ⟨#[c]⟩ = true) ↔ (Ls x).head? = some c := by
    rw [List.head?_eq_getElem?]
    unfold Txt.startswith
    rw [Bool.and_eq_true, decide_eq_true_eq]
    exact StrLaws.subAt_one x c 0
  cases h : Txt.startswith x ⟨#[c]⟩ with
  | true => exact (decide_eq_true (key.mp h)).symm
  | false => exact (decide_eq_false fun z => by rw [key.mpr z] at h; cases h).symm
theorem cut1 (x : Str) : Ls (cutS x none (some 1)) = (Ls x).take 1 := by
  have e : Ls (cutS x none (some 1)) = ((Ls x).drop (HT.sIx x.length 0 none)).take (HT.sIx x.length x.length (some 1) - HT.sIx x.length 0 none) := rfl
  have e1 : HT.sIx x.length x.length (some 1) = min 1 x.length := HT.sIx_nat x.length x.length 1
  rw [e, e1]
  show ((Ls x).drop 0).take (min 1 x.length - 0) = _
  rw [List.drop_zero, Nat.sub_zero, ← ls_len, List.take_eq_take_iff]
  omega
theorem cut1_iff {x : Str} {c : Nat} : decide (cutS x none (some 1) = ⟨#[c]⟩) = decide ((Ls x).head? = some c) := by
  have key : (cutS x none (some 1) = ⟨#[c]⟩) ↔ (Ls x).head? = some c := by
    constructor
    · intro h
      have e := congrArg Ls h
      rw [cut1] at e
      cases hx : Ls x with
      | nil => rw [hx] at e; cases e
      | cons a r =>
        rw [hx] at e
        have e2 : [a] = [c] := e
        rw [(List.cons.inj e2).1]
        rfl
    · intro h
      refine str_eq ?_
      rw [cut1]
      cases hx : Ls x with
      | nil => rw [hx] at h; cases h
      | cons a r =>
        rw [hx] at h
        have e2 : a = c := Option.some.inj h
        rw [e2]
        rfl
  by_cases h : (Ls x).head? = some c
  · rw [decide_eq_true h, decide_eq_true (key.mpr h)]
  · rw [decide_eq_false h, decide_eq_false fun z => h (key.mp z)]
theorem cutL (x : Str) : Ls (cutS x (some (-1)) none) = (Ls x).drop ((Ls x).length - 1) := by
  have e : Ls (cutS x (some (-1)) none) = ((Ls x).drop (HT.sIx x.length 0 (some (-1)))).take (HT.sIx x.length x.length none - HT.sIx x.length 0 (some (-1))) := rfl
  have e1 : HT.sIx x.length 0 (some (-1)) = x.length - 1 := by
    show (if (-1 : Int) < 0 then ((-1 : Int) + (x.length : Int)).toNat else min (-1 : Int).toNat x.length) = _
    rw [if_pos (by omega)]
    omega
  rw [e, e1]
  show ((Ls x).drop (x.length - 1)).take (x.length - (x.length - 1)) = _
  rw [ls_len]
  refine List.take_of_length_le ?_
  rw [List.length_drop, ls_len]
  omega
theorem ends_iff {x : Str} {c : Nat} : Txt.endswith x ⟨#[c]⟩ = decide (cutS x (some (-1)) none = ⟨#[c]⟩) := by
  have e3 : (⟨#[c]⟩ : Str).length = 1 := rfl
  have key : (Txt.endswith x ⟨#[c]⟩ = true) ↔ cutS x (some (-1)) none = ⟨#[c]⟩ := by
    constructor
    · intro h
      unfold Txt.endswith at h
      rw [Bool.and_eq_true, decide_eq_true_eq, e3] at h
      have q := (StrLaws.subAt_one x c (x.length - 1)).mp ⟨by rw [e3]; omega, h.2⟩
      have q2 : (Ls x)[x.length - 1]? = some c := q
      refine str_eq ?_
      rw [cutL, ls_len]
      have hl := (List.getElem?_eq_some_iff.mp q2).1
      rw [List.drop_eq_getElem_cons hl, (List.getElem?_eq_some_iff.mp q2).2, List.drop_of_length_le (by rw [ls_len]; omega)]
    · intro h
      have e := congrArg Ls h
      rw [cutL, ls_len] at e
      have e1 : (Ls x).drop (x.length - 1) = [c] := e
      have hne : 1 ≤ x.length := by
        cases hx : Ls x with
        | nil => rw [hx] at e1; simp at e1
        | cons a r => rw [← ls_len, hx, List.length_cons]; omega
      have q : (Ls x)[x.length - 1]? = some c := by
        have z : ((Ls x).drop (x.length - 1))[0]? = some c := by rw [e1]; rfl
        rw [List.getElem?_drop, Nat.add_zero] at z
        exact z
      have w := (StrLaws.subAt_one x c (x.length - 1)).mpr q
      unfold Txt.endswith
      rw [e3, w.2, decide_eq_true hne]
      rfl
  cases h : Txt.endswith x ⟨#[c]⟩ with
  | true => exact (decide_eq_true (key.mp h)).symm
  | false => exact (decide_eq_false fun z => by rw [key.mpr z] at h; cases h).symm
theorem part_no {c : Nat} {x : Str} (h : Fr c x) : Txt.partition x ⟨#[c]⟩ = (x, Str.empty, Str.empty) := by
  unfold Txt.partition
  rcases StrLaws.occ_head x ⟨#[c]⟩ 1 (Nat.le_refl _) with ⟨e, _⟩ | ⟨i, r, e, h1, h2⟩
  · rw [e]
  · rw [at_one] at h1
    exact absurd (List.mem_of_getElem? h1) h
/-! split -/
theorem jl_mem (c : Nat) : ∀ {xs : List (List Nat)} {y : List Nat}, y ∈ xs → (∀ e ∈ y, e ∈ jl c xs) ∧ y.length ≤ (jl c xs).length
  | [x], y, h => by
    rw [List.mem_singleton.mp h]
    exact ⟨fun e he => he, Nat.le_refl _⟩
  | x :: z :: r, y, h => by
    have e0 : jl c (x :: z :: r) = x ++ c :: jl c (z :: r) := rfl
    rw [e0]
    rcases List.mem_cons.mp h with q | q
    · rw [q]
      exact ⟨fun e he => List.mem_append_left _ he, by rw [List.length_append]; omega⟩
    · obtain ⟨a, b⟩ := jl_mem c q
      exact ⟨fun e he => List.mem_append_right _ (List.mem_cons_of_mem _ (a e he)), by rw [List.length_append, List.length_cons]; omega⟩
theorem jl_len (c : Nat) : ∀ {xs : List (List Nat)}, xs.length ≤ (jl c xs).length + 1
  | [] => by simp
  | [x] => by simp
  | x :: z :: r => by
    have e0 : jl c (x :: z :: r) = x ++ c :: jl c (z :: r) := rfl
    have := jl_len c (xs := z :: r)
    rw [e0]
    simp only [List.length_append, List.length_cons] at this ⊢
    omega
abbrev Sp (x : Str) (c : Nat) : List Str := Txt.split x ⟨#[c]⟩
theorem sp_ls (x : Str) (c : Nat) : jl c ((Sp x c).map Ls) = Ls x := by
  rw [← jn_jl, StrLaws.join_split]
theorem sp_sh {n c : Nat} {x : Str} (h : Sh n x) : ∀ y ∈ Sp x c, Sh n y := fun y hy => by
  obtain ⟨a, b⟩ := jl_mem c (List.mem_map_of_mem (f := Ls) hy)
  rw [sp_ls] at a b
  exact ⟨by rw [← ls_len]; rw [ls_len x] at b; exact Nat.le_trans b h.le, ok_iff.mpr fun e he => ok_iff.mp h.ok e (a e he)⟩
theorem sp_len {n c : Nat} {x : Str} (h : Sh n x) : (Sp x c).length ≤ n + 1 := by
  have := jl_len c (xs := (Sp x c).map Ls)
  rw [sp_ls, List.length_map, ls_len] at this
  have := h.le
  omega
theorem sp_ne (x : Str) (c : Nat) : ∃ p r, Sp x c = p :: r := by
  have q := PyProof.Rows.split_pos x ⟨#[c]⟩
  cases h : Sp x c with
  | nil => rw [show Txt.split x ⟨#[c]⟩ = [] from h] at q; exact absurd q (by decide)
  | cons p r => exact ⟨p, r, rfl⟩
theorem sp_free {x : Str} {c : Nat} : ∀ y ∈ Sp x c, Fr c y := StrLaws.split_free x c
theorem spl_ev {n c : Nat} {x : Str} {S : Store} (h : Sh n x) (hn : n ≤ 1000) : splitD x (.str ⟨#[c]⟩) S = .ok (.ol ((Sp x c).map .str)) S := by
  show (if splitOk x ⟨#[c]⟩ then Res.ok (DV.ol ((Txt.split x ⟨#[c]⟩).map .str)) S else .bad) = _
  rw [if_pos (by
    unfold splitOk
    rw [decide_eq_true (by rw [sizeLine_eq]; have := h.le; omega)]
    rfl)]
/-! ### None among the things -/
def Nn (n : Nat) (d : D) : Prop := d = .non ∨ Pl d n
def Pyn (S : Store) (n : Nat) (d : D) (p : PyData) : Prop := toPy S d = some p ∧ p.canLay0 = true ∧ p.depth ≤ n ∧ PyData.eqv p .none = isN d
theorem pyn_of {S : Store} {d : D} {n : Nat} (h : Pl d n) : ∃ p, Pyn S n d p := by
  have aux : ∀ {ds : List D} {n : Nat}, (∀ d ∈ ds, ∃ p, Pyn S n d p) → ∃ ps, toPys S ds = some ps ∧ PyData.canLayAll0 ps = true ∧ PyData.depthAll ps ≤ n := fun {ds n} => by
    induction ds with
    | nil => intro _; exact ⟨[], rfl, by simp [PyData.canLayAll0], by simp [PyData.depthAll]⟩
    | cons d ds ih =>
      intro h
      obtain ⟨p, h1, h2, h3, h4⟩ := h d List.mem_cons_self
      obtain ⟨ps, k1, k2, k3⟩ := ih fun z hz => h z (List.mem_cons_of_mem _ hz)
      exact ⟨p :: ps, by rw [toPys, h1, k1], by simp [PyData.canLayAll0, h2, k2], by simp only [PyData.depthAll]; omega⟩
  induction h with
  | int => exact ⟨.int _, rfl, by simp [PyData.canLay0], by simp [PyData.depth], by simp [PyData.eqv, isN]⟩
  | str hs => exact ⟨.str _, rfl, by simp [PyData.canLay0, hs], by simp [PyData.depth], by simp [PyData.eqv, isN]⟩
  | tup _ _ ih =>
    obtain ⟨ps, k1, k2, k3⟩ := aux ih
    exact ⟨.tuple ps, by rw [toPy, k1]; rfl, by simp [PyData.canLay0, k2], by simp only [PyData.depth]; omega, by simp [PyData.eqv, isN]⟩
  | lst _ _ ih =>
    obtain ⟨ps, k1, k2, k3⟩ := aux ih
    exact ⟨.list ps, by rw [toPy, k1]; rfl, by simp [PyData.canLay0, k2], by simp only [PyData.depth]; omega, by simp [PyData.eqv, isN]⟩
theorem pyns {S : Store} {n : Nat} : ∀ {ds : List D}, (∀ d ∈ ds, Nn n d) → ∃ ps, toPys S ds = some ps ∧ PyData.canLayAll0 ps = true ∧ PyData.depthAll ps ≤ n + 1 ∧ (ps.any fun z => PyData.eqv z .none) = ds.any isN
  | [], _ => ⟨[], rfl, by simp [PyData.canLayAll0], by simp [PyData.depthAll], rfl⟩
  | d :: ds, h => by
    obtain ⟨ps, k1, k2, k3, k4⟩ := pyns fun z hz => h z (List.mem_cons_of_mem _ hz)
    have q : ∃ p, Pyn S (n + 1) d p := by
      rcases h d List.mem_cons_self with e | e
      · rw [e]; exact ⟨.none, rfl, by simp [PyData.canLay0], by simp [PyData.depth], by simp [PyData.eqv, isN]⟩
      · obtain ⟨p, a, b, c, d⟩ := pyn_of (S := S) e
        exact ⟨p, a, b, by omega, d⟩
    obtain ⟨p, h1, h2, h3, h4⟩ := q
    exact ⟨p :: ps, by rw [toPys, h1, k1], by simp [PyData.canLayAll0, h2, k2], by simp only [PyData.depthAll]; omega, by rw [List.any_cons, List.any_cons, h4, k4]⟩
theorem none_ev {S : Store} {n : Nat} {xs : List D} (hn : n ≤ 50) (h : ∀ d ∈ xs, Nn n d) : inD .non (.lst xs) S = .ok (.val (.bl (xs.any isN))) S := by
  have b : inB S .non (.lst xs) = if flatD .non && xs.all flatD then some (xs.any fun y => eqF y .non) else none := rfl
  unfold inD
  rw [b]
  by_cases c : xs.all flatD = true
  · rw [if_pos (by rw [c]; rfl)]
    have e : (xs.any fun y => eqF y .non) = xs.any isN := by
      have aux : ∀ ys : List D, (ys.any fun y => eqF y .non) = ys.any isN := fun ys => by
        induction ys with
        | nil => rfl
        | cons y ys ih =>
          rw [List.any_cons, List.any_cons, ih]
          congr 1
          cases y <;> rfl
      exact aux xs
    rw [e]
    rfl
  · rw [if_neg (by simpa [flatD] using c)]
    obtain ⟨ps, k1, k2, k3, k4⟩ := pyns (S := S) h
    have p1 : pyOf S .non = some .none := by
      show (if SeqAt.shaped .none then some PyData.none else none) = _
      rw [if_pos (by unfold SeqAt.shaped; simp [PyData.canLay0, PyData.depth])]
    have p2 : pyOf S (.lst xs) = some (.list ps) := by
      show ((toPy S (.lst xs)).bind fun p => if SeqAt.shaped p then some p else none) = _
      rw [toPy, k1]
      show (if SeqAt.shaped (.list ps) then some (PyData.list ps) else none) = _
      rw [if_pos (by
        unfold SeqAt.shaped
        rw [Bool.and_eq_true, decide_eq_true_eq]
        exact ⟨by simp [PyData.canLay0, k2], by simp only [PyData.depth]; omega⟩)]
    have e : inDp S .non (.lst xs) = some (xs.any isN) := by
      unfold inDp
      rw [p1, p2]
      dsimp only
      rw [k4]
    rw [e]
    rfl
/-! ### numbers, needs -/
theorem fig_nn {n : Nat} (x : Str) : Nn (n + 1) (figD x) := by
  rcases fig_cases x with h | ⟨i, h, _⟩
  · exact .inl h
  · exact .inr (by rw [h]; exact .int)
def tailS (x : Str) : Str := cutS x (some 1) none
def numD (x : Str) : D := if (Ls x).head? = some 45 then (match figD (tailS x) with
  | .int i => if i = 0 then .non else .int (-i)
  | d => d) else figD x
theorem min_ok : PyData.strOk ("-" : Str) = true := by decide +kernel
theorem num_ev {x : Str} {S : Store} (hs : Sh 900 x) : F_number_in [.str x] S = .ok (.val (numD x)) S := by
  have f1 := figs_ev (S := S) hs (by omega)
  have f2 : F_figures_in [.str (cutS x (some 1) none)] S = .ok (.val (figD (tailS x))) S := figs_ev (cut_sh hs) (by omega)
  have sl := Hm.sl_str (s := x) (S := S) (lo := some 1) (hi := none) (by have := hs.le; omega)
  have st : Txt.startswith x "-" = decide ((Ls x).head? = some 45) := starts_iff
  unfold numD
  by_cases h : (Ls x).head? = some 45
  · rw [if_pos h]
    rw [decide_eq_true h] at st
    rcases fig_cases (tailS x) with e | ⟨i, e, _⟩
    · rw [e] at f2 ⊢
      simp only [Hm.goS_0, Hm.goS_1, Hm.goS_2, Hm.goS_3, Hm.goS_4, Hm.goS_5, Hm.x_seqS, Hm.goSet_0, Hm.goSet_1, Hm.goSet_2, Hm.x_setS, Hm.goRet_0, Hm.goRet_1, Hm.goRet_2, Hm.x_retS, Hm.goEx_0, Hm.goEx_1, Hm.goEx_2, Hm.x_exprS, Hm.goIf_0, Hm.goIf_1,
    Hm.goIf_2, Hm.goIf_3, Hm.x_ifS, Hm.x_nextS, Hm.x_neverS, Hm.x_retNS, Hm.x_contS, Hm.x_breakS, Hm.goRv_0, Hm.x_retVarS, Hm.goFr_0, Hm.goFr_1, Hm.goFr_2, Hm.x_frzS, Hm.goCel_0, Hm.goCel_1, Hm.goCel_2, Hm.goCel_3, Hm.goCel_4,
    Hm.x_celS, Hm.goV_0, Hm.x_mVar, Hm.x_mK, Hm.goU_0, Hm.goU_1, Hm.goU_2, Hm.x_mUn, Hm.goB2_0, Hm.goB2_1, Hm.goB2_2, Hm.goB_0, Hm.goB_1, Hm.goB_2, Hm.x_mBin, Hm.goT_0, Hm.goT_1, Hm.goT_2, Hm.x_mTst, Hm.goTr2_0, Hm.goTr2_1, Hm.goTr_0,
    Hm.goTr_1, Hm.goTr_2, Hm.x_mTru, Hm.goN_0, Hm.goN_1, Hm.goN_2, Hm.x_mNot, Hm.goAn_0, Hm.goAn_1, Hm.goAn_2, Hm.goAn_3, Hm.goOr_0, Hm.goOr_1, Hm.goOr_2, Hm.goOr_3, Hm.goIe_0, Hm.goIe_1, Hm.goIe_2, Hm.goIe_3, Hm.x_mAnd, Hm.x_mOr,
    Hm.x_mIf, Hm.goNv2_0, Hm.goNv2_1, Hm.goNv_0, Hm.goNv_1, Hm.goNv_2, Hm.x_mNotV, Hm.goOv2_0, Hm.goOv2_1, Hm.goOv2_2, Hm.goOv_0, Hm.goOv_1, Hm.goOv_2, Hm.x_mOrV, Hm.goAv2_0, Hm.goAv2_1, Hm.goAv2_2, Hm.goAv_0, Hm.goAv_1, Hm.goAv_2,
    Hm.x_mAndV, Hm.x_mNil, Hm.goC2_0, Hm.goC2_1, Hm.goC2_2, Hm.goC_0, Hm.goC_1, Hm.goC_2, Hm.x_mCons, Hm.goTp_0, Hm.goTp_1, Hm.goTp_2, Hm.x_mTup, Hm.goLs_0, Hm.goLs_1, Hm.goLs_2, Hm.x_mLst, Hm.x_mNo, Hm.goPt_0, Hm.goPt_1, Hm.goPt_2,
    Hm.x_mPart, Hm.goSl3_0, Hm.goSl3_1, Hm.goSl3_2, Hm.goSl2_0, Hm.goSl2_1, Hm.goSl2_2, Hm.goSl_0, Hm.goSl_1, Hm.goSl_2, Hm.x_mSl, Hm.goCall_0, Hm.goCall_1, Hm.goCall_2, Hm.x_mCall, Hm.goFn_0, Hm.goFn_1, Hm.goFn_2, Hm.x_mF, Hm.goM3_0,
    Hm.goM3_1, Hm.goM3_2, Hm.goM2_0, Hm.goM_0, Hm.goM_1, Hm.goM_2, Hm.x_mM1, Hm.goG2_0, Hm.goG2_1, Hm.goG_0, Hm.goG_1, Hm.goG_2, Hm.x_setG, Hm.x_gN, Hm.x_gNil, Hm.goGs_0, Hm.goGs_1, Hm.x_gCons, Hm.x_gT_tup, Hm.x_gT_lst, Hm.goRs_0,
    Hm.goRs_1, Hm.goRs_2, Hm.x_raiseS, Hm.goW2_0, Hm.goW2_1, Hm.goW_0, Hm.goW_1, Hm.goW_2, Hm.x_mWk, Hm.x_itL, Hm.x_itT, Hm.x_itS, Hm.x_itD, Hm.goMk2_0, Hm.goMk2_1, Hm.goMk_0, Hm.goMk_1, Hm.goMk_2, Hm.x_mMkF, Hm.goRun_0, Hm.goRun_1,
    Hm.goRun_2, Hm.goRun_3, Hm.goRun_4, Hm.goRun_5, Hm.x_runB, Hm.goCh3_0, Hm.goCh3_1, Hm.goCh2_0, Hm.goCh2_1, Hm.goCh2_2, Hm.goCh_0, Hm.goCh_1, Hm.goCh_2, Hm.x_mCh, Hm.goIx_0, Hm.goIx_1, Hm.x_ixl, Hm.x_ixt, Hm.goFor_0, Hm.goFor_1,
    Hm.goFor_2, Hm.x_forS, Hm.goL2_0, Hm.goL2_1, Hm.goL2_2, Hm.goL2_3, Hm.goL2_4, Hm.goL2_5, Hm.goL_0, Hm.goL_1, Hm.x_loopN, Hm.x_loopC, Hm.goR1_0, Hm.goR1_1, Hm.goR1_2, Hm.x_mR1, Hm.goTy_0, Hm.goTy_1, Hm.goTy_2, Hm.goTy_3, Hm.goTy_4,
    Hm.goTy_5, Hm.x_tryS, Hm.goFl_0, Hm.goFl_1, Hm.x_fldH, Hm.x_wipenx, Hm.x_wipert, Hm.x_wipebk, Hm.x_wipect, Hm.x_fzv, Hm.x_fzl, Hm.x_fzd, Hm.x_fine, Hm.x_isNn, Hm.x_isNi, Hm.x_isNs, Hm.x_isNb, Hm.x_isNt, Hm.x_isNl, Hm.x_isNd,
    Hm.x_swD, Hm.x_ewD, slots0, List.map_cons, List.map_nil, List.length_cons, List.length_nil, Nat.reduceSub, Nat.reduceAdd, List.replicate_succ, List.replicate_zero, List.cons_append, List.nil_append, List.append_nil,
    List.getElem?_cons_zero, List.getElem?_cons_succ, List.set_cons_zero, List.set_cons_succ, Bool.false_eq_true, if_true, if_false, ite_true, ite_false, reduceIte, Bool.not_true, Bool.not_false, decide_true, decide_false, Hm.vw_int,
    Hm.vw_str, Hm.vw_bl, Hm.vw_non, Hm.vw_lst, Hm.vw_tup, Hm.vw_dct, Hm.eq_ii, Hm.ne_ii, Hm.eq_bb, Hm.ne_bb, Hm.ln_lst, Hm.ln_tup, Hm.sl_lst, Hm.sl_tup, Hm.ad_ii, Hm.sb_ii, Hm.le_ii, Hm.lt_ii, Hm.gt_ii, Hm.ge_ii, Hm.ng_i, Hm.is_n,
    Hm.nis_n, Hm.tr_bl, Hm.tr_non, Hm.tr_int, Hm.tr_lst, Hm.tr_tup, Hm.tr_dct, Hm.tp_lst, Hm.tp_tup, Hm.in_bl, Hm.at_0, Hm.at_1, Hm.at_2, Hm.at_3, Hm.at_4, Hm.gst_lst, Hm.gst_tup, Hm.sm_0, Hm.sm_1, Hm.sm_2, Hm.sm_3, Hm.sm_4, Hm.sm_5,
    Hm.sm_6, Hm.sm_7, Hm.sm_8, Hm.sm_9, Hm.sm_10, Hm.sm_11, Hm.sm_12, Hm.sm_13, Hm.sm_14, Hm.sm_15, Hm.sm_16, true_and, and_true, Nat.zero_le, Nat.reduceLeDiff, Nat.reduceEqDiff, Nat.reduceLT, List.length_map,
    F_number_in, m_number_in, N_number_in, st, sl, f2]
    · rw [e] at f2 ⊢
      by_cases z : i = 0
      · have d : decide (i = 0) = true := decide_eq_true z
        simp only [Hm.goS_0, Hm.goS_1, Hm.goS_2, Hm.goS_3, Hm.goS_4, Hm.goS_5, Hm.x_seqS, Hm.goSet_0, Hm.goSet_1, Hm.goSet_2, Hm.x_setS, Hm.goRet_0, Hm.goRet_1, Hm.goRet_2, Hm.x_retS, Hm.goEx_0, Hm.goEx_1, Hm.goEx_2, Hm.x_exprS, Hm.goIf_0, Hm.goIf_1,
    Hm.goIf_2, Hm.goIf_3, Hm.x_ifS, Hm.x_nextS, Hm.x_neverS, Hm.x_retNS, Hm.x_contS, Hm.x_breakS, Hm.goRv_0, Hm.x_retVarS, Hm.goFr_0, Hm.goFr_1, Hm.goFr_2, Hm.x_frzS, Hm.goCel_0, Hm.goCel_1, Hm.goCel_2, Hm.goCel_3, Hm.goCel_4,
    Hm.x_celS, Hm.goV_0, Hm.x_mVar, Hm.x_mK, Hm.goU_0, Hm.goU_1, Hm.goU_2, Hm.x_mUn, Hm.goB2_0, Hm.goB2_1, Hm.goB2_2, Hm.goB_0, Hm.goB_1, Hm.goB_2, Hm.x_mBin, Hm.goT_0, Hm.goT_1, Hm.goT_2, Hm.x_mTst, Hm.goTr2_0, Hm.goTr2_1, Hm.goTr_0,
    Hm.goTr_1, Hm.goTr_2, Hm.x_mTru, Hm.goN_0, Hm.goN_1, Hm.goN_2, Hm.x_mNot, Hm.goAn_0, Hm.goAn_1, Hm.goAn_2, Hm.goAn_3, Hm.goOr_0, Hm.goOr_1, Hm.goOr_2, Hm.goOr_3, Hm.goIe_0, Hm.goIe_1, Hm.goIe_2, Hm.goIe_3, Hm.x_mAnd, Hm.x_mOr,
    Hm.x_mIf, Hm.goNv2_0, Hm.goNv2_1, Hm.goNv_0, Hm.goNv_1, Hm.goNv_2, Hm.x_mNotV, Hm.goOv2_0, Hm.goOv2_1, Hm.goOv2_2, Hm.goOv_0, Hm.goOv_1, Hm.goOv_2, Hm.x_mOrV, Hm.goAv2_0, Hm.goAv2_1, Hm.goAv2_2, Hm.goAv_0, Hm.goAv_1, Hm.goAv_2,
    Hm.x_mAndV, Hm.x_mNil, Hm.goC2_0, Hm.goC2_1, Hm.goC2_2, Hm.goC_0, Hm.goC_1, Hm.goC_2, Hm.x_mCons, Hm.goTp_0, Hm.goTp_1, Hm.goTp_2, Hm.x_mTup, Hm.goLs_0, Hm.goLs_1, Hm.goLs_2, Hm.x_mLst, Hm.x_mNo, Hm.goPt_0, Hm.goPt_1, Hm.goPt_2,
    Hm.x_mPart, Hm.goSl3_0, Hm.goSl3_1, Hm.goSl3_2, Hm.goSl2_0, Hm.goSl2_1, Hm.goSl2_2, Hm.goSl_0, Hm.goSl_1, Hm.goSl_2, Hm.x_mSl, Hm.goCall_0, Hm.goCall_1, Hm.goCall_2, Hm.x_mCall, Hm.goFn_0, Hm.goFn_1, Hm.goFn_2, Hm.x_mF, Hm.goM3_0,
    Hm.goM3_1, Hm.goM3_2, Hm.goM2_0, Hm.goM_0, Hm.goM_1, Hm.goM_2, Hm.x_mM1, Hm.goG2_0, Hm.goG2_1, Hm.goG_0, Hm.goG_1, Hm.goG_2, Hm.x_setG, Hm.x_gN, Hm.x_gNil, Hm.goGs_0, Hm.goGs_1, Hm.x_gCons, Hm.x_gT_tup, Hm.x_gT_lst, Hm.goRs_0,
    Hm.goRs_1, Hm.goRs_2, Hm.x_raiseS, Hm.goW2_0, Hm.goW2_1, Hm.goW_0, Hm.goW_1, Hm.goW_2, Hm.x_mWk, Hm.x_itL, Hm.x_itT, Hm.x_itS, Hm.x_itD, Hm.goMk2_0, Hm.goMk2_1, Hm.goMk_0, Hm.goMk_1, Hm.goMk_2, Hm.x_mMkF, Hm.goRun_0, Hm.goRun_1,
    Hm.goRun_2, Hm.goRun_3, Hm.goRun_4, Hm.goRun_5, Hm.x_runB, Hm.goCh3_0, Hm.goCh3_1, Hm.goCh2_0, Hm.goCh2_1, Hm.goCh2_2, Hm.goCh_0, Hm.goCh_1, Hm.goCh_2, Hm.x_mCh, Hm.goIx_0, Hm.goIx_1, Hm.x_ixl, Hm.x_ixt, Hm.goFor_0, Hm.goFor_1,
    Hm.goFor_2, Hm.x_forS, Hm.goL2_0, Hm.goL2_1, Hm.goL2_2, Hm.goL2_3, Hm.goL2_4, Hm.goL2_5, Hm.goL_0, Hm.goL_1, Hm.x_loopN, Hm.x_loopC, Hm.goR1_0, Hm.goR1_1, Hm.goR1_2, Hm.x_mR1, Hm.goTy_0, Hm.goTy_1, Hm.goTy_2, Hm.goTy_3, Hm.goTy_4,
    Hm.goTy_5, Hm.x_tryS, Hm.goFl_0, Hm.goFl_1, Hm.x_fldH, Hm.x_wipenx, Hm.x_wipert, Hm.x_wipebk, Hm.x_wipect, Hm.x_fzv, Hm.x_fzl, Hm.x_fzd, Hm.x_fine, Hm.x_isNn, Hm.x_isNi, Hm.x_isNs, Hm.x_isNb, Hm.x_isNt, Hm.x_isNl, Hm.x_isNd,
    Hm.x_swD, Hm.x_ewD, slots0, List.map_cons, List.map_nil, List.length_cons, List.length_nil, Nat.reduceSub, Nat.reduceAdd, List.replicate_succ, List.replicate_zero, List.cons_append, List.nil_append, List.append_nil,
    List.getElem?_cons_zero, List.getElem?_cons_succ, List.set_cons_zero, List.set_cons_succ, Bool.false_eq_true, if_true, if_false, ite_true, ite_false, reduceIte, Bool.not_true, Bool.not_false, decide_true, decide_false, Hm.vw_int,
    Hm.vw_str, Hm.vw_bl, Hm.vw_non, Hm.vw_lst, Hm.vw_tup, Hm.vw_dct, Hm.eq_ii, Hm.ne_ii, Hm.eq_bb, Hm.ne_bb, Hm.ln_lst, Hm.ln_tup, Hm.sl_lst, Hm.sl_tup, Hm.ad_ii, Hm.sb_ii, Hm.le_ii, Hm.lt_ii, Hm.gt_ii, Hm.ge_ii, Hm.ng_i, Hm.is_n,
    Hm.nis_n, Hm.tr_bl, Hm.tr_non, Hm.tr_int, Hm.tr_lst, Hm.tr_tup, Hm.tr_dct, Hm.tp_lst, Hm.tp_tup, Hm.in_bl, Hm.at_0, Hm.at_1, Hm.at_2, Hm.at_3, Hm.at_4, Hm.gst_lst, Hm.gst_tup, Hm.sm_0, Hm.sm_1, Hm.sm_2, Hm.sm_3, Hm.sm_4, Hm.sm_5,
    Hm.sm_6, Hm.sm_7, Hm.sm_8, Hm.sm_9, Hm.sm_10, Hm.sm_11, Hm.sm_12, Hm.sm_13, Hm.sm_14, Hm.sm_15, Hm.sm_16, true_and, and_true, Nat.zero_le, Nat.reduceLeDiff, Nat.reduceEqDiff, Nat.reduceLT, List.length_map,
    F_number_in, m_number_in, N_number_in, st, sl, f2, d, z]
      · have d : decide (i = 0) = false := decide_eq_false z
        simp only [Hm.goS_0, Hm.goS_1, Hm.goS_2, Hm.goS_3, Hm.goS_4, Hm.goS_5, Hm.x_seqS, Hm.goSet_0, Hm.goSet_1, Hm.goSet_2, Hm.x_setS, Hm.goRet_0, Hm.goRet_1, Hm.goRet_2, Hm.x_retS, Hm.goEx_0, Hm.goEx_1, Hm.goEx_2, Hm.x_exprS, Hm.goIf_0, Hm.goIf_1,
    Hm.goIf_2, Hm.goIf_3, Hm.x_ifS, Hm.x_nextS, Hm.x_neverS, Hm.x_retNS, Hm.x_contS, Hm.x_breakS, Hm.goRv_0, Hm.x_retVarS, Hm.goFr_0, Hm.goFr_1, Hm.goFr_2, Hm.x_frzS, Hm.goCel_0, Hm.goCel_1, Hm.goCel_2, Hm.goCel_3, Hm.goCel_4,
    Hm.x_celS, Hm.goV_0, Hm.x_mVar, Hm.x_mK, Hm.goU_0, Hm.goU_1, Hm.goU_2, Hm.x_mUn, Hm.goB2_0, Hm.goB2_1, Hm.goB2_2, Hm.goB_0, Hm.goB_1, Hm.goB_2, Hm.x_mBin, Hm.goT_0, Hm.goT_1, Hm.goT_2, Hm.x_mTst, Hm.goTr2_0, Hm.goTr2_1, Hm.goTr_0,
    Hm.goTr_1, Hm.goTr_2, Hm.x_mTru, Hm.goN_0, Hm.goN_1, Hm.goN_2, Hm.x_mNot, Hm.goAn_0, Hm.goAn_1, Hm.goAn_2, Hm.goAn_3, Hm.goOr_0, Hm.goOr_1, Hm.goOr_2, Hm.goOr_3, Hm.goIe_0, Hm.goIe_1, Hm.goIe_2, Hm.goIe_3, Hm.x_mAnd, Hm.x_mOr,
    Hm.x_mIf, Hm.goNv2_0, Hm.goNv2_1, Hm.goNv_0, Hm.goNv_1, Hm.goNv_2, Hm.x_mNotV, Hm.goOv2_0, Hm.goOv2_1, Hm.goOv2_2, Hm.goOv_0, Hm.goOv_1, Hm.goOv_2, Hm.x_mOrV, Hm.goAv2_0, Hm.goAv2_1, Hm.goAv2_2, Hm.goAv_0, Hm.goAv_1, Hm.goAv_2,
    Hm.x_mAndV, Hm.x_mNil, Hm.goC2_0, Hm.goC2_1, Hm.goC2_2, Hm.goC_0, Hm.goC_1, Hm.goC_2, Hm.x_mCons, Hm.goTp_0, Hm.goTp_1, Hm.goTp_2, Hm.x_mTup, Hm.goLs_0, Hm.goLs_1, Hm.goLs_2, Hm.x_mLst, Hm.x_mNo, Hm.goPt_0, Hm.goPt_1, Hm.goPt_2,
    Hm.x_mPart, Hm.goSl3_0, Hm.goSl3_1, Hm.goSl3_2, Hm.goSl2_0, Hm.goSl2_1, Hm.goSl2_2, Hm.goSl_0, Hm.goSl_1, Hm.goSl_2, Hm.x_mSl, Hm.goCall_0, Hm.goCall_1, Hm.goCall_2, Hm.x_mCall, Hm.goFn_0, Hm.goFn_1, Hm.goFn_2, Hm.x_mF, Hm.goM3_0,
    Hm.goM3_1, Hm.goM3_2, Hm.goM2_0, Hm.goM_0, Hm.goM_1, Hm.goM_2, Hm.x_mM1, Hm.goG2_0, Hm.goG2_1, Hm.goG_0, Hm.goG_1, Hm.goG_2, Hm.x_setG, Hm.x_gN, Hm.x_gNil, Hm.goGs_0, Hm.goGs_1, Hm.x_gCons, Hm.x_gT_tup, Hm.x_gT_lst, Hm.goRs_0,
    Hm.goRs_1, Hm.goRs_2, Hm.x_raiseS, Hm.goW2_0, Hm.goW2_1, Hm.goW_0, Hm.goW_1, Hm.goW_2, Hm.x_mWk, Hm.x_itL, Hm.x_itT, Hm.x_itS, Hm.x_itD, Hm.goMk2_0, Hm.goMk2_1, Hm.goMk_0, Hm.goMk_1, Hm.goMk_2, Hm.x_mMkF, Hm.goRun_0, Hm.goRun_1,
    Hm.goRun_2, Hm.goRun_3, Hm.goRun_4, Hm.goRun_5, Hm.x_runB, Hm.goCh3_0, Hm.goCh3_1, Hm.goCh2_0, Hm.goCh2_1, Hm.goCh2_2, Hm.goCh_0, Hm.goCh_1, Hm.goCh_2, Hm.x_mCh, Hm.goIx_0, Hm.goIx_1, Hm.x_ixl, Hm.x_ixt, Hm.goFor_0, Hm.goFor_1,
    Hm.goFor_2, Hm.x_forS, Hm.goL2_0, Hm.goL2_1, Hm.goL2_2, Hm.goL2_3, Hm.goL2_4, Hm.goL2_5, Hm.goL_0, Hm.goL_1, Hm.x_loopN, Hm.x_loopC, Hm.goR1_0, Hm.goR1_1, Hm.goR1_2, Hm.x_mR1, Hm.goTy_0, Hm.goTy_1, Hm.goTy_2, Hm.goTy_3, Hm.goTy_4,
    Hm.goTy_5, Hm.x_tryS, Hm.goFl_0, Hm.goFl_1, Hm.x_fldH, Hm.x_wipenx, Hm.x_wipert, Hm.x_wipebk, Hm.x_wipect, Hm.x_fzv, Hm.x_fzl, Hm.x_fzd, Hm.x_fine, Hm.x_isNn, Hm.x_isNi, Hm.x_isNs, Hm.x_isNb, Hm.x_isNt, Hm.x_isNl, Hm.x_isNd,
    Hm.x_swD, Hm.x_ewD, slots0, List.map_cons, List.map_nil, List.length_cons, List.length_nil, Nat.reduceSub, Nat.reduceAdd, List.replicate_succ, List.replicate_zero, List.cons_append, List.nil_append, List.append_nil,
    List.getElem?_cons_zero, List.getElem?_cons_succ, List.set_cons_zero, List.set_cons_succ, Bool.false_eq_true, if_true, if_false, ite_true, ite_false, reduceIte, Bool.not_true, Bool.not_false, decide_true, decide_false, Hm.vw_int,
    Hm.vw_str, Hm.vw_bl, Hm.vw_non, Hm.vw_lst, Hm.vw_tup, Hm.vw_dct, Hm.eq_ii, Hm.ne_ii, Hm.eq_bb, Hm.ne_bb, Hm.ln_lst, Hm.ln_tup, Hm.sl_lst, Hm.sl_tup, Hm.ad_ii, Hm.sb_ii, Hm.le_ii, Hm.lt_ii, Hm.gt_ii, Hm.ge_ii, Hm.ng_i, Hm.is_n,
    Hm.nis_n, Hm.tr_bl, Hm.tr_non, Hm.tr_int, Hm.tr_lst, Hm.tr_tup, Hm.tr_dct, Hm.tp_lst, Hm.tp_tup, Hm.in_bl, Hm.at_0, Hm.at_1, Hm.at_2, Hm.at_3, Hm.at_4, Hm.gst_lst, Hm.gst_tup, Hm.sm_0, Hm.sm_1, Hm.sm_2, Hm.sm_3, Hm.sm_4, Hm.sm_5,
    Hm.sm_6, Hm.sm_7, Hm.sm_8, Hm.sm_9, Hm.sm_10, Hm.sm_11, Hm.sm_12, Hm.sm_13, Hm.sm_14, Hm.sm_15, Hm.sm_16, true_and, and_true, Nat.zero_le, Nat.reduceLeDiff, Nat.reduceEqDiff, Nat.reduceLT, List.length_map,
    F_number_in, m_number_in, N_number_in, st, sl, f2, d, z]
  · rw [if_neg h]
    rw [decide_eq_false h] at st
    simp only [Hm.goS_0, Hm.goS_1, Hm.goS_2, Hm.goS_3, Hm.goS_4, Hm.goS_5, Hm.x_seqS, Hm.goSet_0, Hm.goSet_1, Hm.goSet_2, Hm.x_setS, Hm.goRet_0, Hm.goRet_1, Hm.goRet_2, Hm.x_retS, Hm.goEx_0, Hm.goEx_1, Hm.goEx_2, Hm.x_exprS, Hm.goIf_0, Hm.goIf_1,
    Hm.goIf_2, Hm.goIf_3, Hm.x_ifS, Hm.x_nextS, Hm.x_neverS, Hm.x_retNS, Hm.x_contS, Hm.x_breakS, Hm.goRv_0, Hm.x_retVarS, Hm.goFr_0, Hm.goFr_1, Hm.goFr_2, Hm.x_frzS, Hm.goCel_0, Hm.goCel_1, Hm.goCel_2, Hm.goCel_3, Hm.goCel_4,
    Hm.x_celS, Hm.goV_0, Hm.x_mVar, Hm.x_mK, Hm.goU_0, Hm.goU_1, Hm.goU_2, Hm.x_mUn, Hm.goB2_0, Hm.goB2_1, Hm.goB2_2, Hm.goB_0, Hm.goB_1, Hm.goB_2, Hm.x_mBin, Hm.goT_0, Hm.goT_1, Hm.goT_2, Hm.x_mTst, Hm.goTr2_0, Hm.goTr2_1, Hm.goTr_0,
    Hm.goTr_1, Hm.goTr_2, Hm.x_mTru, Hm.goN_0, Hm.goN_1, Hm.goN_2, Hm.x_mNot, Hm.goAn_0, Hm.goAn_1, Hm.goAn_2, Hm.goAn_3, Hm.goOr_0, Hm.goOr_1, Hm.goOr_2, Hm.goOr_3, Hm.goIe_0, Hm.goIe_1, Hm.goIe_2, Hm.goIe_3, Hm.x_mAnd, Hm.x_mOr,
    Hm.x_mIf, Hm.goNv2_0, Hm.goNv2_1, Hm.goNv_0, Hm.goNv_1, Hm.goNv_2, Hm.x_mNotV, Hm.goOv2_0, Hm.goOv2_1, Hm.goOv2_2, Hm.goOv_0, Hm.goOv_1, Hm.goOv_2, Hm.x_mOrV, Hm.goAv2_0, Hm.goAv2_1, Hm.goAv2_2, Hm.goAv_0, Hm.goAv_1, Hm.goAv_2,
    Hm.x_mAndV, Hm.x_mNil, Hm.goC2_0, Hm.goC2_1, Hm.goC2_2, Hm.goC_0, Hm.goC_1, Hm.goC_2, Hm.x_mCons, Hm.goTp_0, Hm.goTp_1, Hm.goTp_2, Hm.x_mTup, Hm.goLs_0, Hm.goLs_1, Hm.goLs_2, Hm.x_mLst, Hm.x_mNo, Hm.goPt_0, Hm.goPt_1, Hm.goPt_2,
    Hm.x_mPart, Hm.goSl3_0, Hm.goSl3_1, Hm.goSl3_2, Hm.goSl2_0, Hm.goSl2_1, Hm.goSl2_2, Hm.goSl_0, Hm.goSl_1, Hm.goSl_2, Hm.x_mSl, Hm.goCall_0, Hm.goCall_1, Hm.goCall_2, Hm.x_mCall, Hm.goFn_0, Hm.goFn_1, Hm.goFn_2, Hm.x_mF, Hm.goM3_0,
    Hm.goM3_1, Hm.goM3_2, Hm.goM2_0, Hm.goM_0, Hm.goM_1, Hm.goM_2, Hm.x_mM1, Hm.goG2_0, Hm.goG2_1, Hm.goG_0, Hm.goG_1, Hm.goG_2, Hm.x_setG, Hm.x_gN, Hm.x_gNil, Hm.goGs_0, Hm.goGs_1, Hm.x_gCons, Hm.x_gT_tup, Hm.x_gT_lst, Hm.goRs_0,
    Hm.goRs_1, Hm.goRs_2, Hm.x_raiseS, Hm.goW2_0, Hm.goW2_1, Hm.goW_0, Hm.goW_1, Hm.goW_2, Hm.x_mWk, Hm.x_itL, Hm.x_itT, Hm.x_itS, Hm.x_itD, Hm.goMk2_0, Hm.goMk2_1, Hm.goMk_0, Hm.goMk_1, Hm.goMk_2, Hm.x_mMkF, Hm.goRun_0, Hm.goRun_1,
    Hm.goRun_2, Hm.goRun_3, Hm.goRun_4, Hm.goRun_5, Hm.x_runB, Hm.goCh3_0, Hm.goCh3_1, Hm.goCh2_0, Hm.goCh2_1, Hm.goCh2_2, Hm.goCh_0, Hm.goCh_1, Hm.goCh_2, Hm.x_mCh, Hm.goIx_0, Hm.goIx_1, Hm.x_ixl, Hm.x_ixt, Hm.goFor_0, Hm.goFor_1,
    Hm.goFor_2, Hm.x_forS, Hm.goL2_0, Hm.goL2_1, Hm.goL2_2, Hm.goL2_3, Hm.goL2_4, Hm.goL2_5, Hm.goL_0, Hm.goL_1, Hm.x_loopN, Hm.x_loopC, Hm.goR1_0, Hm.goR1_1, Hm.goR1_2, Hm.x_mR1, Hm.goTy_0, Hm.goTy_1, Hm.goTy_2, Hm.goTy_3, Hm.goTy_4,
    Hm.goTy_5, Hm.x_tryS, Hm.goFl_0, Hm.goFl_1, Hm.x_fldH, Hm.x_wipenx, Hm.x_wipert, Hm.x_wipebk, Hm.x_wipect, Hm.x_fzv, Hm.x_fzl, Hm.x_fzd, Hm.x_fine, Hm.x_isNn, Hm.x_isNi, Hm.x_isNs, Hm.x_isNb, Hm.x_isNt, Hm.x_isNl, Hm.x_isNd,
    Hm.x_swD, Hm.x_ewD, slots0, List.map_cons, List.map_nil, List.length_cons, List.length_nil, Nat.reduceSub, Nat.reduceAdd, List.replicate_succ, List.replicate_zero, List.cons_append, List.nil_append, List.append_nil,
    List.getElem?_cons_zero, List.getElem?_cons_succ, List.set_cons_zero, List.set_cons_succ, Bool.false_eq_true, if_true, if_false, ite_true, ite_false, reduceIte, Bool.not_true, Bool.not_false, decide_true, decide_false, Hm.vw_int,
    Hm.vw_str, Hm.vw_bl, Hm.vw_non, Hm.vw_lst, Hm.vw_tup, Hm.vw_dct, Hm.eq_ii, Hm.ne_ii, Hm.eq_bb, Hm.ne_bb, Hm.ln_lst, Hm.ln_tup, Hm.sl_lst, Hm.sl_tup, Hm.ad_ii, Hm.sb_ii, Hm.le_ii, Hm.lt_ii, Hm.gt_ii, Hm.ge_ii, Hm.ng_i, Hm.is_n,
    Hm.nis_n, Hm.tr_bl, Hm.tr_non, Hm.tr_int, Hm.tr_lst, Hm.tr_tup, Hm.tr_dct, Hm.tp_lst, Hm.tp_tup, Hm.in_bl, Hm.at_0, Hm.at_1, Hm.at_2, Hm.at_3, Hm.at_4, Hm.gst_lst, Hm.gst_tup, Hm.sm_0, Hm.sm_1, Hm.sm_2, Hm.sm_3, Hm.sm_4, Hm.sm_5,
    Hm.sm_6, Hm.sm_7, Hm.sm_8, Hm.sm_9, Hm.sm_10, Hm.sm_11, Hm.sm_12, Hm.sm_13, Hm.sm_14, Hm.sm_15, Hm.sm_16, true_and, and_true, Nat.zero_le, Nat.reduceLeDiff, Nat.reduceEqDiff, Nat.reduceLT, List.length_map,
    F_number_in, m_number_in, N_number_in, st, f1]
theorem lnum_ev {x : Str} {S : Store} (hs : Sh 900 x) : F__law_number_in [.str x] S = .ok (.val (numD x)) S := by
  have f1 : F__law_figures [.str x] S = _ := figs_ev (S := S) hs (by omega)
  have f2 : F__law_figures [.str (cutS x (some 1) none)] S = .ok (.val (figD (tailS x))) S := figs_ev (cut_sh hs) (by omega)
  have sl := Hm.sl_str (s := x) (S := S) (lo := some 1) (hi := none) (by have := hs.le; omega)
  have s2 := Hm.sl_str (s := x) (S := S) (lo := none) (hi := some 1) (by have := hs.le; omega)
  have q := Hm.ne_ss (S := S) (cut_sh (lo := none) (hi := some 1) hs).ok min_ok
  have st : decide (cutS x none (some 1) = "-") = decide ((Ls x).head? = some 45) := cut1_iff
  rw [st] at q
  unfold numD
  by_cases h : (Ls x).head? = some 45
  · rw [if_pos h]
    rw [decide_eq_true h] at q
    rcases fig_cases (tailS x) with e | ⟨i, e, _⟩
    · rw [e] at f2 ⊢
      simp only [Hm.goS_0, Hm.goS_1, Hm.goS_2, Hm.goS_3, Hm.goS_4, Hm.goS_5, Hm.x_seqS, Hm.goSet_0, Hm.goSet_1, Hm.goSet_2, Hm.x_setS, Hm.goRet_0, Hm.goRet_1, Hm.goRet_2, Hm.x_retS, Hm.goEx_0, Hm.goEx_1, Hm.goEx_2, Hm.x_exprS, Hm.goIf_0, Hm.goIf_1,
    Hm.goIf_2, Hm.goIf_3, Hm.x_ifS, Hm.x_nextS, Hm.x_neverS, Hm.x_retNS, Hm.x_contS, Hm.x_breakS, Hm.goRv_0, Hm.x_retVarS, Hm.goFr_0, Hm.goFr_1, Hm.goFr_2, Hm.x_frzS, Hm.goCel_0, Hm.goCel_1, Hm.goCel_2, Hm.goCel_3, Hm.goCel_4,
    Hm.x_celS, Hm.goV_0, Hm.x_mVar, Hm.x_mK, Hm.goU_0, Hm.goU_1, Hm.goU_2, Hm.x_mUn, Hm.goB2_0, Hm.goB2_1, Hm.goB2_2, Hm.goB_0, Hm.goB_1, Hm.goB_2, Hm.x_mBin, Hm.goT_0, Hm.goT_1, Hm.goT_2, Hm.x_mTst, Hm.goTr2_0, Hm.goTr2_1, Hm.goTr_0,
    Hm.goTr_1, Hm.goTr_2, Hm.x_mTru, Hm.goN_0, Hm.goN_1, Hm.goN_2, Hm.x_mNot, Hm.goAn_0, Hm.goAn_1, Hm.goAn_2, Hm.goAn_3, Hm.goOr_0, Hm.goOr_1, Hm.goOr_2, Hm.goOr_3, Hm.goIe_0, Hm.goIe_1, Hm.goIe_2, Hm.goIe_3, Hm.x_mAnd, Hm.x_mOr,
    Hm.x_mIf, Hm.goNv2_0, Hm.goNv2_1, Hm.goNv_0, Hm.goNv_1, Hm.goNv_2, Hm.x_mNotV, Hm.goOv2_0, Hm.goOv2_1, Hm.goOv2_2, Hm.goOv_0, Hm.goOv_1, Hm.goOv_2, Hm.x_mOrV, Hm.goAv2_0, Hm.goAv2_1, Hm.goAv2_2, Hm.goAv_0, Hm.goAv_1, Hm.goAv_2,
    Hm.x_mAndV, Hm.x_mNil, Hm.goC2_0, Hm.goC2_1, Hm.goC2_2, Hm.goC_0, Hm.goC_1, Hm.goC_2, Hm.x_mCons, Hm.goTp_0, Hm.goTp_1, Hm.goTp_2, Hm.x_mTup, Hm.goLs_0, Hm.goLs_1, Hm.goLs_2, Hm.x_mLst, Hm.x_mNo, Hm.goPt_0, Hm.goPt_1, Hm.goPt_2,
    Hm.x_mPart, Hm.goSl3_0, Hm.goSl3_1, Hm.goSl3_2, Hm.goSl2_0, Hm.goSl2_1, Hm.goSl2_2, Hm.goSl_0, Hm.goSl_1, Hm.goSl_2, Hm.x_mSl, Hm.goCall_0, Hm.goCall_1, Hm.goCall_2, Hm.x_mCall, Hm.goFn_0, Hm.goFn_1, Hm.goFn_2, Hm.x_mF, Hm.goM3_0,
    Hm.goM3_1, Hm.goM3_2, Hm.goM2_0, Hm.goM_0, Hm.goM_1, Hm.goM_2, Hm.x_mM1, Hm.goG2_0, Hm.goG2_1, Hm.goG_0, Hm.goG_1, Hm.goG_2, Hm.x_setG, Hm.x_gN, Hm.x_gNil, Hm.goGs_0, Hm.goGs_1, Hm.x_gCons, Hm.x_gT_tup, Hm.x_gT_lst, Hm.goRs_0,
    Hm.goRs_1, Hm.goRs_2, Hm.x_raiseS, Hm.goW2_0, Hm.goW2_1, Hm.goW_0, Hm.goW_1, Hm.goW_2, Hm.x_mWk, Hm.x_itL, Hm.x_itT, Hm.x_itS, Hm.x_itD, Hm.goMk2_0, Hm.goMk2_1, Hm.goMk_0, Hm.goMk_1, Hm.goMk_2, Hm.x_mMkF, Hm.goRun_0, Hm.goRun_1,
    Hm.goRun_2, Hm.goRun_3, Hm.goRun_4, Hm.goRun_5, Hm.x_runB, Hm.goCh3_0, Hm.goCh3_1, Hm.goCh2_0, Hm.goCh2_1, Hm.goCh2_2, Hm.goCh_0, Hm.goCh_1, Hm.goCh_2, Hm.x_mCh, Hm.goIx_0, Hm.goIx_1, Hm.x_ixl, Hm.x_ixt, Hm.goFor_0, Hm.goFor_1,
    Hm.goFor_2, Hm.x_forS, Hm.goL2_0, Hm.goL2_1, Hm.goL2_2, Hm.goL2_3, Hm.goL2_4, Hm.goL2_5, Hm.goL_0, Hm.goL_1, Hm.x_loopN, Hm.x_loopC, Hm.goR1_0, Hm.goR1_1, Hm.goR1_2, Hm.x_mR1, Hm.goTy_0, Hm.goTy_1, Hm.goTy_2, Hm.goTy_3, Hm.goTy_4,
    Hm.goTy_5, Hm.x_tryS, Hm.goFl_0, Hm.goFl_1, Hm.x_fldH, Hm.x_wipenx, Hm.x_wipert, Hm.x_wipebk, Hm.x_wipect, Hm.x_fzv, Hm.x_fzl, Hm.x_fzd, Hm.x_fine, Hm.x_isNn, Hm.x_isNi, Hm.x_isNs, Hm.x_isNb, Hm.x_isNt, Hm.x_isNl, Hm.x_isNd,
    Hm.x_swD, Hm.x_ewD, slots0, List.map_cons, List.map_nil, List.length_cons, List.length_nil, Nat.reduceSub, Nat.reduceAdd, List.replicate_succ, List.replicate_zero, List.cons_append, List.nil_append, List.append_nil,
    List.getElem?_cons_zero, List.getElem?_cons_succ, List.set_cons_zero, List.set_cons_succ, Bool.false_eq_true, if_true, if_false, ite_true, ite_false, reduceIte, Bool.not_true, Bool.not_false, decide_true, decide_false, Hm.vw_int,
    Hm.vw_str, Hm.vw_bl, Hm.vw_non, Hm.vw_lst, Hm.vw_tup, Hm.vw_dct, Hm.eq_ii, Hm.ne_ii, Hm.eq_bb, Hm.ne_bb, Hm.ln_lst, Hm.ln_tup, Hm.sl_lst, Hm.sl_tup, Hm.ad_ii, Hm.sb_ii, Hm.le_ii, Hm.lt_ii, Hm.gt_ii, Hm.ge_ii, Hm.ng_i, Hm.is_n,
    Hm.nis_n, Hm.tr_bl, Hm.tr_non, Hm.tr_int, Hm.tr_lst, Hm.tr_tup, Hm.tr_dct, Hm.tp_lst, Hm.tp_tup, Hm.in_bl, Hm.at_0, Hm.at_1, Hm.at_2, Hm.at_3, Hm.at_4, Hm.gst_lst, Hm.gst_tup, Hm.sm_0, Hm.sm_1, Hm.sm_2, Hm.sm_3, Hm.sm_4, Hm.sm_5,
    Hm.sm_6, Hm.sm_7, Hm.sm_8, Hm.sm_9, Hm.sm_10, Hm.sm_11, Hm.sm_12, Hm.sm_13, Hm.sm_14, Hm.sm_15, Hm.sm_16, true_and, and_true, Nat.zero_le, Nat.reduceLeDiff, Nat.reduceEqDiff, Nat.reduceLT, List.length_map,
    F__law_number_in, m__law_number_in, N__law_number_in, s2, q, sl, f2]
    · rw [e] at f2 ⊢
      by_cases z : i = 0
      · have d : decide (i = 0) = true := decide_eq_true z
        simp only [Hm.goS_0, Hm.goS_1, Hm.goS_2, Hm.goS_3, Hm.goS_4, Hm.goS_5, Hm.x_seqS, Hm.goSet_0, Hm.goSet_1, Hm.goSet_2, Hm.x_setS, Hm.goRet_0, Hm.goRet_1, Hm.goRet_2, Hm.x_retS, Hm.goEx_0, Hm.goEx_1, Hm.goEx_2, Hm.x_exprS, Hm.goIf_0, Hm.goIf_1,
    Hm.goIf_2, Hm.goIf_3, Hm.x_ifS, Hm.x_nextS, Hm.x_neverS, Hm.x_retNS, Hm.x_contS, Hm.x_breakS, Hm.goRv_0, Hm.x_retVarS, Hm.goFr_0, Hm.goFr_1, Hm.goFr_2, Hm.x_frzS, Hm.goCel_0, Hm.goCel_1, Hm.goCel_2, Hm.goCel_3, Hm.goCel_4,
    Hm.x_celS, Hm.goV_0, Hm.x_mVar, Hm.x_mK, Hm.goU_0, Hm.goU_1, Hm.goU_2, Hm.x_mUn, Hm.goB2_0, Hm.goB2_1, Hm.goB2_2, Hm.goB_0, Hm.goB_1, Hm.goB_2, Hm.x_mBin, Hm.goT_0, Hm.goT_1, Hm.goT_2, Hm.x_mTst, Hm.goTr2_0, Hm.goTr2_1, Hm.goTr_0,
    Hm.goTr_1, Hm.goTr_2, Hm.x_mTru, Hm.goN_0, Hm.goN_1, Hm.goN_2, Hm.x_mNot, Hm.goAn_0, Hm.goAn_1, Hm.goAn_2, Hm.goAn_3, Hm.goOr_0, Hm.goOr_1, Hm.goOr_2, Hm.goOr_3, Hm.goIe_0, Hm.goIe_1, Hm.goIe_2, Hm.goIe_3, Hm.x_mAnd, Hm.x_mOr,
    Hm.x_mIf, Hm.goNv2_0, Hm.goNv2_1, Hm.goNv_0, Hm.goNv_1, Hm.goNv_2, Hm.x_mNotV, Hm.goOv2_0, Hm.goOv2_1, Hm.goOv2_2, Hm.goOv_0, Hm.goOv_1, Hm.goOv_2, Hm.x_mOrV, Hm.goAv2_0, Hm.goAv2_1, Hm.goAv2_2, Hm.goAv_0, Hm.goAv_1, Hm.goAv_2,
    Hm.x_mAndV, Hm.x_mNil, Hm.goC2_0, Hm.goC2_1, Hm.goC2_2, Hm.goC_0, Hm.goC_1, Hm.goC_2, Hm.x_mCons, Hm.goTp_0, Hm.goTp_1, Hm.goTp_2, Hm.x_mTup, Hm.goLs_0, Hm.goLs_1, Hm.goLs_2, Hm.x_mLst, Hm.x_mNo, Hm.goPt_0, Hm.goPt_1, Hm.goPt_2,
    Hm.x_mPart, Hm.goSl3_0, Hm.goSl3_1, Hm.goSl3_2, Hm.goSl2_0, Hm.goSl2_1, Hm.goSl2_2, Hm.goSl_0, Hm.goSl_1, Hm.goSl_2, Hm.x_mSl, Hm.goCall_0, Hm.goCall_1, Hm.goCall_2, Hm.x_mCall, Hm.goFn_0, Hm.goFn_1, Hm.goFn_2, Hm.x_mF, Hm.goM3_0,
    Hm.goM3_1, Hm.goM3_2, Hm.goM2_0, Hm.goM_0, Hm.goM_1, Hm.goM_2, Hm.x_mM1, Hm.goG2_0, Hm.goG2_1, Hm.goG_0, Hm.goG_1, Hm.goG_2, Hm.x_setG, Hm.x_gN, Hm.x_gNil, Hm.goGs_0, Hm.goGs_1, Hm.x_gCons, Hm.x_gT_tup, Hm.x_gT_lst, Hm.goRs_0,
    Hm.goRs_1, Hm.goRs_2, Hm.x_raiseS, Hm.goW2_0, Hm.goW2_1, Hm.goW_0, Hm.goW_1, Hm.goW_2, Hm.x_mWk, Hm.x_itL, Hm.x_itT, Hm.x_itS, Hm.x_itD, Hm.goMk2_0, Hm.goMk2_1, Hm.goMk_0, Hm.goMk_1, Hm.goMk_2, Hm.x_mMkF, Hm.goRun_0, Hm.goRun_1,
    Hm.goRun_2, Hm.goRun_3, Hm.goRun_4, Hm.goRun_5, Hm.x_runB, Hm.goCh3_0, Hm.goCh3_1, Hm.goCh2_0, Hm.goCh2_1, Hm.goCh2_2, Hm.goCh_0, Hm.goCh_1, Hm.goCh_2, Hm.x_mCh, Hm.goIx_0, Hm.goIx_1, Hm.x_ixl, Hm.x_ixt, Hm.goFor_0, Hm.goFor_1,
    Hm.goFor_2, Hm.x_forS, Hm.goL2_0, Hm.goL2_1, Hm.goL2_2, Hm.goL2_3, Hm.goL2_4, Hm.goL2_5, Hm.goL_0, Hm.goL_1, Hm.x_loopN, Hm.x_loopC, Hm.goR1_0, Hm.goR1_1, Hm.goR1_2, Hm.x_mR1, Hm.goTy_0, Hm.goTy_1, Hm.goTy_2, Hm.goTy_3, Hm.goTy_4,
    Hm.goTy_5, Hm.x_tryS, Hm.goFl_0, Hm.goFl_1, Hm.x_fldH, Hm.x_wipenx, Hm.x_wipert, Hm.x_wipebk, Hm.x_wipect, Hm.x_fzv, Hm.x_fzl, Hm.x_fzd, Hm.x_fine, Hm.x_isNn, Hm.x_isNi, Hm.x_isNs, Hm.x_isNb, Hm.x_isNt, Hm.x_isNl, Hm.x_isNd,
    Hm.x_swD, Hm.x_ewD, slots0, List.map_cons, List.map_nil, List.length_cons, List.length_nil, Nat.reduceSub, Nat.reduceAdd, List.replicate_succ, List.replicate_zero, List.cons_append, List.nil_append, List.append_nil,
    List.getElem?_cons_zero, List.getElem?_cons_succ, List.set_cons_zero, List.set_cons_succ, Bool.false_eq_true, if_true, if_false, ite_true, ite_false, reduceIte, Bool.not_true, Bool.not_false, decide_true, decide_false, Hm.vw_int,
    Hm.vw_str, Hm.vw_bl, Hm.vw_non, Hm.vw_lst, Hm.vw_tup, Hm.vw_dct, Hm.eq_ii, Hm.ne_ii, Hm.eq_bb, Hm.ne_bb, Hm.ln_lst, Hm.ln_tup, Hm.sl_lst, Hm.sl_tup, Hm.ad_ii, Hm.sb_ii, Hm.le_ii, Hm.lt_ii, Hm.gt_ii, Hm.ge_ii, Hm.ng_i, Hm.is_n,
    Hm.nis_n, Hm.tr_bl, Hm.tr_non, Hm.tr_int, Hm.tr_lst, Hm.tr_tup, Hm.tr_dct, Hm.tp_lst, Hm.tp_tup, Hm.in_bl, Hm.at_0, Hm.at_1, Hm.at_2, Hm.at_3, Hm.at_4, Hm.gst_lst, Hm.gst_tup, Hm.sm_0, Hm.sm_1, Hm.sm_2, Hm.sm_3, Hm.sm_4, Hm.sm_5,
    Hm.sm_6, Hm.sm_7, Hm.sm_8, Hm.sm_9, Hm.sm_10, Hm.sm_11, Hm.sm_12, Hm.sm_13, Hm.sm_14, Hm.sm_15, Hm.sm_16, true_and, and_true, Nat.zero_le, Nat.reduceLeDiff, Nat.reduceEqDiff, Nat.reduceLT, List.length_map,
    F__law_number_in, m__law_number_in, N__law_number_in, s2, q, sl, f2, d, z]
      · have d : decide (i = 0) = false := decide_eq_false z
        simp only [Hm.goS_0, Hm.goS_1, Hm.goS_2, Hm.goS_3, Hm.goS_4, Hm.goS_5, Hm.x_seqS, Hm.goSet_0, Hm.goSet_1, Hm.goSet_2, Hm.x_setS, Hm.goRet_0, Hm.goRet_1, Hm.goRet_2, Hm.x_retS, Hm.goEx_0, Hm.goEx_1, Hm.goEx_2, Hm.x_exprS, Hm.goIf_0, Hm.goIf_1,
    Hm.goIf_2, Hm.goIf_3, Hm.x_ifS, Hm.x_nextS, Hm.x_neverS, Hm.x_retNS, Hm.x_contS, Hm.x_breakS, Hm.goRv_0, Hm.x_retVarS, Hm.goFr_0, Hm.goFr_1, Hm.goFr_2, Hm.x_frzS, Hm.goCel_0, Hm.goCel_1, Hm.goCel_2, Hm.goCel_3, Hm.goCel_4,
    Hm.x_celS, Hm.goV_0, Hm.x_mVar, Hm.x_mK, Hm.goU_0, Hm.goU_1, Hm.goU_2, Hm.x_mUn, Hm.goB2_0, Hm.goB2_1, Hm.goB2_2, Hm.goB_0, Hm.goB_1, Hm.goB_2, Hm.x_mBin, Hm.goT_0, Hm.goT_1, Hm.goT_2, Hm.x_mTst, Hm.goTr2_0, Hm.goTr2_1, Hm.goTr_0,
    Hm.goTr_1, Hm.goTr_2, Hm.x_mTru, Hm.goN_0, Hm.goN_1, Hm.goN_2, Hm.x_mNot, Hm.goAn_0, Hm.goAn_1, Hm.goAn_2, Hm.goAn_3, Hm.goOr_0, Hm.goOr_1, Hm.goOr_2, Hm.goOr_3, Hm.goIe_0, Hm.goIe_1, Hm.goIe_2, Hm.goIe_3, Hm.x_mAnd, Hm.x_mOr,
    Hm.x_mIf, Hm.goNv2_0, Hm.goNv2_1, Hm.goNv_0, Hm.goNv_1, Hm.goNv_2, Hm.x_mNotV, Hm.goOv2_0, Hm.goOv2_1, Hm.goOv2_2, Hm.goOv_0, Hm.goOv_1, Hm.goOv_2, Hm.x_mOrV, Hm.goAv2_0, Hm.goAv2_1, Hm.goAv2_2, Hm.goAv_0, Hm.goAv_1, Hm.goAv_2,
    Hm.x_mAndV, Hm.x_mNil, Hm.goC2_0, Hm.goC2_1, Hm.goC2_2, Hm.goC_0, Hm.goC_1, Hm.goC_2, Hm.x_mCons, Hm.goTp_0, Hm.goTp_1, Hm.goTp_2, Hm.x_mTup, Hm.goLs_0, Hm.goLs_1, Hm.goLs_2, Hm.x_mLst, Hm.x_mNo, Hm.goPt_0, Hm.goPt_1, Hm.goPt_2,
    Hm.x_mPart, Hm.goSl3_0, Hm.goSl3_1, Hm.goSl3_2, Hm.goSl2_0, Hm.goSl2_1, Hm.goSl2_2, Hm.goSl_0, Hm.goSl_1, Hm.goSl_2, Hm.x_mSl, Hm.goCall_0, Hm.goCall_1, Hm.goCall_2, Hm.x_mCall, Hm.goFn_0, Hm.goFn_1, Hm.goFn_2, Hm.x_mF, Hm.goM3_0,
    Hm.goM3_1, Hm.goM3_2, Hm.goM2_0, Hm.goM_0, Hm.goM_1, Hm.goM_2, Hm.x_mM1, Hm.goG2_0, Hm.goG2_1, Hm.goG_0, Hm.goG_1, Hm.goG_2, Hm.x_setG, Hm.x_gN, Hm.x_gNil, Hm.goGs_0, Hm.goGs_1, Hm.x_gCons, Hm.x_gT_tup, Hm.x_gT_lst, Hm.goRs_0,
    Hm.goRs_1, Hm.goRs_2, Hm.x_raiseS, Hm.goW2_0, Hm.goW2_1, Hm.goW_0, Hm.goW_1, Hm.goW_2, Hm.x_mWk, Hm.x_itL, Hm.x_itT, Hm.x_itS, Hm.x_itD, Hm.goMk2_0, Hm.goMk2_1, Hm.goMk_0, Hm.goMk_1, Hm.goMk_2, Hm.x_mMkF, Hm.goRun_0, Hm.goRun_1,
    Hm.goRun_2, Hm.goRun_3, Hm.goRun_4, Hm.goRun_5, Hm.x_runB, Hm.goCh3_0, Hm.goCh3_1, Hm.goCh2_0, Hm.goCh2_1, Hm.goCh2_2, Hm.goCh_0, Hm.goCh_1, Hm.goCh_2, Hm.x_mCh, Hm.goIx_0, Hm.goIx_1, Hm.x_ixl, Hm.x_ixt, Hm.goFor_0, Hm.goFor_1,
    Hm.goFor_2, Hm.x_forS, Hm.goL2_0, Hm.goL2_1, Hm.goL2_2, Hm.goL2_3, Hm.goL2_4, Hm.goL2_5, Hm.goL_0, Hm.goL_1, Hm.x_loopN, Hm.x_loopC, Hm.goR1_0, Hm.goR1_1, Hm.goR1_2, Hm.x_mR1, Hm.goTy_0, Hm.goTy_1, Hm.goTy_2, Hm.goTy_3, Hm.goTy_4,
    Hm.goTy_5, Hm.x_tryS, Hm.goFl_0, Hm.goFl_1, Hm.x_fldH, Hm.x_wipenx, Hm.x_wipert, Hm.x_wipebk, Hm.x_wipect, Hm.x_fzv, Hm.x_fzl, Hm.x_fzd, Hm.x_fine, Hm.x_isNn, Hm.x_isNi, Hm.x_isNs, Hm.x_isNb, Hm.x_isNt, Hm.x_isNl, Hm.x_isNd,
    Hm.x_swD, Hm.x_ewD, slots0, List.map_cons, List.map_nil, List.length_cons, List.length_nil, Nat.reduceSub, Nat.reduceAdd, List.replicate_succ, List.replicate_zero, List.cons_append, List.nil_append, List.append_nil,
    List.getElem?_cons_zero, List.getElem?_cons_succ, List.set_cons_zero, List.set_cons_succ, Bool.false_eq_true, if_true, if_false, ite_true, ite_false, reduceIte, Bool.not_true, Bool.not_false, decide_true, decide_false, Hm.vw_int,
    Hm.vw_str, Hm.vw_bl, Hm.vw_non, Hm.vw_lst, Hm.vw_tup, Hm.vw_dct, Hm.eq_ii, Hm.ne_ii, Hm.eq_bb, Hm.ne_bb, Hm.ln_lst, Hm.ln_tup, Hm.sl_lst, Hm.sl_tup, Hm.ad_ii, Hm.sb_ii, Hm.le_ii, Hm.lt_ii, Hm.gt_ii, Hm.ge_ii, Hm.ng_i, Hm.is_n,
    Hm.nis_n, Hm.tr_bl, Hm.tr_non, Hm.tr_int, Hm.tr_lst, Hm.tr_tup, Hm.tr_dct, Hm.tp_lst, Hm.tp_tup, Hm.in_bl, Hm.at_0, Hm.at_1, Hm.at_2, Hm.at_3, Hm.at_4, Hm.gst_lst, Hm.gst_tup, Hm.sm_0, Hm.sm_1, Hm.sm_2, Hm.sm_3, Hm.sm_4, Hm.sm_5,
    Hm.sm_6, Hm.sm_7, Hm.sm_8, Hm.sm_9, Hm.sm_10, Hm.sm_11, Hm.sm_12, Hm.sm_13, Hm.sm_14, Hm.sm_15, Hm.sm_16, true_and, and_true, Nat.zero_le, Nat.reduceLeDiff, Nat.reduceEqDiff, Nat.reduceLT, List.length_map,
    F__law_number_in, m__law_number_in, N__law_number_in, s2, q, sl, f2, d, z, Int.zero_sub]
  · rw [if_neg h]
    rw [decide_eq_false h] at q
    simp only [Hm.goS_0, Hm.goS_1, Hm.goS_2, Hm.goS_3, Hm.goS_4, Hm.goS_5, Hm.x_seqS, Hm.goSet_0, Hm.goSet_1, Hm.goSet_2, Hm.x_setS, Hm.goRet_0, Hm.goRet_1, Hm.goRet_2, Hm.x_retS, Hm.goEx_0, Hm.goEx_1, Hm.goEx_2, Hm.x_exprS, Hm.goIf_0, Hm.goIf_1,
    Hm.goIf_2, Hm.goIf_3, Hm.x_ifS, Hm.x_nextS, Hm.x_neverS, Hm.x_retNS, Hm.x_contS, Hm.x_breakS, Hm.goRv_0, Hm.x_retVarS, Hm.goFr_0, Hm.goFr_1, Hm.goFr_2, Hm.x_frzS, Hm.goCel_0, Hm.goCel_1, Hm.goCel_2, Hm.goCel_3, Hm.goCel_4,
    Hm.x_celS, Hm.goV_0, Hm.x_mVar, Hm.x_mK, Hm.goU_0, Hm.goU_1, Hm.goU_2, Hm.x_mUn, Hm.goB2_0, Hm.goB2_1, Hm.goB2_2, Hm.goB_0, Hm.goB_1, Hm.goB_2, Hm.x_mBin, Hm.goT_0, Hm.goT_1, Hm.goT_2, Hm.x_mTst, Hm.goTr2_0, Hm.goTr2_1, Hm.goTr_0,
    Hm.goTr_1, Hm.goTr_2, Hm.x_mTru, Hm.goN_0, Hm.goN_1, Hm.goN_2, Hm.x_mNot, Hm.goAn_0, Hm.goAn_1, Hm.goAn_2, Hm.goAn_3, Hm.goOr_0, Hm.goOr_1, Hm.goOr_2, Hm.goOr_3, Hm.goIe_0, Hm.goIe_1, Hm.goIe_2, Hm.goIe_3, Hm.x_mAnd, Hm.x_mOr,
    Hm.x_mIf, Hm.goNv2_0, Hm.goNv2_1, Hm.goNv_0, Hm.goNv_1, Hm.goNv_2, Hm.x_mNotV, Hm.goOv2_0, Hm.goOv2_1, Hm.goOv2_2, Hm.goOv_0, Hm.goOv_1, Hm.goOv_2, Hm.x_mOrV, Hm.goAv2_0, Hm.goAv2_1, Hm.goAv2_2, Hm.goAv_0, Hm.goAv_1, Hm.goAv_2,
    Hm.x_mAndV, Hm.x_mNil, Hm.goC2_0, Hm.goC2_1, Hm.goC2_2, Hm.goC_0, Hm.goC_1, Hm.goC_2, Hm.x_mCons, Hm.goTp_0, Hm.goTp_1, Hm.goTp_2, Hm.x_mTup, Hm.goLs_0, Hm.goLs_1, Hm.goLs_2, Hm.x_mLst, Hm.x_mNo, Hm.goPt_0, Hm.goPt_1, Hm.goPt_2,
    Hm.x_mPart, Hm.goSl3_0, Hm.goSl3_1, Hm.goSl3_2, Hm.goSl2_0, Hm.goSl2_1, Hm.goSl2_2, Hm.goSl_0, Hm.goSl_1, Hm.goSl_2, Hm.x_mSl, Hm.goCall_0, Hm.goCall_1, Hm.goCall_2, Hm.x_mCall, Hm.goFn_0, Hm.goFn_1, Hm.goFn_2, Hm.x_mF, Hm.goM3_0,
    Hm.goM3_1, Hm.goM3_2, Hm.goM2_0, Hm.goM_0, Hm.goM_1, Hm.goM_2, Hm.x_mM1, Hm.goG2_0, Hm.goG2_1, Hm.goG_0, Hm.goG_1, Hm.goG_2, Hm.x_setG, Hm.x_gN, Hm.x_gNil, Hm.goGs_0, Hm.goGs_1, Hm.x_gCons, Hm.x_gT_tup, Hm.x_gT_lst, Hm.goRs_0,
    Hm.goRs_1, Hm.goRs_2, Hm.x_raiseS, Hm.goW2_0, Hm.goW2_1, Hm.goW_0, Hm.goW_1, Hm.goW_2, Hm.x_mWk, Hm.x_itL, Hm.x_itT, Hm.x_itS, Hm.x_itD, Hm.goMk2_0, Hm.goMk2_1, Hm.goMk_0, Hm.goMk_1, Hm.goMk_2, Hm.x_mMkF, Hm.goRun_0, Hm.goRun_1,
    Hm.goRun_2, Hm.goRun_3, Hm.goRun_4, Hm.goRun_5, Hm.x_runB, Hm.goCh3_0, Hm.goCh3_1, Hm.goCh2_0, Hm.goCh2_1, Hm.goCh2_2, Hm.goCh_0, Hm.goCh_1, Hm.goCh_2, Hm.x_mCh, Hm.goIx_0, Hm.goIx_1, Hm.x_ixl, Hm.x_ixt, Hm.goFor_0, Hm.goFor_1,
    Hm.goFor_2, Hm.x_forS, Hm.goL2_0, Hm.goL2_1, Hm.goL2_2, Hm.goL2_3, Hm.goL2_4, Hm.goL2_5, Hm.goL_0, Hm.goL_1, Hm.x_loopN, Hm.x_loopC, Hm.goR1_0, Hm.goR1_1, Hm.goR1_2, Hm.x_mR1, Hm.goTy_0, Hm.goTy_1, Hm.goTy_2, Hm.goTy_3, Hm.goTy_4,
    Hm.goTy_5, Hm.x_tryS, Hm.goFl_0, Hm.goFl_1, Hm.x_fldH, Hm.x_wipenx, Hm.x_wipert, Hm.x_wipebk, Hm.x_wipect, Hm.x_fzv, Hm.x_fzl, Hm.x_fzd, Hm.x_fine, Hm.x_isNn, Hm.x_isNi, Hm.x_isNs, Hm.x_isNb, Hm.x_isNt, Hm.x_isNl, Hm.x_isNd,
    Hm.x_swD, Hm.x_ewD, slots0, List.map_cons, List.map_nil, List.length_cons, List.length_nil, Nat.reduceSub, Nat.reduceAdd, List.replicate_succ, List.replicate_zero, List.cons_append, List.nil_append, List.append_nil,
    List.getElem?_cons_zero, List.getElem?_cons_succ, List.set_cons_zero, List.set_cons_succ, Bool.false_eq_true, if_true, if_false, ite_true, ite_false, reduceIte, Bool.not_true, Bool.not_false, decide_true, decide_false, Hm.vw_int,
    Hm.vw_str, Hm.vw_bl, Hm.vw_non, Hm.vw_lst, Hm.vw_tup, Hm.vw_dct, Hm.eq_ii, Hm.ne_ii, Hm.eq_bb, Hm.ne_bb, Hm.ln_lst, Hm.ln_tup, Hm.sl_lst, Hm.sl_tup, Hm.ad_ii, Hm.sb_ii, Hm.le_ii, Hm.lt_ii, Hm.gt_ii, Hm.ge_ii, Hm.ng_i, Hm.is_n,
    Hm.nis_n, Hm.tr_bl, Hm.tr_non, Hm.tr_int, Hm.tr_lst, Hm.tr_tup, Hm.tr_dct, Hm.tp_lst, Hm.tp_tup, Hm.in_bl, Hm.at_0, Hm.at_1, Hm.at_2, Hm.at_3, Hm.at_4, Hm.gst_lst, Hm.gst_tup, Hm.sm_0, Hm.sm_1, Hm.sm_2, Hm.sm_3, Hm.sm_4, Hm.sm_5,
    Hm.sm_6, Hm.sm_7, Hm.sm_8, Hm.sm_9, Hm.sm_10, Hm.sm_11, Hm.sm_12, Hm.sm_13, Hm.sm_14, Hm.sm_15, Hm.sm_16, true_and, and_true, Nat.zero_le, Nat.reduceLeDiff, Nat.reduceEqDiff, Nat.reduceLT, List.length_map,
    F__law_number_in, m__law_number_in, N__law_number_in, s2, q, f1]
theorem num_nn {n : Nat} (x : Str) : Nn (n + 1) (numD x) := by
  unfold numD
  split
  · rcases fig_cases (tailS x) with h | ⟨i, h, _⟩
    · rw [h]; exact .inl rfl
    · rw [h]
      dsimp only
      split
      · exact .inl rfl
      · exact .inr .int
  · exact fig_nn x
def needD (x : Str) : D := match Sp x 42 with
  | [a, b] => if nameB a = true ∧ isN (figD b) = false then .tup [.str a, figD b] else .non
  | _ => .non
theorem nm_nn (x : Str) {n : Nat} (h : Sh n x) : Pl (.str x) 1 := .str h.ok
theorem isN_fig {x : Str} (h : isN (figD x) = false) : ∃ i, figD x = .int i ∧ figB1 x = true ∧ i = (PySem.intText? x).getD 0 := by
  rcases fig_cases x with e | e
  · rw [e] at h; cases h
  · exact e
theorem fig_bad {x : Str} {c : Nat} (hc : c ∈ Ls x) (h : c ∉ Ls fgS) : figD x = .non := by
  unfold figD
  have : figB1 x = false := by
    cases e : figB1 x with
    | false => rfl
    | true =>
      unfold figB1 allB at e
      simp only [Bool.and_eq_true, decide_eq_true_eq] at e
      exact absurd (of_decide_eq_true (List.all_eq_true.mp e.2.2 c hc)) h
  rw [this]
  rfl
theorem star_no : (42 : Nat) ∉ Ls fgS := by decide +kernel
theorem fig_empty : figD Str.empty = .non := rfl
theorem star_ne : ((⟨#[42]⟩ : Str) = "") = False := eq_false (by decide +kernel)
theorem pstar_ok : PyData.strOk (⟨#[42]⟩ : Str) = true := by decide +kernel
theorem empty_ok : PyData.strOk (Str.empty) = true := by decide +kernel
theorem empty_is : (Str.empty : Str) = "" := by decide +kernel
/-- how a text stands to its parts -/
theorem sp_part {x : Str} {c : Nat} : (Sp x c = [x] ∧ Txt.partition x ⟨#[c]⟩ = (x, Str.empty, Str.empty)) ∨ (∃ a b, Sp x c = [a, b] ∧ Txt.partition x ⟨#[c]⟩ = (a, ⟨#[c]⟩, b)) ∨ (∃ a b d r, Sp x c = a :: b :: d :: r ∧ ∃ z, Txt.partition x ⟨#[c]⟩ = (a, ⟨#[c]⟩, z) ∧ c ∈ Ls z ∧ ∀ n, Sh n x → Sh n z) := by
  obtain ⟨p, r, e⟩ := sp_ne x c
  have fr := sp_free (x := x) (c := c)
  have ls := sp_ls x c
  rw [e] at fr ls
  cases r with
  | nil =>
    have ex : p = x := str_eq ls
    rw [ex] at e fr
    exact .inl ⟨e, part_no (fr x List.mem_cons_self)⟩
  | cons q r =>
    have hp := fr p List.mem_cons_self
    have e0 : jl c ((p :: q :: r).map Ls) = Ls p ++ c :: jl c ((q :: r).map Ls) := rfl
    rw [e0] at ls
    have ex : x = p ++ ⟨#[c]⟩ ++ Str.join ⟨#[c]⟩ (q :: r) := str_eq (by
      rw [ls_app, ls_app, jn_jl, List.append_assoc]
      exact ls.symm)
    have pt := part_ok (b := Str.join ⟨#[c]⟩ (q :: r)) hp
    rw [← ex] at pt
    cases r with
    | nil => exact .inr (.inl ⟨p, q, e, pt⟩)
    | cons d r =>
      refine .inr (.inr ⟨p, q, d, r, e, _, pt, ?_, fun n h => ?_⟩)
      · rw [jn_jl]
        show c ∈ Ls q ++ c :: jl c ((d :: r).map Ls)
        exact List.mem_append_right _ List.mem_cons_self
      · refine ⟨?_, ok_iff.mpr fun k hk => ok_iff.mp h.ok k ?_⟩
        · have := h.le
          rw [ex, Str.length_append, Str.length_append] at this
          omega
        · rw [ex, ls_app]
          exact List.mem_append_right _ hk
theorem need_ev {x : Str} {S : Store} (hs : Sh 900 x) : F_need_in [.str x] S = .ok (.val (needD x)) S := by
  have hx := hs.le
  have pd : partD x (.str "*") S = .ok (.val (.tup [.str (Txt.partition x ⟨#[42]⟩).1, .str (Txt.partition x ⟨#[42]⟩).2.1, .str (Txt.partition x ⟨#[42]⟩).2.2])) S := by
    show (if _ then fine (.tup [.str (Txt.partition x ⟨#[42]⟩).1, .str (Txt.partition x ⟨#[42]⟩).2.1, .str (Txt.partition x ⟨#[42]⟩).2.2]) S else .bad) = _
    rw [if_pos (by rw [decide_eq_true (by rw [sizeLine_eq]; omega)]; rfl)]
    rfl
  have shs := sp_sh (c := 42) hs
  unfold needD
  rcases sp_part (x := x) (c := 42) with ⟨e1, e2⟩ | ⟨a, b, e1, e2⟩ | ⟨a, b, d, r, e1, z, e2, e3, e4⟩
  · rw [e2] at pd
    rw [e1]
    have f2 : F_figures_in [.str Str.empty] S = .ok (.val .non) S := figs_ev (x := Str.empty) (n := 0) ⟨Nat.le_refl _, empty_ok⟩ (by omega)
    have nm := name_ev (x := x) (S := S) (by omega)
    have q := Hm.eq_ss (S := S) empty_ok empty_ok
    have d : decide ((Str.empty : Str) = "") = true := decide_eq_true empty_is
    have q2 : eqD (.str Str.empty) (.str "") S = .ok (.val (.bl true)) S := by rw [← empty_is]; rw [q]; simp
    cases hn : nameB x <;> (rw [hn] at nm; simp only [Hm.goS_0, Hm.goS_1, Hm.goS_2, Hm.goS_3, Hm.goS_4, Hm.goS_5, Hm.x_seqS, Hm.goSet_0, Hm.goSet_1, Hm.goSet_2, Hm.x_setS, Hm.goRet_0, Hm.goRet_1, Hm.goRet_2, Hm.x_retS, Hm.goEx_0, Hm.goEx_1, Hm.goEx_2, Hm.x_exprS, Hm.goIf_0, Hm.goIf_1,
    Hm.goIf_2, Hm.goIf_3, Hm.x_ifS, Hm.x_nextS, Hm.x_neverS, Hm.x_retNS, Hm.x_contS, Hm.x_breakS, Hm.goRv_0, Hm.x_retVarS, Hm.goFr_0, Hm.goFr_1, Hm.goFr_2, Hm.x_frzS, Hm.goCel_0, Hm.goCel_1, Hm.goCel_2, Hm.goCel_3, Hm.goCel_4,
    Hm.x_celS, Hm.goV_0, Hm.x_mVar, Hm.x_mK, Hm.goU_0, Hm.goU_1, Hm.goU_2, Hm.x_mUn, Hm.goB2_0, Hm.goB2_1, Hm.goB2_2, Hm.goB_0, Hm.goB_1, Hm.goB_2, Hm.x_mBin, Hm.goT_0, Hm.goT_1, Hm.goT_2, Hm.x_mTst, Hm.goTr2_0, Hm.goTr2_1, Hm.goTr_0,
    Hm.goTr_1, Hm.goTr_2, Hm.x_mTru, Hm.goN_0, Hm.goN_1, Hm.goN_2, Hm.x_mNot, Hm.goAn_0, Hm.goAn_1, Hm.goAn_2, Hm.goAn_3, Hm.goOr_0, Hm.goOr_1, Hm.goOr_2, Hm.goOr_3, Hm.goIe_0, Hm.goIe_1, Hm.goIe_2, Hm.goIe_3, Hm.x_mAnd, Hm.x_mOr,
    Hm.x_mIf, Hm.goNv2_0, Hm.goNv2_1, Hm.goNv_0, Hm.goNv_1, Hm.goNv_2, Hm.x_mNotV, Hm.goOv2_0, Hm.goOv2_1, Hm.goOv2_2, Hm.goOv_0, Hm.goOv_1, Hm.goOv_2, Hm.x_mOrV, Hm.goAv2_0, Hm.goAv2_1, Hm.goAv2_2, Hm.goAv_0, Hm.goAv_1, Hm.goAv_2,
    Hm.x_mAndV, Hm.x_mNil, Hm.goC2_0, Hm.goC2_1, Hm.goC2_2, Hm.goC_0, Hm.goC_1, Hm.goC_2, Hm.x_mCons, Hm.goTp_0, Hm.goTp_1, Hm.goTp_2, Hm.x_mTup, Hm.goLs_0, Hm.goLs_1, Hm.goLs_2, Hm.x_mLst, Hm.x_mNo, Hm.goPt_0, Hm.goPt_1, Hm.goPt_2,
    Hm.x_mPart, Hm.goSl3_0, Hm.goSl3_1, Hm.goSl3_2, Hm.goSl2_0, Hm.goSl2_1, Hm.goSl2_2, Hm.goSl_0, Hm.goSl_1, Hm.goSl_2, Hm.x_mSl, Hm.goCall_0, Hm.goCall_1, Hm.goCall_2, Hm.x_mCall, Hm.goFn_0, Hm.goFn_1, Hm.goFn_2, Hm.x_mF, Hm.goM3_0,
    Hm.goM3_1, Hm.goM3_2, Hm.goM2_0, Hm.goM_0, Hm.goM_1, Hm.goM_2, Hm.x_mM1, Hm.goG2_0, Hm.goG2_1, Hm.goG_0, Hm.goG_1, Hm.goG_2, Hm.x_setG, Hm.x_gN, Hm.x_gNil, Hm.goGs_0, Hm.goGs_1, Hm.x_gCons, Hm.x_gT_tup, Hm.x_gT_lst, Hm.goRs_0,
    Hm.goRs_1, Hm.goRs_2, Hm.x_raiseS, Hm.goW2_0, Hm.goW2_1, Hm.goW_0, Hm.goW_1, Hm.goW_2, Hm.x_mWk, Hm.x_itL, Hm.x_itT, Hm.x_itS, Hm.x_itD, Hm.goMk2_0, Hm.goMk2_1, Hm.goMk_0, Hm.goMk_1, Hm.goMk_2, Hm.x_mMkF, Hm.goRun_0, Hm.goRun_1,
    Hm.goRun_2, Hm.goRun_3, Hm.goRun_4, Hm.goRun_5, Hm.x_runB, Hm.goCh3_0, Hm.goCh3_1, Hm.goCh2_0, Hm.goCh2_1, Hm.goCh2_2, Hm.goCh_0, Hm.goCh_1, Hm.goCh_2, Hm.x_mCh, Hm.goIx_0, Hm.goIx_1, Hm.x_ixl, Hm.x_ixt, Hm.goFor_0, Hm.goFor_1,
    Hm.goFor_2, Hm.x_forS, Hm.goL2_0, Hm.goL2_1, Hm.goL2_2, Hm.goL2_3, Hm.goL2_4, Hm.goL2_5, Hm.goL_0, Hm.goL_1, Hm.x_loopN, Hm.x_loopC, Hm.goR1_0, Hm.goR1_1, Hm.goR1_2, Hm.x_mR1, Hm.goTy_0, Hm.goTy_1, Hm.goTy_2, Hm.goTy_3, Hm.goTy_4,
    Hm.goTy_5, Hm.x_tryS, Hm.goFl_0, Hm.goFl_1, Hm.x_fldH, Hm.x_wipenx, Hm.x_wipert, Hm.x_wipebk, Hm.x_wipect, Hm.x_fzv, Hm.x_fzl, Hm.x_fzd, Hm.x_fine, Hm.x_isNn, Hm.x_isNi, Hm.x_isNs, Hm.x_isNb, Hm.x_isNt, Hm.x_isNl, Hm.x_isNd,
    Hm.x_swD, Hm.x_ewD, slots0, List.map_cons, List.map_nil, List.length_cons, List.length_nil, Nat.reduceSub, Nat.reduceAdd, List.replicate_succ, List.replicate_zero, List.cons_append, List.nil_append, List.append_nil,
    List.getElem?_cons_zero, List.getElem?_cons_succ, List.set_cons_zero, List.set_cons_succ, Bool.false_eq_true, if_true, if_false, ite_true, ite_false, reduceIte, Bool.not_true, Bool.not_false, decide_true, decide_false, Hm.vw_int,
    Hm.vw_str, Hm.vw_bl, Hm.vw_non, Hm.vw_lst, Hm.vw_tup, Hm.vw_dct, Hm.eq_ii, Hm.ne_ii, Hm.eq_bb, Hm.ne_bb, Hm.ln_lst, Hm.ln_tup, Hm.sl_lst, Hm.sl_tup, Hm.ad_ii, Hm.sb_ii, Hm.le_ii, Hm.lt_ii, Hm.gt_ii, Hm.ge_ii, Hm.ng_i, Hm.is_n,
    Hm.nis_n, Hm.tr_bl, Hm.tr_non, Hm.tr_int, Hm.tr_lst, Hm.tr_tup, Hm.tr_dct, Hm.tp_lst, Hm.tp_tup, Hm.in_bl, Hm.at_0, Hm.at_1, Hm.at_2, Hm.at_3, Hm.at_4, Hm.gst_lst, Hm.gst_tup, Hm.sm_0, Hm.sm_1, Hm.sm_2, Hm.sm_3, Hm.sm_4, Hm.sm_5,
    Hm.sm_6, Hm.sm_7, Hm.sm_8, Hm.sm_9, Hm.sm_10, Hm.sm_11, Hm.sm_12, Hm.sm_13, Hm.sm_14, Hm.sm_15, Hm.sm_16, true_and, and_true, Nat.zero_le, Nat.reduceLeDiff, Nat.reduceEqDiff, Nat.reduceLT, List.length_map,
    F_need_in, m_need_in, N_need_in, pd, f2, nm, q2])
  · rw [e2] at pd
    rw [e1] at shs ⊢
    have sa : Sh 900 a := shs a (by simp)
    have sb : Sh 900 b := shs b (by simp)
    have f2 := figs_ev (S := S) sb (by omega)
    have nm := name_ev (x := a) (S := S) (by have := sa.le; omega)
    have q : eqD (.str ⟨#[42]⟩) (.str "") S = .ok (.val (.bl false)) S := by
      rw [Hm.eq_ss (S := S) pstar_ok (by decide +kernel)]
      rw [decide_eq_false (by decide +kernel)]
    rcases fig_cases b with e | ⟨i, e, _⟩
    · rw [e] at f2
      dsimp only
      rw [e]
      cases hn : nameB a <;> (rw [hn] at nm; simp only [Hm.goS_0, Hm.goS_1, Hm.goS_2, Hm.goS_3, Hm.goS_4, Hm.goS_5, Hm.x_seqS, Hm.goSet_0, Hm.goSet_1, Hm.goSet_2, Hm.x_setS, Hm.goRet_0, Hm.goRet_1, Hm.goRet_2, Hm.x_retS, Hm.goEx_0, Hm.goEx_1, Hm.goEx_2, Hm.x_exprS, Hm.goIf_0, Hm.goIf_1,
    Hm.goIf_2, Hm.goIf_3, Hm.x_ifS, Hm.x_nextS, Hm.x_neverS, Hm.x_retNS, Hm.x_contS, Hm.x_breakS, Hm.goRv_0, Hm.x_retVarS, Hm.goFr_0, Hm.goFr_1, Hm.goFr_2, Hm.x_frzS, Hm.goCel_0, Hm.goCel_1, Hm.goCel_2, Hm.goCel_3, Hm.goCel_4,
    Hm.x_celS, Hm.goV_0, Hm.x_mVar, Hm.x_mK, Hm.goU_0, Hm.goU_1, Hm.goU_2, Hm.x_mUn, Hm.goB2_0, Hm.goB2_1, Hm.goB2_2, Hm.goB_0, Hm.goB_1, Hm.goB_2, Hm.x_mBin, Hm.goT_0, Hm.goT_1, Hm.goT_2, Hm.x_mTst, Hm.goTr2_0, Hm.goTr2_1, Hm.goTr_0,
    Hm.goTr_1, Hm.goTr_2, Hm.x_mTru, Hm.goN_0, Hm.goN_1, Hm.goN_2, Hm.x_mNot, Hm.goAn_0, Hm.goAn_1, Hm.goAn_2, Hm.goAn_3, Hm.goOr_0, Hm.goOr_1, Hm.goOr_2, Hm.goOr_3, Hm.goIe_0, Hm.goIe_1, Hm.goIe_2, Hm.goIe_3, Hm.x_mAnd, Hm.x_mOr,
    Hm.x_mIf, Hm.goNv2_0, Hm.goNv2_1, Hm.goNv_0, Hm.goNv_1, Hm.goNv_2, Hm.x_mNotV, Hm.goOv2_0, Hm.goOv2_1, Hm.goOv2_2, Hm.goOv_0, Hm.goOv_1, Hm.goOv_2, Hm.x_mOrV, Hm.goAv2_0, Hm.goAv2_1, Hm.goAv2_2, Hm.goAv_0, Hm.goAv_1, Hm.goAv_2,
    Hm.x_mAndV, Hm.x_mNil, Hm.goC2_0, Hm.goC2_1, Hm.goC2_2, Hm.goC_0, Hm.goC_1, Hm.goC_2, Hm.x_mCons, Hm.goTp_0, Hm.goTp_1, Hm.goTp_2, Hm.x_mTup, Hm.goLs_0, Hm.goLs_1, Hm.goLs_2, Hm.x_mLst, Hm.x_mNo, Hm.goPt_0, Hm.goPt_1, Hm.goPt_2,
    Hm.x_mPart, Hm.goSl3_0, Hm.goSl3_1, Hm.goSl3_2, Hm.goSl2_0, Hm.goSl2_1, Hm.goSl2_2, Hm.goSl_0, Hm.goSl_1, Hm.goSl_2, Hm.x_mSl, Hm.goCall_0, Hm.goCall_1, Hm.goCall_2, Hm.x_mCall, Hm.goFn_0, Hm.goFn_1, Hm.goFn_2, Hm.x_mF, Hm.goM3_0,
    Hm.goM3_1, Hm.goM3_2, Hm.goM2_0, Hm.goM_0, Hm.goM_1, Hm.goM_2, Hm.x_mM1, Hm.goG2_0, Hm.goG2_1, Hm.goG_0, Hm.goG_1, Hm.goG_2, Hm.x_setG, Hm.x_gN, Hm.x_gNil, Hm.goGs_0, Hm.goGs_1, Hm.x_gCons, Hm.x_gT_tup, Hm.x_gT_lst, Hm.goRs_0,
    Hm.goRs_1, Hm.goRs_2, Hm.x_raiseS, Hm.goW2_0, Hm.goW2_1, Hm.goW_0, Hm.goW_1, Hm.goW_2, Hm.x_mWk, Hm.x_itL, Hm.x_itT, Hm.x_itS, Hm.x_itD, Hm.goMk2_0, Hm.goMk2_1, Hm.goMk_0, Hm.goMk_1, Hm.goMk_2, Hm.x_mMkF, Hm.goRun_0, Hm.goRun_1,
    Hm.goRun_2, Hm.goRun_3, Hm.goRun_4, Hm.goRun_5, Hm.x_runB, Hm.goCh3_0, Hm.goCh3_1, Hm.goCh2_0, Hm.goCh2_1, Hm.goCh2_2, Hm.goCh_0, Hm.goCh_1, Hm.goCh_2, Hm.x_mCh, Hm.goIx_0, Hm.goIx_1, Hm.x_ixl, Hm.x_ixt, Hm.goFor_0, Hm.goFor_1,
    Hm.goFor_2, Hm.x_forS, Hm.goL2_0, Hm.goL2_1, Hm.goL2_2, Hm.goL2_3, Hm.goL2_4, Hm.goL2_5, Hm.goL_0, Hm.goL_1, Hm.x_loopN, Hm.x_loopC, Hm.goR1_0, Hm.goR1_1, Hm.goR1_2, Hm.x_mR1, Hm.goTy_0, Hm.goTy_1, Hm.goTy_2, Hm.goTy_3, Hm.goTy_4,
    Hm.goTy_5, Hm.x_tryS, Hm.goFl_0, Hm.goFl_1, Hm.x_fldH, Hm.x_wipenx, Hm.x_wipert, Hm.x_wipebk, Hm.x_wipect, Hm.x_fzv, Hm.x_fzl, Hm.x_fzd, Hm.x_fine, Hm.x_isNn, Hm.x_isNi, Hm.x_isNs, Hm.x_isNb, Hm.x_isNt, Hm.x_isNl, Hm.x_isNd,
    Hm.x_swD, Hm.x_ewD, slots0, List.map_cons, List.map_nil, List.length_cons, List.length_nil, Nat.reduceSub, Nat.reduceAdd, List.replicate_succ, List.replicate_zero, List.cons_append, List.nil_append, List.append_nil,
    List.getElem?_cons_zero, List.getElem?_cons_succ, List.set_cons_zero, List.set_cons_succ, Bool.false_eq_true, if_true, if_false, ite_true, ite_false, reduceIte, Bool.not_true, Bool.not_false, decide_true, decide_false, Hm.vw_int,
    Hm.vw_str, Hm.vw_bl, Hm.vw_non, Hm.vw_lst, Hm.vw_tup, Hm.vw_dct, Hm.eq_ii, Hm.ne_ii, Hm.eq_bb, Hm.ne_bb, Hm.ln_lst, Hm.ln_tup, Hm.sl_lst, Hm.sl_tup, Hm.ad_ii, Hm.sb_ii, Hm.le_ii, Hm.lt_ii, Hm.gt_ii, Hm.ge_ii, Hm.ng_i, Hm.is_n,
    Hm.nis_n, Hm.tr_bl, Hm.tr_non, Hm.tr_int, Hm.tr_lst, Hm.tr_tup, Hm.tr_dct, Hm.tp_lst, Hm.tp_tup, Hm.in_bl, Hm.at_0, Hm.at_1, Hm.at_2, Hm.at_3, Hm.at_4, Hm.gst_lst, Hm.gst_tup, Hm.sm_0, Hm.sm_1, Hm.sm_2, Hm.sm_3, Hm.sm_4, Hm.sm_5,
    Hm.sm_6, Hm.sm_7, Hm.sm_8, Hm.sm_9, Hm.sm_10, Hm.sm_11, Hm.sm_12, Hm.sm_13, Hm.sm_14, Hm.sm_15, Hm.sm_16, true_and, and_true, Nat.zero_le, Nat.reduceLeDiff, Nat.reduceEqDiff, Nat.reduceLT, List.length_map,
    F_need_in, m_need_in, N_need_in, pd, f2, nm, q, Bool.true_eq_false, and_false, and_self])
    · rw [e] at f2
      dsimp only
      rw [e]
      have sm : small 2 = true := rfl
      cases hn : nameB a <;> (rw [hn] at nm; simp only [Hm.goS_0, Hm.goS_1, Hm.goS_2, Hm.goS_3, Hm.goS_4, Hm.goS_5, Hm.x_seqS, Hm.goSet_0, Hm.goSet_1, Hm.goSet_2, Hm.x_setS, Hm.goRet_0, Hm.goRet_1, Hm.goRet_2, Hm.x_retS, Hm.goEx_0, Hm.goEx_1, Hm.goEx_2, Hm.x_exprS, Hm.goIf_0, Hm.goIf_1,
    Hm.goIf_2, Hm.goIf_3, Hm.x_ifS, Hm.x_nextS, Hm.x_neverS, Hm.x_retNS, Hm.x_contS, Hm.x_breakS, Hm.goRv_0, Hm.x_retVarS, Hm.goFr_0, Hm.goFr_1, Hm.goFr_2, Hm.x_frzS, Hm.goCel_0, Hm.goCel_1, Hm.goCel_2, Hm.goCel_3, Hm.goCel_4,
    Hm.x_celS, Hm.goV_0, Hm.x_mVar, Hm.x_mK, Hm.goU_0, Hm.goU_1, Hm.goU_2, Hm.x_mUn, Hm.goB2_0, Hm.goB2_1, Hm.goB2_2, Hm.goB_0, Hm.goB_1, Hm.goB_2, Hm.x_mBin, Hm.goT_0, Hm.goT_1, Hm.goT_2, Hm.x_mTst, Hm.goTr2_0, Hm.goTr2_1, Hm.goTr_0,
    Hm.goTr_1, Hm.goTr_2, Hm.x_mTru, Hm.goN_0, Hm.goN_1, Hm.goN_2, Hm.x_mNot, Hm.goAn_0, Hm.goAn_1, Hm.goAn_2, Hm.goAn_3, Hm.goOr_0, Hm.goOr_1, Hm.goOr_2, Hm.goOr_3, Hm.goIe_0, Hm.goIe_1, Hm.goIe_2, Hm.goIe_3, Hm.x_mAnd, Hm.x_mOr,
    Hm.x_mIf, Hm.goNv2_0, Hm.goNv2_1, Hm.goNv_0, Hm.goNv_1, Hm.goNv_2, Hm.x_mNotV, Hm.goOv2_0, Hm.goOv2_1, Hm.goOv2_2, Hm.goOv_0, Hm.goOv_1, Hm.goOv_2, Hm.x_mOrV, Hm.goAv2_0, Hm.goAv2_1, Hm.goAv2_2, Hm.goAv_0, Hm.goAv_1, Hm.goAv_2,
    Hm.x_mAndV, Hm.x_mNil, Hm.goC2_0, Hm.goC2_1, Hm.goC2_2, Hm.goC_0, Hm.goC_1, Hm.goC_2, Hm.x_mCons, Hm.goTp_0, Hm.goTp_1, Hm.goTp_2, Hm.x_mTup, Hm.goLs_0, Hm.goLs_1, Hm.goLs_2, Hm.x_mLst, Hm.x_mNo, Hm.goPt_0, Hm.goPt_1, Hm.goPt_2,
    Hm.x_mPart, Hm.goSl3_0, Hm.goSl3_1, Hm.goSl3_2, Hm.goSl2_0, Hm.goSl2_1, Hm.goSl2_2, Hm.goSl_0, Hm.goSl_1, Hm.goSl_2, Hm.x_mSl, Hm.goCall_0, Hm.goCall_1, Hm.goCall_2, Hm.x_mCall, Hm.goFn_0, Hm.goFn_1, Hm.goFn_2, Hm.x_mF, Hm.goM3_0,
    Hm.goM3_1, Hm.goM3_2, Hm.goM2_0, Hm.goM_0, Hm.goM_1, Hm.goM_2, Hm.x_mM1, Hm.goG2_0, Hm.goG2_1, Hm.goG_0, Hm.goG_1, Hm.goG_2, Hm.x_setG, Hm.x_gN, Hm.x_gNil, Hm.goGs_0, Hm.goGs_1, Hm.x_gCons, Hm.x_gT_tup, Hm.x_gT_lst, Hm.goRs_0,
    Hm.goRs_1, Hm.goRs_2, Hm.x_raiseS, Hm.goW2_0, Hm.goW2_1, Hm.goW_0, Hm.goW_1, Hm.goW_2, Hm.x_mWk, Hm.x_itL, Hm.x_itT, Hm.x_itS, Hm.x_itD, Hm.goMk2_0, Hm.goMk2_1, Hm.goMk_0, Hm.goMk_1, Hm.goMk_2, Hm.x_mMkF, Hm.goRun_0, Hm.goRun_1,
    Hm.goRun_2, Hm.goRun_3, Hm.goRun_4, Hm.goRun_5, Hm.x_runB, Hm.goCh3_0, Hm.goCh3_1, Hm.goCh2_0, Hm.goCh2_1, Hm.goCh2_2, Hm.goCh_0, Hm.goCh_1, Hm.goCh_2, Hm.x_mCh, Hm.goIx_0, Hm.goIx_1, Hm.x_ixl, Hm.x_ixt, Hm.goFor_0, Hm.goFor_1,
    Hm.goFor_2, Hm.x_forS, Hm.goL2_0, Hm.goL2_1, Hm.goL2_2, Hm.goL2_3, Hm.goL2_4, Hm.goL2_5, Hm.goL_0, Hm.goL_1, Hm.x_loopN, Hm.x_loopC, Hm.goR1_0, Hm.goR1_1, Hm.goR1_2, Hm.x_mR1, Hm.goTy_0, Hm.goTy_1, Hm.goTy_2, Hm.goTy_3, Hm.goTy_4,
    Hm.goTy_5, Hm.x_tryS, Hm.goFl_0, Hm.goFl_1, Hm.x_fldH, Hm.x_wipenx, Hm.x_wipert, Hm.x_wipebk, Hm.x_wipect, Hm.x_fzv, Hm.x_fzl, Hm.x_fzd, Hm.x_fine, Hm.x_isNn, Hm.x_isNi, Hm.x_isNs, Hm.x_isNb, Hm.x_isNt, Hm.x_isNl, Hm.x_isNd,
    Hm.x_swD, Hm.x_ewD, slots0, List.map_cons, List.map_nil, List.length_cons, List.length_nil, Nat.reduceSub, Nat.reduceAdd, List.replicate_succ, List.replicate_zero, List.cons_append, List.nil_append, List.append_nil,
    List.getElem?_cons_zero, List.getElem?_cons_succ, List.set_cons_zero, List.set_cons_succ, Bool.false_eq_true, if_true, if_false, ite_true, ite_false, reduceIte, Bool.not_true, Bool.not_false, decide_true, decide_false, Hm.vw_int,
    Hm.vw_str, Hm.vw_bl, Hm.vw_non, Hm.vw_lst, Hm.vw_tup, Hm.vw_dct, Hm.eq_ii, Hm.ne_ii, Hm.eq_bb, Hm.ne_bb, Hm.ln_lst, Hm.ln_tup, Hm.sl_lst, Hm.sl_tup, Hm.ad_ii, Hm.sb_ii, Hm.le_ii, Hm.lt_ii, Hm.gt_ii, Hm.ge_ii, Hm.ng_i, Hm.is_n,
    Hm.nis_n, Hm.tr_bl, Hm.tr_non, Hm.tr_int, Hm.tr_lst, Hm.tr_tup, Hm.tr_dct, Hm.tp_lst, Hm.tp_tup, Hm.in_bl, Hm.at_0, Hm.at_1, Hm.at_2, Hm.at_3, Hm.at_4, Hm.gst_lst, Hm.gst_tup, Hm.sm_0, Hm.sm_1, Hm.sm_2, Hm.sm_3, Hm.sm_4, Hm.sm_5,
    Hm.sm_6, Hm.sm_7, Hm.sm_8, Hm.sm_9, Hm.sm_10, Hm.sm_11, Hm.sm_12, Hm.sm_13, Hm.sm_14, Hm.sm_15, Hm.sm_16, true_and, and_true, Nat.zero_le, Nat.reduceLeDiff, Nat.reduceEqDiff, Nat.reduceLT, List.length_map,
    F_need_in, m_need_in, N_need_in, pd, f2, nm, q, sm, and_self, false_and, and_true])
  · rw [e2] at pd
    rw [e1] at shs ⊢
    have sz : Sh 900 z := e4 900 hs
    have sa : Sh 900 a := shs a (by simp)
    have f2 := figs_ev (S := S) sz (by omega)
    rw [fig_bad e3 star_no] at f2
    have nm := name_ev (x := a) (S := S) (by have := sa.le; omega)
    have q : eqD (.str ⟨#[42]⟩) (.str "") S = .ok (.val (.bl false)) S := by
      rw [Hm.eq_ss (S := S) pstar_ok (by decide +kernel)]
      rw [decide_eq_false (by decide +kernel)]
    cases hn : nameB a <;> (rw [hn] at nm; simp only [Hm.goS_0, Hm.goS_1, Hm.goS_2, Hm.goS_3, Hm.goS_4, Hm.goS_5, Hm.x_seqS, Hm.goSet_0, Hm.goSet_1, Hm.goSet_2, Hm.x_setS, Hm.goRet_0, Hm.goRet_1, Hm.goRet_2, Hm.x_retS, Hm.goEx_0, Hm.goEx_1, Hm.goEx_2, Hm.x_exprS, Hm.goIf_0, Hm.goIf_1,
    Hm.goIf_2, Hm.goIf_3, Hm.x_ifS, Hm.x_nextS, Hm.x_neverS, Hm.x_retNS, Hm.x_contS, Hm.x_breakS, Hm.goRv_0, Hm.x_retVarS, Hm.goFr_0, Hm.goFr_1, Hm.goFr_2, Hm.x_frzS, Hm.goCel_0, Hm.goCel_1, Hm.goCel_2, Hm.goCel_3, Hm.goCel_4,
    Hm.x_celS, Hm.goV_0, Hm.x_mVar, Hm.x_mK, Hm.goU_0, Hm.goU_1, Hm.goU_2, Hm.x_mUn, Hm.goB2_0, Hm.goB2_1, Hm.goB2_2, Hm.goB_0, Hm.goB_1, Hm.goB_2, Hm.x_mBin, Hm.goT_0, Hm.goT_1, Hm.goT_2, Hm.x_mTst, Hm.goTr2_0, Hm.goTr2_1, Hm.goTr_0,
    Hm.goTr_1, Hm.goTr_2, Hm.x_mTru, Hm.goN_0, Hm.goN_1, Hm.goN_2, Hm.x_mNot, Hm.goAn_0, Hm.goAn_1, Hm.goAn_2, Hm.goAn_3, Hm.goOr_0, Hm.goOr_1, Hm.goOr_2, Hm.goOr_3, Hm.goIe_0, Hm.goIe_1, Hm.goIe_2, Hm.goIe_3, Hm.x_mAnd, Hm.x_mOr,
    Hm.x_mIf, Hm.goNv2_0, Hm.goNv2_1, Hm.goNv_0, Hm.goNv_1, Hm.goNv_2, Hm.x_mNotV, Hm.goOv2_0, Hm.goOv2_1, Hm.goOv2_2, Hm.goOv_0, Hm.goOv_1, Hm.goOv_2, Hm.x_mOrV, Hm.goAv2_0, Hm.goAv2_1, Hm.goAv2_2, Hm.goAv_0, Hm.goAv_1, Hm.goAv_2,
    Hm.x_mAndV, Hm.x_mNil, Hm.goC2_0, Hm.goC2_1, Hm.goC2_2, Hm.goC_0, Hm.goC_1, Hm.goC_2, Hm.x_mCons, Hm.goTp_0, Hm.goTp_1, Hm.goTp_2, Hm.x_mTup, Hm.goLs_0, Hm.goLs_1, Hm.goLs_2, Hm.x_mLst, Hm.x_mNo, Hm.goPt_0, Hm.goPt_1, Hm.goPt_2,
    Hm.x_mPart, Hm.goSl3_0, Hm.goSl3_1, Hm.goSl3_2, Hm.goSl2_0, Hm.goSl2_1, Hm.goSl2_2, Hm.goSl_0, Hm.goSl_1, Hm.goSl_2, Hm.x_mSl, Hm.goCall_0, Hm.goCall_1, Hm.goCall_2, Hm.x_mCall, Hm.goFn_0, Hm.goFn_1, Hm.goFn_2, Hm.x_mF, Hm.goM3_0,
    Hm.goM3_1, Hm.goM3_2, Hm.goM2_0, Hm.goM_0, Hm.goM_1, Hm.goM_2, Hm.x_mM1, Hm.goG2_0, Hm.goG2_1, Hm.goG_0, Hm.goG_1, Hm.goG_2, Hm.x_setG, Hm.x_gN, Hm.x_gNil, Hm.goGs_0, Hm.goGs_1, Hm.x_gCons, Hm.x_gT_tup, Hm.x_gT_lst, Hm.goRs_0,
    Hm.goRs_1, Hm.goRs_2, Hm.x_raiseS, Hm.goW2_0, Hm.goW2_1, Hm.goW_0, Hm.goW_1, Hm.goW_2, Hm.x_mWk, Hm.x_itL, Hm.x_itT, Hm.x_itS, Hm.x_itD, Hm.goMk2_0, Hm.goMk2_1, Hm.goMk_0, Hm.goMk_1, Hm.goMk_2, Hm.x_mMkF, Hm.goRun_0, Hm.goRun_1,
    Hm.goRun_2, Hm.goRun_3, Hm.goRun_4, Hm.goRun_5, Hm.x_runB, Hm.goCh3_0, Hm.goCh3_1, Hm.goCh2_0, Hm.goCh2_1, Hm.goCh2_2, Hm.goCh_0, Hm.goCh_1, Hm.goCh_2, Hm.x_mCh, Hm.goIx_0, Hm.goIx_1, Hm.x_ixl, Hm.x_ixt, Hm.goFor_0, Hm.goFor_1,
    Hm.goFor_2, Hm.x_forS, Hm.goL2_0, Hm.goL2_1, Hm.goL2_2, Hm.goL2_3, Hm.goL2_4, Hm.goL2_5, Hm.goL_0, Hm.goL_1, Hm.x_loopN, Hm.x_loopC, Hm.goR1_0, Hm.goR1_1, Hm.goR1_2, Hm.x_mR1, Hm.goTy_0, Hm.goTy_1, Hm.goTy_2, Hm.goTy_3, Hm.goTy_4,
    Hm.goTy_5, Hm.x_tryS, Hm.goFl_0, Hm.goFl_1, Hm.x_fldH, Hm.x_wipenx, Hm.x_wipert, Hm.x_wipebk, Hm.x_wipect, Hm.x_fzv, Hm.x_fzl, Hm.x_fzd, Hm.x_fine, Hm.x_isNn, Hm.x_isNi, Hm.x_isNs, Hm.x_isNb, Hm.x_isNt, Hm.x_isNl, Hm.x_isNd,
    Hm.x_swD, Hm.x_ewD, slots0, List.map_cons, List.map_nil, List.length_cons, List.length_nil, Nat.reduceSub, Nat.reduceAdd, List.replicate_succ, List.replicate_zero, List.cons_append, List.nil_append, List.append_nil,
    List.getElem?_cons_zero, List.getElem?_cons_succ, List.set_cons_zero, List.set_cons_succ, Bool.false_eq_true, if_true, if_false, ite_true, ite_false, reduceIte, Bool.not_true, Bool.not_false, decide_true, decide_false, Hm.vw_int,
    Hm.vw_str, Hm.vw_bl, Hm.vw_non, Hm.vw_lst, Hm.vw_tup, Hm.vw_dct, Hm.eq_ii, Hm.ne_ii, Hm.eq_bb, Hm.ne_bb, Hm.ln_lst, Hm.ln_tup, Hm.sl_lst, Hm.sl_tup, Hm.ad_ii, Hm.sb_ii, Hm.le_ii, Hm.lt_ii, Hm.gt_ii, Hm.ge_ii, Hm.ng_i, Hm.is_n,
    Hm.nis_n, Hm.tr_bl, Hm.tr_non, Hm.tr_int, Hm.tr_lst, Hm.tr_tup, Hm.tr_dct, Hm.tp_lst, Hm.tp_tup, Hm.in_bl, Hm.at_0, Hm.at_1, Hm.at_2, Hm.at_3, Hm.at_4, Hm.gst_lst, Hm.gst_tup, Hm.sm_0, Hm.sm_1, Hm.sm_2, Hm.sm_3, Hm.sm_4, Hm.sm_5,
    Hm.sm_6, Hm.sm_7, Hm.sm_8, Hm.sm_9, Hm.sm_10, Hm.sm_11, Hm.sm_12, Hm.sm_13, Hm.sm_14, Hm.sm_15, Hm.sm_16, true_and, and_true, Nat.zero_le, Nat.reduceLeDiff, Nat.reduceEqDiff, Nat.reduceLT, List.length_map,
    F_need_in, m_need_in, N_need_in, pd, f2, nm, q])
theorem lneed_ev {x : Str} {S : Store} (hs : Sh 900 x) : F__law_need_in [.str x] S = .ok (.val (needD x)) S := by
  have hx := hs.le
  have sp : splitD x (.str "*") S = .ok (.ol ((Sp x 42).map .str)) S := spl_ev hs (by omega)
  have shs := sp_sh (c := 42) hs
  unfold needD
  rcases sp_part (x := x) (c := 42) with ⟨e1, _⟩ | ⟨a, b, e1, _⟩ | ⟨a, b, d, r, e1, _⟩
  · rw [e1] at sp ⊢
    have d : decide ((((0 + 1 : Nat) : Nat) : Int) = 2) = false := by decide
    simp only [Hm.goS_0, Hm.goS_1, Hm.goS_2, Hm.goS_3, Hm.goS_4, Hm.goS_5, Hm.x_seqS, Hm.goSet_0, Hm.goSet_1, Hm.goSet_2, Hm.x_setS, Hm.goRet_0, Hm.goRet_1, Hm.goRet_2, Hm.x_retS, Hm.goEx_0, Hm.goEx_1, Hm.goEx_2, Hm.x_exprS, Hm.goIf_0, Hm.goIf_1,
    Hm.goIf_2, Hm.goIf_3, Hm.x_ifS, Hm.x_nextS, Hm.x_neverS, Hm.x_retNS, Hm.x_contS, Hm.x_breakS, Hm.goRv_0, Hm.x_retVarS, Hm.goFr_0, Hm.goFr_1, Hm.goFr_2, Hm.x_frzS, Hm.goCel_0, Hm.goCel_1, Hm.goCel_2, Hm.goCel_3, Hm.goCel_4,
    Hm.x_celS, Hm.goV_0, Hm.x_mVar, Hm.x_mK, Hm.goU_0, Hm.goU_1, Hm.goU_2, Hm.x_mUn, Hm.goB2_0, Hm.goB2_1, Hm.goB2_2, Hm.goB_0, Hm.goB_1, Hm.goB_2, Hm.x_mBin, Hm.goT_0, Hm.goT_1, Hm.goT_2, Hm.x_mTst, Hm.goTr2_0, Hm.goTr2_1, Hm.goTr_0,
    Hm.goTr_1, Hm.goTr_2, Hm.x_mTru, Hm.goN_0, Hm.goN_1, Hm.goN_2, Hm.x_mNot, Hm.goAn_0, Hm.goAn_1, Hm.goAn_2, Hm.goAn_3, Hm.goOr_0, Hm.goOr_1, Hm.goOr_2, Hm.goOr_3, Hm.goIe_0, Hm.goIe_1, Hm.goIe_2, Hm.goIe_3, Hm.x_mAnd, Hm.x_mOr,
    Hm.x_mIf, Hm.goNv2_0, Hm.goNv2_1, Hm.goNv_0, Hm.goNv_1, Hm.goNv_2, Hm.x_mNotV, Hm.goOv2_0, Hm.goOv2_1, Hm.goOv2_2, Hm.goOv_0, Hm.goOv_1, Hm.goOv_2, Hm.x_mOrV, Hm.goAv2_0, Hm.goAv2_1, Hm.goAv2_2, Hm.goAv_0, Hm.goAv_1, Hm.goAv_2,
    Hm.x_mAndV, Hm.x_mNil, Hm.goC2_0, Hm.goC2_1, Hm.goC2_2, Hm.goC_0, Hm.goC_1, Hm.goC_2, Hm.x_mCons, Hm.goTp_0, Hm.goTp_1, Hm.goTp_2, Hm.x_mTup, Hm.goLs_0, Hm.goLs_1, Hm.goLs_2, Hm.x_mLst, Hm.x_mNo, Hm.goPt_0, Hm.goPt_1, Hm.goPt_2,
    Hm.x_mPart, Hm.goSl3_0, Hm.goSl3_1, Hm.goSl3_2, Hm.goSl2_0, Hm.goSl2_1, Hm.goSl2_2, Hm.goSl_0, Hm.goSl_1, Hm.goSl_2, Hm.x_mSl, Hm.goCall_0, Hm.goCall_1, Hm.goCall_2, Hm.x_mCall, Hm.goFn_0, Hm.goFn_1, Hm.goFn_2, Hm.x_mF, Hm.goM3_0,
    Hm.goM3_1, Hm.goM3_2, Hm.goM2_0, Hm.goM_0, Hm.goM_1, Hm.goM_2, Hm.x_mM1, Hm.goG2_0, Hm.goG2_1, Hm.goG_0, Hm.goG_1, Hm.goG_2, Hm.x_setG, Hm.x_gN, Hm.x_gNil, Hm.goGs_0, Hm.goGs_1, Hm.x_gCons, Hm.x_gT_tup, Hm.x_gT_lst, Hm.goRs_0,
    Hm.goRs_1, Hm.goRs_2, Hm.x_raiseS, Hm.goW2_0, Hm.goW2_1, Hm.goW_0, Hm.goW_1, Hm.goW_2, Hm.x_mWk, Hm.x_itL, Hm.x_itT, Hm.x_itS, Hm.x_itD, Hm.goMk2_0, Hm.goMk2_1, Hm.goMk_0, Hm.goMk_1, Hm.goMk_2, Hm.x_mMkF, Hm.goRun_0, Hm.goRun_1,
    Hm.goRun_2, Hm.goRun_3, Hm.goRun_4, Hm.goRun_5, Hm.x_runB, Hm.goCh3_0, Hm.goCh3_1, Hm.goCh2_0, Hm.goCh2_1, Hm.goCh2_2, Hm.goCh_0, Hm.goCh_1, Hm.goCh_2, Hm.x_mCh, Hm.goIx_0, Hm.goIx_1, Hm.x_ixl, Hm.x_ixt, Hm.goFor_0, Hm.goFor_1,
    Hm.goFor_2, Hm.x_forS, Hm.goL2_0, Hm.goL2_1, Hm.goL2_2, Hm.goL2_3, Hm.goL2_4, Hm.goL2_5, Hm.goL_0, Hm.goL_1, Hm.x_loopN, Hm.x_loopC, Hm.goR1_0, Hm.goR1_1, Hm.goR1_2, Hm.x_mR1, Hm.goTy_0, Hm.goTy_1, Hm.goTy_2, Hm.goTy_3, Hm.goTy_4,
    Hm.goTy_5, Hm.x_tryS, Hm.goFl_0, Hm.goFl_1, Hm.x_fldH, Hm.x_wipenx, Hm.x_wipert, Hm.x_wipebk, Hm.x_wipect, Hm.x_fzv, Hm.x_fzl, Hm.x_fzd, Hm.x_fine, Hm.x_isNn, Hm.x_isNi, Hm.x_isNs, Hm.x_isNb, Hm.x_isNt, Hm.x_isNl, Hm.x_isNd,
    Hm.x_swD, Hm.x_ewD, slots0, List.map_cons, List.map_nil, List.length_cons, List.length_nil, Nat.reduceSub, Nat.reduceAdd, List.replicate_succ, List.replicate_zero, List.cons_append, List.nil_append, List.append_nil,
    List.getElem?_cons_zero, List.getElem?_cons_succ, List.set_cons_zero, List.set_cons_succ, Bool.false_eq_true, if_true, if_false, ite_true, ite_false, reduceIte, Bool.not_true, Bool.not_false, decide_true, decide_false, Hm.vw_int,
    Hm.vw_str, Hm.vw_bl, Hm.vw_non, Hm.vw_lst, Hm.vw_tup, Hm.vw_dct, Hm.eq_ii, Hm.ne_ii, Hm.eq_bb, Hm.ne_bb, Hm.ln_lst, Hm.ln_tup, Hm.sl_lst, Hm.sl_tup, Hm.ad_ii, Hm.sb_ii, Hm.le_ii, Hm.lt_ii, Hm.gt_ii, Hm.ge_ii, Hm.ng_i, Hm.is_n,
    Hm.nis_n, Hm.tr_bl, Hm.tr_non, Hm.tr_int, Hm.tr_lst, Hm.tr_tup, Hm.tr_dct, Hm.tp_lst, Hm.tp_tup, Hm.in_bl, Hm.at_0, Hm.at_1, Hm.at_2, Hm.at_3, Hm.at_4, Hm.gst_lst, Hm.gst_tup, Hm.sm_0, Hm.sm_1, Hm.sm_2, Hm.sm_3, Hm.sm_4, Hm.sm_5,
    Hm.sm_6, Hm.sm_7, Hm.sm_8, Hm.sm_9, Hm.sm_10, Hm.sm_11, Hm.sm_12, Hm.sm_13, Hm.sm_14, Hm.sm_15, Hm.sm_16, true_and, and_true, Nat.zero_le, Nat.reduceLeDiff, Nat.reduceEqDiff, Nat.reduceLT, List.length_map,
    F__law_need_in, m__law_need_in, N__law_need_in, sp, d, Nat.zero_add]
  · rw [e1] at sp shs ⊢
    have sa : Sh 900 a := shs a (by simp)
    have sb : Sh 900 b := shs b (by simp)
    have f2 : F__law_figures [.str b] S = _ := figs_ev (S := S) sb (by omega)
    have nm : F__law_named [.str a] S = _ := name_ev (x := a) (S := S) (by have := sa.le; omega)
    have d : decide (((2 : Nat) : Int) = 2) = true := by decide
    rcases fig_cases b with e | ⟨i, e, e1, e2⟩
    · rw [e] at f2
      dsimp only
      rw [e]
      cases hn : nameB a <;> (rw [hn] at nm; simp only [Hm.goS_0, Hm.goS_1, Hm.goS_2, Hm.goS_3, Hm.goS_4, Hm.goS_5, Hm.x_seqS, Hm.goSet_0, Hm.goSet_1, Hm.goSet_2, Hm.x_setS, Hm.goRet_0, Hm.goRet_1, Hm.goRet_2, Hm.x_retS, Hm.goEx_0, Hm.goEx_1, Hm.goEx_2, Hm.x_exprS, Hm.goIf_0, Hm.goIf_1,
    Hm.goIf_2, Hm.goIf_3, Hm.x_ifS, Hm.x_nextS, Hm.x_neverS, Hm.x_retNS, Hm.x_contS, Hm.x_breakS, Hm.goRv_0, Hm.x_retVarS, Hm.goFr_0, Hm.goFr_1, Hm.goFr_2, Hm.x_frzS, Hm.goCel_0, Hm.goCel_1, Hm.goCel_2, Hm.goCel_3, Hm.goCel_4,
    Hm.x_celS, Hm.goV_0, Hm.x_mVar, Hm.x_mK, Hm.goU_0, Hm.goU_1, Hm.goU_2, Hm.x_mUn, Hm.goB2_0, Hm.goB2_1, Hm.goB2_2, Hm.goB_0, Hm.goB_1, Hm.goB_2, Hm.x_mBin, Hm.goT_0, Hm.goT_1, Hm.goT_2, Hm.x_mTst, Hm.goTr2_0, Hm.goTr2_1, Hm.goTr_0,
    Hm.goTr_1, Hm.goTr_2, Hm.x_mTru, Hm.goN_0, Hm.goN_1, Hm.goN_2, Hm.x_mNot, Hm.goAn_0, Hm.goAn_1, Hm.goAn_2, Hm.goAn_3, Hm.goOr_0, Hm.goOr_1, Hm.goOr_2, Hm.goOr_3, Hm.goIe_0, Hm.goIe_1, Hm.goIe_2, Hm.goIe_3, Hm.x_mAnd, Hm.x_mOr,
    Hm.x_mIf, Hm.goNv2_0, Hm.goNv2_1, Hm.goNv_0, Hm.goNv_1, Hm.goNv_2, Hm.x_mNotV, Hm.goOv2_0, Hm.goOv2_1, Hm.goOv2_2, Hm.goOv_0, Hm.goOv_1, Hm.goOv_2, Hm.x_mOrV, Hm.goAv2_0, Hm.goAv2_1, Hm.goAv2_2, Hm.goAv_0, Hm.goAv_1, Hm.goAv_2,
    Hm.x_mAndV, Hm.x_mNil, Hm.goC2_0, Hm.goC2_1, Hm.goC2_2, Hm.goC_0, Hm.goC_1, Hm.goC_2, Hm.x_mCons, Hm.goTp_0, Hm.goTp_1, Hm.goTp_2, Hm.x_mTup, Hm.goLs_0, Hm.goLs_1, Hm.goLs_2, Hm.x_mLst, Hm.x_mNo, Hm.goPt_0, Hm.goPt_1, Hm.goPt_2,
    Hm.x_mPart, Hm.goSl3_0, Hm.goSl3_1, Hm.goSl3_2, Hm.goSl2_0, Hm.goSl2_1, Hm.goSl2_2, Hm.goSl_0, Hm.goSl_1, Hm.goSl_2, Hm.x_mSl, Hm.goCall_0, Hm.goCall_1, Hm.goCall_2, Hm.x_mCall, Hm.goFn_0, Hm.goFn_1, Hm.goFn_2, Hm.x_mF, Hm.goM3_0,
    Hm.goM3_1, Hm.goM3_2, Hm.goM2_0, Hm.goM_0, Hm.goM_1, Hm.goM_2, Hm.x_mM1, Hm.goG2_0, Hm.goG2_1, Hm.goG_0, Hm.goG_1, Hm.goG_2, Hm.x_setG, Hm.x_gN, Hm.x_gNil, Hm.goGs_0, Hm.goGs_1, Hm.x_gCons, Hm.x_gT_tup, Hm.x_gT_lst, Hm.goRs_0,
    Hm.goRs_1, Hm.goRs_2, Hm.x_raiseS, Hm.goW2_0, Hm.goW2_1, Hm.goW_0, Hm.goW_1, Hm.goW_2, Hm.x_mWk, Hm.x_itL, Hm.x_itT, Hm.x_itS, Hm.x_itD, Hm.goMk2_0, Hm.goMk2_1, Hm.goMk_0, Hm.goMk_1, Hm.goMk_2, Hm.x_mMkF, Hm.goRun_0, Hm.goRun_1,
    Hm.goRun_2, Hm.goRun_3, Hm.goRun_4, Hm.goRun_5, Hm.x_runB, Hm.goCh3_0, Hm.goCh3_1, Hm.goCh2_0, Hm.goCh2_1, Hm.goCh2_2, Hm.goCh_0, Hm.goCh_1, Hm.goCh_2, Hm.x_mCh, Hm.goIx_0, Hm.goIx_1, Hm.x_ixl, Hm.x_ixt, Hm.goFor_0, Hm.goFor_1,
    Hm.goFor_2, Hm.x_forS, Hm.goL2_0, Hm.goL2_1, Hm.goL2_2, Hm.goL2_3, Hm.goL2_4, Hm.goL2_5, Hm.goL_0, Hm.goL_1, Hm.x_loopN, Hm.x_loopC, Hm.goR1_0, Hm.goR1_1, Hm.goR1_2, Hm.x_mR1, Hm.goTy_0, Hm.goTy_1, Hm.goTy_2, Hm.goTy_3, Hm.goTy_4,
    Hm.goTy_5, Hm.x_tryS, Hm.goFl_0, Hm.goFl_1, Hm.x_fldH, Hm.x_wipenx, Hm.x_wipert, Hm.x_wipebk, Hm.x_wipect, Hm.x_fzv, Hm.x_fzl, Hm.x_fzd, Hm.x_fine, Hm.x_isNn, Hm.x_isNi, Hm.x_isNs, Hm.x_isNb, Hm.x_isNt, Hm.x_isNl, Hm.x_isNd,
    Hm.x_swD, Hm.x_ewD, slots0, List.map_cons, List.map_nil, List.length_cons, List.length_nil, Nat.reduceSub, Nat.reduceAdd, List.replicate_succ, List.replicate_zero, List.cons_append, List.nil_append, List.append_nil,
    List.getElem?_cons_zero, List.getElem?_cons_succ, List.set_cons_zero, List.set_cons_succ, Bool.false_eq_true, if_true, if_false, ite_true, ite_false, reduceIte, Bool.not_true, Bool.not_false, decide_true, decide_false, Hm.vw_int,
    Hm.vw_str, Hm.vw_bl, Hm.vw_non, Hm.vw_lst, Hm.vw_tup, Hm.vw_dct, Hm.eq_ii, Hm.ne_ii, Hm.eq_bb, Hm.ne_bb, Hm.ln_lst, Hm.ln_tup, Hm.sl_lst, Hm.sl_tup, Hm.ad_ii, Hm.sb_ii, Hm.le_ii, Hm.lt_ii, Hm.gt_ii, Hm.ge_ii, Hm.ng_i, Hm.is_n,
    Hm.nis_n, Hm.tr_bl, Hm.tr_non, Hm.tr_int, Hm.tr_lst, Hm.tr_tup, Hm.tr_dct, Hm.tp_lst, Hm.tp_tup, Hm.in_bl, Hm.at_0, Hm.at_1, Hm.at_2, Hm.at_3, Hm.at_4, Hm.gst_lst, Hm.gst_tup, Hm.sm_0, Hm.sm_1, Hm.sm_2, Hm.sm_3, Hm.sm_4, Hm.sm_5,
    Hm.sm_6, Hm.sm_7, Hm.sm_8, Hm.sm_9, Hm.sm_10, Hm.sm_11, Hm.sm_12, Hm.sm_13, Hm.sm_14, Hm.sm_15, Hm.sm_16, true_and, and_true, Nat.zero_le, Nat.reduceLeDiff, Nat.reduceEqDiff, Nat.reduceLT, List.length_map,
    F__law_need_in, m__law_need_in, N__law_need_in, sp, f2, nm, d, Bool.true_eq_false, and_false, and_self])
    · have q3 := int_ev (S := S) e1
      rw [← e2] at q3
      rw [e] at f2
      dsimp only
      rw [e]
      have sm : small 2 = true := rfl
      cases hn : nameB a <;> (rw [hn] at nm; simp only [Hm.goS_0, Hm.goS_1, Hm.goS_2, Hm.goS_3, Hm.goS_4, Hm.goS_5, Hm.x_seqS, Hm.goSet_0, Hm.goSet_1, Hm.goSet_2, Hm.x_setS, Hm.goRet_0, Hm.goRet_1, Hm.goRet_2, Hm.x_retS, Hm.goEx_0, Hm.goEx_1, Hm.goEx_2, Hm.x_exprS, Hm.goIf_0, Hm.goIf_1,
    Hm.goIf_2, Hm.goIf_3, Hm.x_ifS, Hm.x_nextS, Hm.x_neverS, Hm.x_retNS, Hm.x_contS, Hm.x_breakS, Hm.goRv_0, Hm.x_retVarS, Hm.goFr_0, Hm.goFr_1, Hm.goFr_2, Hm.x_frzS, Hm.goCel_0, Hm.goCel_1, Hm.goCel_2, Hm.goCel_3, Hm.goCel_4,
    Hm.x_celS, Hm.goV_0, Hm.x_mVar, Hm.x_mK, Hm.goU_0, Hm.goU_1, Hm.goU_2, Hm.x_mUn, Hm.goB2_0, Hm.goB2_1, Hm.goB2_2, Hm.goB_0, Hm.goB_1, Hm.goB_2, Hm.x_mBin, Hm.goT_0, Hm.goT_1, Hm.goT_2, Hm.x_mTst, Hm.goTr2_0, Hm.goTr2_1, Hm.goTr_0,
    Hm.goTr_1, Hm.goTr_2, Hm.x_mTru, Hm.goN_0, Hm.goN_1, Hm.goN_2, Hm.x_mNot, Hm.goAn_0, Hm.goAn_1, Hm.goAn_2, Hm.goAn_3, Hm.goOr_0, Hm.goOr_1, Hm.goOr_2, Hm.goOr_3, Hm.goIe_0, Hm.goIe_1, Hm.goIe_2, Hm.goIe_3, Hm.x_mAnd, Hm.x_mOr,
    Hm.x_mIf, Hm.goNv2_0, Hm.goNv2_1, Hm.goNv_0, Hm.goNv_1, Hm.goNv_2, Hm.x_mNotV, Hm.goOv2_0, Hm.goOv2_1, Hm.goOv2_2, Hm.goOv_0, Hm.goOv_1, Hm.goOv_2, Hm.x_mOrV, Hm.goAv2_0, Hm.goAv2_1, Hm.goAv2_2, Hm.goAv_0, Hm.goAv_1, Hm.goAv_2,
    Hm.x_mAndV, Hm.x_mNil, Hm.goC2_0, Hm.goC2_1, Hm.goC2_2, Hm.goC_0, Hm.goC_1, Hm.goC_2, Hm.x_mCons, Hm.goTp_0, Hm.goTp_1, Hm.goTp_2, Hm.x_mTup, Hm.goLs_0, Hm.goLs_1, Hm.goLs_2, Hm.x_mLst, Hm.x_mNo, Hm.goPt_0, Hm.goPt_1, Hm.goPt_2,
    Hm.x_mPart, Hm.goSl3_0, Hm.goSl3_1, Hm.goSl3_2, Hm.goSl2_0, Hm.goSl2_1, Hm.goSl2_2, Hm.goSl_0, Hm.goSl_1, Hm.goSl_2, Hm.x_mSl, Hm.goCall_0, Hm.goCall_1, Hm.goCall_2, Hm.x_mCall, Hm.goFn_0, Hm.goFn_1, Hm.goFn_2, Hm.x_mF, Hm.goM3_0,
    Hm.goM3_1, Hm.goM3_2, Hm.goM2_0, Hm.goM_0, Hm.goM_1, Hm.goM_2, Hm.x_mM1, Hm.goG2_0, Hm.goG2_1, Hm.goG_0, Hm.goG_1, Hm.goG_2, Hm.x_setG, Hm.x_gN, Hm.x_gNil, Hm.goGs_0, Hm.goGs_1, Hm.x_gCons, Hm.x_gT_tup, Hm.x_gT_lst, Hm.goRs_0,
    Hm.goRs_1, Hm.goRs_2, Hm.x_raiseS, Hm.goW2_0, Hm.goW2_1, Hm.goW_0, Hm.goW_1, Hm.goW_2, Hm.x_mWk, Hm.x_itL, Hm.x_itT, Hm.x_itS, Hm.x_itD, Hm.goMk2_0, Hm.goMk2_1, Hm.goMk_0, Hm.goMk_1, Hm.goMk_2, Hm.x_mMkF, Hm.goRun_0, Hm.goRun_1,
    Hm.goRun_2, Hm.goRun_3, Hm.goRun_4, Hm.goRun_5, Hm.x_runB, Hm.goCh3_0, Hm.goCh3_1, Hm.goCh2_0, Hm.goCh2_1, Hm.goCh2_2, Hm.goCh_0, Hm.goCh_1, Hm.goCh_2, Hm.x_mCh, Hm.goIx_0, Hm.goIx_1, Hm.x_ixl, Hm.x_ixt, Hm.goFor_0, Hm.goFor_1,
    Hm.goFor_2, Hm.x_forS, Hm.goL2_0, Hm.goL2_1, Hm.goL2_2, Hm.goL2_3, Hm.goL2_4, Hm.goL2_5, Hm.goL_0, Hm.goL_1, Hm.x_loopN, Hm.x_loopC, Hm.goR1_0, Hm.goR1_1, Hm.goR1_2, Hm.x_mR1, Hm.goTy_0, Hm.goTy_1, Hm.goTy_2, Hm.goTy_3, Hm.goTy_4,
    Hm.goTy_5, Hm.x_tryS, Hm.goFl_0, Hm.goFl_1, Hm.x_fldH, Hm.x_wipenx, Hm.x_wipert, Hm.x_wipebk, Hm.x_wipect, Hm.x_fzv, Hm.x_fzl, Hm.x_fzd, Hm.x_fine, Hm.x_isNn, Hm.x_isNi, Hm.x_isNs, Hm.x_isNb, Hm.x_isNt, Hm.x_isNl, Hm.x_isNd,
    Hm.x_swD, Hm.x_ewD, slots0, List.map_cons, List.map_nil, List.length_cons, List.length_nil, Nat.reduceSub, Nat.reduceAdd, List.replicate_succ, List.replicate_zero, List.cons_append, List.nil_append, List.append_nil,
    List.getElem?_cons_zero, List.getElem?_cons_succ, List.set_cons_zero, List.set_cons_succ, Bool.false_eq_true, if_true, if_false, ite_true, ite_false, reduceIte, Bool.not_true, Bool.not_false, decide_true, decide_false, Hm.vw_int,
    Hm.vw_str, Hm.vw_bl, Hm.vw_non, Hm.vw_lst, Hm.vw_tup, Hm.vw_dct, Hm.eq_ii, Hm.ne_ii, Hm.eq_bb, Hm.ne_bb, Hm.ln_lst, Hm.ln_tup, Hm.sl_lst, Hm.sl_tup, Hm.ad_ii, Hm.sb_ii, Hm.le_ii, Hm.lt_ii, Hm.gt_ii, Hm.ge_ii, Hm.ng_i, Hm.is_n,
    Hm.nis_n, Hm.tr_bl, Hm.tr_non, Hm.tr_int, Hm.tr_lst, Hm.tr_tup, Hm.tr_dct, Hm.tp_lst, Hm.tp_tup, Hm.in_bl, Hm.at_0, Hm.at_1, Hm.at_2, Hm.at_3, Hm.at_4, Hm.gst_lst, Hm.gst_tup, Hm.sm_0, Hm.sm_1, Hm.sm_2, Hm.sm_3, Hm.sm_4, Hm.sm_5,
    Hm.sm_6, Hm.sm_7, Hm.sm_8, Hm.sm_9, Hm.sm_10, Hm.sm_11, Hm.sm_12, Hm.sm_13, Hm.sm_14, Hm.sm_15, Hm.sm_16, true_and, and_true, Nat.zero_le, Nat.reduceLeDiff, Nat.reduceEqDiff, Nat.reduceLT, List.length_map,
    F__law_need_in, m__law_need_in, N__law_need_in, sp, f2, nm, q3, d, sm, and_self, false_and, and_true])
  · rw [e1] at sp ⊢
    have d : decide (((r.length + 1 + 1 + 1 : Nat) : Int) = 2) = false := decide_eq_false (by omega)
    simp only [Hm.goS_0, Hm.goS_1, Hm.goS_2, Hm.goS_3, Hm.goS_4, Hm.goS_5, Hm.x_seqS, Hm.goSet_0, Hm.goSet_1, Hm.goSet_2, Hm.x_setS, Hm.goRet_0, Hm.goRet_1, Hm.goRet_2, Hm.x_retS, Hm.goEx_0, Hm.goEx_1, Hm.goEx_2, Hm.x_exprS, Hm.goIf_0, Hm.goIf_1,
    Hm.goIf_2, Hm.goIf_3, Hm.x_ifS, Hm.x_nextS, Hm.x_neverS, Hm.x_retNS, Hm.x_contS, Hm.x_breakS, Hm.goRv_0, Hm.x_retVarS, Hm.goFr_0, Hm.goFr_1, Hm.goFr_2, Hm.x_frzS, Hm.goCel_0, Hm.goCel_1, Hm.goCel_2, Hm.goCel_3, Hm.goCel_4,
    Hm.x_celS, Hm.goV_0, Hm.x_mVar, Hm.x_mK, Hm.goU_0, Hm.goU_1, Hm.goU_2, Hm.x_mUn, Hm.goB2_0, Hm.goB2_1, Hm.goB2_2, Hm.goB_0, Hm.goB_1, Hm.goB_2, Hm.x_mBin, Hm.goT_0, Hm.goT_1, Hm.goT_2, Hm.x_mTst, Hm.goTr2_0, Hm.goTr2_1, Hm.goTr_0,
    Hm.goTr_1, Hm.goTr_2, Hm.x_mTru, Hm.goN_0, Hm.goN_1, Hm.goN_2, Hm.x_mNot, Hm.goAn_0, Hm.goAn_1, Hm.goAn_2, Hm.goAn_3, Hm.goOr_0, Hm.goOr_1, Hm.goOr_2, Hm.goOr_3, Hm.goIe_0, Hm.goIe_1, Hm.goIe_2, Hm.goIe_3, Hm.x_mAnd, Hm.x_mOr,
    Hm.x_mIf, Hm.goNv2_0, Hm.goNv2_1, Hm.goNv_0, Hm.goNv_1, Hm.goNv_2, Hm.x_mNotV, Hm.goOv2_0, Hm.goOv2_1, Hm.goOv2_2, Hm.goOv_0, Hm.goOv_1, Hm.goOv_2, Hm.x_mOrV, Hm.goAv2_0, Hm.goAv2_1, Hm.goAv2_2, Hm.goAv_0, Hm.goAv_1, Hm.goAv_2,
    Hm.x_mAndV, Hm.x_mNil, Hm.goC2_0, Hm.goC2_1, Hm.goC2_2, Hm.goC_0, Hm.goC_1, Hm.goC_2, Hm.x_mCons, Hm.goTp_0, Hm.goTp_1, Hm.goTp_2, Hm.x_mTup, Hm.goLs_0, Hm.goLs_1, Hm.goLs_2, Hm.x_mLst, Hm.x_mNo, Hm.goPt_0, Hm.goPt_1, Hm.goPt_2,
    Hm.x_mPart, Hm.goSl3_0, Hm.goSl3_1, Hm.goSl3_2, Hm.goSl2_0, Hm.goSl2_1, Hm.goSl2_2, Hm.goSl_0, Hm.goSl_1, Hm.goSl_2, Hm.x_mSl, Hm.goCall_0, Hm.goCall_1, Hm.goCall_2, Hm.x_mCall, Hm.goFn_0, Hm.goFn_1, Hm.goFn_2, Hm.x_mF, Hm.goM3_0,
    Hm.goM3_1, Hm.goM3_2, Hm.goM2_0, Hm.goM_0, Hm.goM_1, Hm.goM_2, Hm.x_mM1, Hm.goG2_0, Hm.goG2_1, Hm.goG_0, Hm.goG_1, Hm.goG_2, Hm.x_setG, Hm.x_gN, Hm.x_gNil, Hm.goGs_0, Hm.goGs_1, Hm.x_gCons, Hm.x_gT_tup, Hm.x_gT_lst, Hm.goRs_0,
    Hm.goRs_1, Hm.goRs_2, Hm.x_raiseS, Hm.goW2_0, Hm.goW2_1, Hm.goW_0, Hm.goW_1, Hm.goW_2, Hm.x_mWk, Hm.x_itL, Hm.x_itT, Hm.x_itS, Hm.x_itD, Hm.goMk2_0, Hm.goMk2_1, Hm.goMk_0, Hm.goMk_1, Hm.goMk_2, Hm.x_mMkF, Hm.goRun_0, Hm.goRun_1,
    Hm.goRun_2, Hm.goRun_3, Hm.goRun_4, Hm.goRun_5, Hm.x_runB, Hm.goCh3_0, Hm.goCh3_1, Hm.goCh2_0, Hm.goCh2_1, Hm.goCh2_2, Hm.goCh_0, Hm.goCh_1, Hm.goCh_2, Hm.x_mCh, Hm.goIx_0, Hm.goIx_1, Hm.x_ixl, Hm.x_ixt, Hm.goFor_0, Hm.goFor_1,
    Hm.goFor_2, Hm.x_forS, Hm.goL2_0, Hm.goL2_1, Hm.goL2_2, Hm.goL2_3, Hm.goL2_4, Hm.goL2_5, Hm.goL_0, Hm.goL_1, Hm.x_loopN, Hm.x_loopC, Hm.goR1_0, Hm.goR1_1, Hm.goR1_2, Hm.x_mR1, Hm.goTy_0, Hm.goTy_1, Hm.goTy_2, Hm.goTy_3, Hm.goTy_4,
    Hm.goTy_5, Hm.x_tryS, Hm.goFl_0, Hm.goFl_1, Hm.x_fldH, Hm.x_wipenx, Hm.x_wipert, Hm.x_wipebk, Hm.x_wipect, Hm.x_fzv, Hm.x_fzl, Hm.x_fzd, Hm.x_fine, Hm.x_isNn, Hm.x_isNi, Hm.x_isNs, Hm.x_isNb, Hm.x_isNt, Hm.x_isNl, Hm.x_isNd,
    Hm.x_swD, Hm.x_ewD, slots0, List.map_cons, List.map_nil, List.length_cons, List.length_nil, Nat.reduceSub, Nat.reduceAdd, List.replicate_succ, List.replicate_zero, List.cons_append, List.nil_append, List.append_nil,
    List.getElem?_cons_zero, List.getElem?_cons_succ, List.set_cons_zero, List.set_cons_succ, Bool.false_eq_true, if_true, if_false, ite_true, ite_false, reduceIte, Bool.not_true, Bool.not_false, decide_true, decide_false, Hm.vw_int,
    Hm.vw_str, Hm.vw_bl, Hm.vw_non, Hm.vw_lst, Hm.vw_tup, Hm.vw_dct, Hm.eq_ii, Hm.ne_ii, Hm.eq_bb, Hm.ne_bb, Hm.ln_lst, Hm.ln_tup, Hm.sl_lst, Hm.sl_tup, Hm.ad_ii, Hm.sb_ii, Hm.le_ii, Hm.lt_ii, Hm.gt_ii, Hm.ge_ii, Hm.ng_i, Hm.is_n,
    Hm.nis_n, Hm.tr_bl, Hm.tr_non, Hm.tr_int, Hm.tr_lst, Hm.tr_tup, Hm.tr_dct, Hm.tp_lst, Hm.tp_tup, Hm.in_bl, Hm.at_0, Hm.at_1, Hm.at_2, Hm.at_3, Hm.at_4, Hm.gst_lst, Hm.gst_tup, Hm.sm_0, Hm.sm_1, Hm.sm_2, Hm.sm_3, Hm.sm_4, Hm.sm_5,
    Hm.sm_6, Hm.sm_7, Hm.sm_8, Hm.sm_9, Hm.sm_10, Hm.sm_11, Hm.sm_12, Hm.sm_13, Hm.sm_14, Hm.sm_15, Hm.sm_16, true_and, and_true, Nat.zero_le, Nat.reduceLeDiff, Nat.reduceEqDiff, Nat.reduceLT, List.length_map,
    F__law_need_in, m__law_need_in, N__law_need_in, sp, List.length_map, d]
end Wk57
set_option Elab.async false
set_option linter.all false
set_option maxRecDepth 100000
set_option maxHeartbeats 4000000
namespace Wk57
open PySem PySem.Spec L2 Hm
open Builtin Builtin.Str

/-! ### ways -/
theorem need_nn {x : Str} (hs : Sh 900 x) : Nn 3 (needD x) := by
  unfold needD
  have shs := sp_sh (c := 42) hs
  split
  · rename_i a b e
    rw [e] at shs
    split
    · rename_i h
      obtain ⟨i, e2, _⟩ := isN_fig h.2
      refine .inr (.tup (fun d hd => ?_) (show 2 ≤ 1000 by decide))
      rcases List.mem_cons.mp hd with q | q
      · rw [q]; exact .str (shs a (by simp)).ok
      · rw [List.mem_singleton.mp q, e2]; exact .int
    · exact .inl rfl
  · exact .inl rfl
def restI (f : Str) : Int := if cutS f (some (-1)) none = ⟨#[114]⟩ then 1 else 0
def wayD (x : Str) : D := match Sp x 43 with
  | f :: rest => if isN (figD (cutS f none (some ((f.length : Int) - restI f)))) = true ∨ (rest.map needD).any isN = true then .non else .tup [figD (cutS f none (some ((f.length : Int) - restI f))), .int (restI f), .tup (rest.map needD)]
  | [] => .non
theorem r_ok : PyData.strOk ("r" : Str) = true := by decide +kernel
theorem rest_if (f : Str) : (if decide (cutS f (some (-1)) none = ⟨#[114]⟩) = true then (1 : Int) else 0) = restI f := by
  unfold restI
  by_cases h : cutS f (some (-1)) none = ⟨#[114]⟩
  · rw [decide_eq_true h, if_pos h, if_pos rfl]
  · rw [decide_eq_false h, if_neg h, if_neg Bool.false_ne_true]
theorem way_ev {x : Str} {S : Store} (hs : Sh 900 x) : F_way_in [.str x] S = .ok (.val (wayD x)) S := by
  have sp : splitD x (.str "+") S = .ok (.ol ((Sp x 43).map .str)) S := spl_ev hs (by omega)
  have shs := sp_sh (c := 43) hs
  have len := sp_len (c := 43) hs
  obtain ⟨f, rest, e⟩ := sp_ne x 43
  unfold wayD
  rw [e] at sp shs len ⊢
  have sf : Sh 900 f := shs f List.mem_cons_self
  have sr : ∀ y ∈ rest, Sh 900 y := fun y hy => shs y (List.mem_cons_of_mem _ hy)
  have l := ln_str (s := f) (S := S) (by have := sf.le; omega)
  have ew : ewD f (.str "r") S = .ok (.val (.bl (decide (cutS f (some (-1)) none = ⟨#[114]⟩)))) S := by
    show fine (.bl (Txt.endswith f ⟨#[114]⟩)) S = _
    rw [ends_iff]
    rfl
  have sl := Hm.sl_str (s := f) (S := S) (lo := none) (hi := some ((f.length : Int) - restI f)) (by have := sf.le; omega)
  have f1 := figs_ev (S := S) (cut_sh (lo := none) (hi := some ((f.length : Int) - restI f)) sf) (by omega)
  have lc := @lc_str S
  have hn : ∀ y ∈ rest, F_need_in [.str y] S = .ok (.val (needD y)) S := fun y hy => need_ev (sr y hy)
  have nn := none_ev (S := S) (n := 3) (xs := rest.map needD) (by omega) fun d hd => by
    obtain ⟨y, hy, rfl⟩ := List.mem_map.mp hd
    exact need_nn (sr y hy)
  rw [List.length_cons] at len
  dsimp only
  generalize figD (cutS f none (some ((f.length : Int) - restI f))) = fd at f1 ⊢
  cases h1 : isN fd <;> cases h2 : (rest.map needD).any isN
  all_goals
    rw [h2] at nn
    simp only [Hm.goS_0, Hm.goS_1, Hm.goS_2, Hm.goS_3, Hm.goS_4, Hm.goS_5, Hm.x_seqS, Hm.goSet_0, Hm.goSet_1, Hm.goSet_2, Hm.x_setS, Hm.goRet_0, Hm.goRet_1, Hm.goRet_2, Hm.x_retS, Hm.goEx_0, Hm.goEx_1, Hm.goEx_2, Hm.x_exprS, Hm.goIf_0, Hm.goIf_1,
    Hm.goIf_2, Hm.goIf_3, Hm.x_ifS, Hm.x_nextS, Hm.x_neverS, Hm.x_retNS, Hm.x_contS, Hm.x_breakS, Hm.goRv_0, Hm.x_retVarS, Hm.goFr_0, Hm.goFr_1, Hm.goFr_2, Hm.x_frzS, Hm.goCel_0, Hm.goCel_1, Hm.goCel_2, Hm.goCel_3, Hm.goCel_4,
    Hm.x_celS, Hm.goV_0, Hm.x_mVar, Hm.x_mK, Hm.goU_0, Hm.goU_1, Hm.goU_2, Hm.x_mUn, Hm.goB2_0, Hm.goB2_1, Hm.goB2_2, Hm.goB_0, Hm.goB_1, Hm.goB_2, Hm.x_mBin, Hm.goT_0, Hm.goT_1, Hm.goT_2, Hm.x_mTst, Hm.goTr2_0, Hm.goTr2_1, Hm.goTr_0,
    Hm.goTr_1, Hm.goTr_2, Hm.x_mTru, Hm.goN_0, Hm.goN_1, Hm.goN_2, Hm.x_mNot, Hm.goAn_0, Hm.goAn_1, Hm.goAn_2, Hm.goAn_3, Hm.goOr_0, Hm.goOr_1, Hm.goOr_2, Hm.goOr_3, Hm.goIe_0, Hm.goIe_1, Hm.goIe_2, Hm.goIe_3, Hm.x_mAnd, Hm.x_mOr,
    Hm.x_mIf, Hm.goNv2_0, Hm.goNv2_1, Hm.goNv_0, Hm.goNv_1, Hm.goNv_2, Hm.x_mNotV, Hm.goOv2_0, Hm.goOv2_1, Hm.goOv2_2, Hm.goOv_0, Hm.goOv_1, Hm.goOv_2, Hm.x_mOrV, Hm.goAv2_0, Hm.goAv2_1, Hm.goAv2_2, Hm.goAv_0, Hm.goAv_1, Hm.goAv_2,
    Hm.x_mAndV, Hm.x_mNil, Hm.goC2_0, Hm.goC2_1, Hm.goC2_2, Hm.goC_0, Hm.goC_1, Hm.goC_2, Hm.x_mCons, Hm.goTp_0, Hm.goTp_1, Hm.goTp_2, Hm.x_mTup, Hm.goLs_0, Hm.goLs_1, Hm.goLs_2, Hm.x_mLst, Hm.x_mNo, Hm.goPt_0, Hm.goPt_1, Hm.goPt_2,
    Hm.x_mPart, Hm.goSl3_0, Hm.goSl3_1, Hm.goSl3_2, Hm.goSl2_0, Hm.goSl2_1, Hm.goSl2_2, Hm.goSl_0, Hm.goSl_1, Hm.goSl_2, Hm.x_mSl, Hm.goCall_0, Hm.goCall_1, Hm.goCall_2, Hm.x_mCall, Hm.goFn_0, Hm.goFn_1, Hm.goFn_2, Hm.x_mF, Hm.goM3_0,
    Hm.goM3_1, Hm.goM3_2, Hm.goM2_0, Hm.goM_0, Hm.goM_1, Hm.goM_2, Hm.x_mM1, Hm.goG2_0, Hm.goG2_1, Hm.goG_0, Hm.goG_1, Hm.goG_2, Hm.x_setG, Hm.x_gN, Hm.x_gNil, Hm.goGs_0, Hm.goGs_1, Hm.x_gCons, Hm.x_gT_tup, Hm.x_gT_lst, Hm.goRs_0,
    Hm.goRs_1, Hm.goRs_2, Hm.x_raiseS, Hm.goW2_0, Hm.goW2_1, Hm.goW_0, Hm.goW_1, Hm.goW_2, Hm.x_mWk, Hm.x_itL, Hm.x_itT, Hm.x_itS, Hm.x_itD, Hm.goMk2_0, Hm.goMk2_1, Hm.goMk_0, Hm.goMk_1, Hm.goMk_2, Hm.x_mMkF, Hm.goRun_0, Hm.goRun_1,
    Hm.goRun_2, Hm.goRun_3, Hm.goRun_4, Hm.goRun_5, Hm.x_runB, Hm.goCh3_0, Hm.goCh3_1, Hm.goCh2_0, Hm.goCh2_1, Hm.goCh2_2, Hm.goCh_0, Hm.goCh_1, Hm.goCh_2, Hm.x_mCh, Hm.goIx_0, Hm.goIx_1, Hm.x_ixl, Hm.x_ixt, Hm.goFor_0, Hm.goFor_1,
    Hm.goFor_2, Hm.x_forS, Hm.goL2_0, Hm.goL2_1, Hm.goL2_2, Hm.goL2_3, Hm.goL2_4, Hm.goL2_5, Hm.goL_0, Hm.goL_1, Hm.x_loopN, Hm.x_loopC, Hm.goR1_0, Hm.goR1_1, Hm.goR1_2, Hm.x_mR1, Hm.goTy_0, Hm.goTy_1, Hm.goTy_2, Hm.goTy_3, Hm.goTy_4,
    Hm.goTy_5, Hm.x_tryS, Hm.goFl_0, Hm.goFl_1, Hm.x_fldH, Hm.x_wipenx, Hm.x_wipert, Hm.x_wipebk, Hm.x_wipect, Hm.x_fzv, Hm.x_fzl, Hm.x_fzd, Hm.x_fine, Hm.x_isNn, Hm.x_isNi, Hm.x_isNs, Hm.x_isNb, Hm.x_isNt, Hm.x_isNl, Hm.x_isNd,
    Hm.x_swD, Hm.x_ewD, slots0, List.map_cons, List.map_nil, List.length_cons, List.length_nil, Nat.reduceSub, Nat.reduceAdd, List.replicate_succ, List.replicate_zero, List.cons_append, List.nil_append, List.append_nil,
    List.getElem?_cons_zero, List.getElem?_cons_succ, List.set_cons_zero, List.set_cons_succ, Bool.false_eq_true, if_true, if_false, ite_true, ite_false, reduceIte, Bool.not_true, Bool.not_false, decide_true, decide_false, Hm.vw_int,
    Hm.vw_str, Hm.vw_bl, Hm.vw_non, Hm.vw_lst, Hm.vw_tup, Hm.vw_dct, Hm.eq_ii, Hm.ne_ii, Hm.eq_bb, Hm.ne_bb, Hm.ln_lst, Hm.ln_tup, Hm.sl_lst, Hm.sl_tup, Hm.ad_ii, Hm.sb_ii, Hm.le_ii, Hm.lt_ii, Hm.gt_ii, Hm.ge_ii, Hm.ng_i, Hm.is_n,
    Hm.nis_n, Hm.tr_bl, Hm.tr_non, Hm.tr_int, Hm.tr_lst, Hm.tr_tup, Hm.tr_dct, Hm.tp_lst, Hm.tp_tup, Hm.in_bl, Hm.at_0, Hm.at_1, Hm.at_2, Hm.at_3, Hm.at_4, Hm.gst_lst, Hm.gst_tup, Hm.sm_0, Hm.sm_1, Hm.sm_2, Hm.sm_3, Hm.sm_4, Hm.sm_5,
    Hm.sm_6, Hm.sm_7, Hm.sm_8, Hm.sm_9, Hm.sm_10, Hm.sm_11, Hm.sm_12, Hm.sm_13, Hm.sm_14, Hm.sm_15, Hm.sm_16, true_and, and_true, Nat.zero_le, Nat.reduceLeDiff, Nat.reduceEqDiff, Nat.reduceLT, List.length_map,
    F_way_in, m_way_in, N_way_in, sp, ew, rest_if, l, sl, f1, h1, lc_str hn (show rest.length ≤ 100000 by omega), nn, Nat.reduceLT, or_self, or_true, true_or, or_false, Bool.false_eq_true]
theorem lway_ev {x : Str} {S : Store} (hs : Sh 900 x) : F__law_way_in [.str x] S = .ok (.val (wayD x)) S := by
  have sp : splitD x (.str "+") S = .ok (.ol ((Sp x 43).map .str)) S := spl_ev hs (by omega)
  have shs := sp_sh (c := 43) hs
  have len := sp_len (c := 43) hs
  obtain ⟨f, rest, e⟩ := sp_ne x 43
  unfold wayD
  rw [e] at sp shs len ⊢
  have sf : Sh 900 f := shs f List.mem_cons_self
  have sr : ∀ y ∈ rest, Sh 900 y := fun y hy => shs y (List.mem_cons_of_mem _ hy)
  have l := ln_str (s := f) (S := S) (by have := sf.le; omega)
  have sl2 := Hm.sl_str (s := f) (S := S) (lo := some (-1)) (hi := none) (by have := sf.le; omega)
  have q := Hm.eq_ss (S := S) (cut_sh (lo := some (-1)) (hi := none) sf).ok r_ok
  have sl := Hm.sl_str (s := f) (S := S) (lo := none) (hi := some ((f.length : Int) - restI f)) (by have := sf.le; omega)
  have f1 : F__law_figures [.str (cutS f none (some ((f.length : Int) - restI f)))] S = _ := figs_ev (S := S) (cut_sh (lo := none) (hi := some ((f.length : Int) - restI f)) sf) (by omega)
  have hn : ∀ y ∈ rest, F__law_need_in [.str y] S = .ok (.val (needD y)) S := fun y hy => lneed_ev (sr y hy)
  have nn := none_ev (S := S) (n := 3) (xs := rest.map needD) (by omega) fun d hd => by
    obtain ⟨y, hy, rfl⟩ := List.mem_map.mp hd
    exact need_nn (sr y hy)
  have ct : cutD ((f :: rest).map D.str) (some 1) none = rest.map D.str := by
    have e1 : HT.sIx ((f :: rest).map D.str).length 0 (some 1) = min 1 ((f :: rest).map D.str).length := HT.sIx_nat _ _ 1
    unfold cutD
    rw [e1]
    have e2 : min 1 ((f :: rest).map D.str).length = 1 := by rw [List.length_map, List.length_cons]; omega
    rw [e2]
    show (((f :: rest).map D.str).drop 1).take _ = _
    rw [List.map_cons]
    show (rest.map D.str).take (((D.str f) :: rest.map D.str).length - 1) = _
    rw [List.length_cons]
    exact List.take_of_length_le (by omega)
  rw [List.map_cons] at ct
  rw [List.length_cons] at len
  have rs := rest_if f
  have rr : ("r" : Str) = ⟨#[114]⟩ := by decide +kernel
  rw [rr] at q
  dsimp only
  generalize figD (cutS f none (some ((f.length : Int) - restI f))) = fd at f1 ⊢
  cases h1 : isN fd <;> cases h2 : (rest.map needD).any isN
  all_goals
    rw [h2] at nn
    simp only [Hm.goS_0, Hm.goS_1, Hm.goS_2, Hm.goS_3, Hm.goS_4, Hm.goS_5, Hm.x_seqS, Hm.goSet_0, Hm.goSet_1, Hm.goSet_2, Hm.x_setS, Hm.goRet_0, Hm.goRet_1, Hm.goRet_2, Hm.x_retS, Hm.goEx_0, Hm.goEx_1, Hm.goEx_2, Hm.x_exprS, Hm.goIf_0, Hm.goIf_1,
    Hm.goIf_2, Hm.goIf_3, Hm.x_ifS, Hm.x_nextS, Hm.x_neverS, Hm.x_retNS, Hm.x_contS, Hm.x_breakS, Hm.goRv_0, Hm.x_retVarS, Hm.goFr_0, Hm.goFr_1, Hm.goFr_2, Hm.x_frzS, Hm.goCel_0, Hm.goCel_1, Hm.goCel_2, Hm.goCel_3, Hm.goCel_4,
    Hm.x_celS, Hm.goV_0, Hm.x_mVar, Hm.x_mK, Hm.goU_0, Hm.goU_1, Hm.goU_2, Hm.x_mUn, Hm.goB2_0, Hm.goB2_1, Hm.goB2_2, Hm.goB_0, Hm.goB_1, Hm.goB_2, Hm.x_mBin, Hm.goT_0, Hm.goT_1, Hm.goT_2, Hm.x_mTst, Hm.goTr2_0, Hm.goTr2_1, Hm.goTr_0,
    Hm.goTr_1, Hm.goTr_2, Hm.x_mTru, Hm.goN_0, Hm.goN_1, Hm.goN_2, Hm.x_mNot, Hm.goAn_0, Hm.goAn_1, Hm.goAn_2, Hm.goAn_3, Hm.goOr_0, Hm.goOr_1, Hm.goOr_2, Hm.goOr_3, Hm.goIe_0, Hm.goIe_1, Hm.goIe_2, Hm.goIe_3, Hm.x_mAnd, Hm.x_mOr,
    Hm.x_mIf, Hm.goNv2_0, Hm.goNv2_1, Hm.goNv_0, Hm.goNv_1, Hm.goNv_2, Hm.x_mNotV, Hm.goOv2_0, Hm.goOv2_1, Hm.goOv2_2, Hm.goOv_0, Hm.goOv_1, Hm.goOv_2, Hm.x_mOrV, Hm.goAv2_0, Hm.goAv2_1, Hm.goAv2_2, Hm.goAv_0, Hm.goAv_1, Hm.goAv_2,
    Hm.x_mAndV, Hm.x_mNil, Hm.goC2_0, Hm.goC2_1, Hm.goC2_2, Hm.goC_0, Hm.goC_1, Hm.goC_2, Hm.x_mCons, Hm.goTp_0, Hm.goTp_1, Hm.goTp_2, Hm.x_mTup, Hm.goLs_0, Hm.goLs_1, Hm.goLs_2, Hm.x_mLst, Hm.x_mNo, Hm.goPt_0, Hm.goPt_1, Hm.goPt_2,
    Hm.x_mPart, Hm.goSl3_0, Hm.goSl3_1, Hm.goSl3_2, Hm.goSl2_0, Hm.goSl2_1, Hm.goSl2_2, Hm.goSl_0, Hm.goSl_1, Hm.goSl_2, Hm.x_mSl, Hm.goCall_0, Hm.goCall_1, Hm.goCall_2, Hm.x_mCall, Hm.goFn_0, Hm.goFn_1, Hm.goFn_2, Hm.x_mF, Hm.goM3_0,
    Hm.goM3_1, Hm.goM3_2, Hm.goM2_0, Hm.goM_0, Hm.goM_1, Hm.goM_2, Hm.x_mM1, Hm.goG2_0, Hm.goG2_1, Hm.goG_0, Hm.goG_1, Hm.goG_2, Hm.x_setG, Hm.x_gN, Hm.x_gNil, Hm.goGs_0, Hm.goGs_1, Hm.x_gCons, Hm.x_gT_tup, Hm.x_gT_lst, Hm.goRs_0,
    Hm.goRs_1, Hm.goRs_2, Hm.x_raiseS, Hm.goW2_0, Hm.goW2_1, Hm.goW_0, Hm.goW_1, Hm.goW_2, Hm.x_mWk, Hm.x_itL, Hm.x_itT, Hm.x_itS, Hm.x_itD, Hm.goMk2_0, Hm.goMk2_1, Hm.goMk_0, Hm.goMk_1, Hm.goMk_2, Hm.x_mMkF, Hm.goRun_0, Hm.goRun_1,
    Hm.goRun_2, Hm.goRun_3, Hm.goRun_4, Hm.goRun_5, Hm.x_runB, Hm.goCh3_0, Hm.goCh3_1, Hm.goCh2_0, Hm.goCh2_1, Hm.goCh2_2, Hm.goCh_0, Hm.goCh_1, Hm.goCh_2, Hm.x_mCh, Hm.goIx_0, Hm.goIx_1, Hm.x_ixl, Hm.x_ixt, Hm.goFor_0, Hm.goFor_1,
    Hm.goFor_2, Hm.x_forS, Hm.goL2_0, Hm.goL2_1, Hm.goL2_2, Hm.goL2_3, Hm.goL2_4, Hm.goL2_5, Hm.goL_0, Hm.goL_1, Hm.x_loopN, Hm.x_loopC, Hm.goR1_0, Hm.goR1_1, Hm.goR1_2, Hm.x_mR1, Hm.goTy_0, Hm.goTy_1, Hm.goTy_2, Hm.goTy_3, Hm.goTy_4,
    Hm.goTy_5, Hm.x_tryS, Hm.goFl_0, Hm.goFl_1, Hm.x_fldH, Hm.x_wipenx, Hm.x_wipert, Hm.x_wipebk, Hm.x_wipect, Hm.x_fzv, Hm.x_fzl, Hm.x_fzd, Hm.x_fine, Hm.x_isNn, Hm.x_isNi, Hm.x_isNs, Hm.x_isNb, Hm.x_isNt, Hm.x_isNl, Hm.x_isNd,
    Hm.x_swD, Hm.x_ewD, slots0, List.map_cons, List.map_nil, List.length_cons, List.length_nil, Nat.reduceSub, Nat.reduceAdd, List.replicate_succ, List.replicate_zero, List.cons_append, List.nil_append, List.append_nil,
    List.getElem?_cons_zero, List.getElem?_cons_succ, List.set_cons_zero, List.set_cons_succ, Bool.false_eq_true, if_true, if_false, ite_true, ite_false, reduceIte, Bool.not_true, Bool.not_false, decide_true, decide_false, Hm.vw_int,
    Hm.vw_str, Hm.vw_bl, Hm.vw_non, Hm.vw_lst, Hm.vw_tup, Hm.vw_dct, Hm.eq_ii, Hm.ne_ii, Hm.eq_bb, Hm.ne_bb, Hm.ln_lst, Hm.ln_tup, Hm.sl_lst, Hm.sl_tup, Hm.ad_ii, Hm.sb_ii, Hm.le_ii, Hm.lt_ii, Hm.gt_ii, Hm.ge_ii, Hm.ng_i, Hm.is_n,
    Hm.nis_n, Hm.tr_bl, Hm.tr_non, Hm.tr_int, Hm.tr_lst, Hm.tr_tup, Hm.tr_dct, Hm.tp_lst, Hm.tp_tup, Hm.in_bl, Hm.at_0, Hm.at_1, Hm.at_2, Hm.at_3, Hm.at_4, Hm.gst_lst, Hm.gst_tup, Hm.sm_0, Hm.sm_1, Hm.sm_2, Hm.sm_3, Hm.sm_4, Hm.sm_5,
    Hm.sm_6, Hm.sm_7, Hm.sm_8, Hm.sm_9, Hm.sm_10, Hm.sm_11, Hm.sm_12, Hm.sm_13, Hm.sm_14, Hm.sm_15, Hm.sm_16, true_and, and_true, Nat.zero_le, Nat.reduceLeDiff, Nat.reduceEqDiff, Nat.reduceLT, List.length_map,
    F__law_way_in, m__law_way_in, N__law_way_in, sp, sl2, rr, q, ct, rest_if, l, sl, f1, h1, lc_str hn (show rest.length ≤ 100000 by omega), nn, Nat.reduceLT, or_self, or_true, true_or, or_false, Bool.false_eq_true]
theorem way_nn {x : Str} (hs : Sh 900 x) : Nn 5 (wayD x) := by
  have shs := sp_sh (c := 43) hs
  have len := sp_len (c := 43) hs
  unfold wayD
  split
  · rename_i f rest e
    rw [e] at shs len
    split
    · exact .inl rfl
    · rename_i h
      rw [not_or] at h
      obtain ⟨i, e2, _⟩ := isN_fig (by simpa using h.1)
      refine .inr (.tup (fun d hd => ?_) (show 3 ≤ 1000 by decide))
      rcases List.mem_cons.mp hd with q | q
      · rw [q, e2]; exact .int
      · rcases List.mem_cons.mp q with q | q
        · rw [q]; exact .int
        · rw [List.mem_singleton.mp q]
          refine .tup (fun z hz => ?_) (by rw [List.length_map]; rw [List.length_cons] at len; omega)
          obtain ⟨y, hy, rfl⟩ := List.mem_map.mp hz
          have nz : isN (needD y) = false := by
            cases hh : isN (needD y) with
            | false => rfl
            | true => exact absurd (List.any_eq_true.mpr ⟨_, hz, hh⟩) h.2
          rcases need_nn (shs y (List.mem_cons_of_mem _ hy)) with w | w
          · rw [w] at nz; cases nz
          · exact w
  · exact .inl rfl
def waysD (x : Str) : D := if ((Sp x 47).map wayD).any isN = true then .non else .tup ((Sp x 47).map wayD)
theorem ways_ev {x : Str} {S : Store} (hs : Sh 900 x) : F_ways_in [.str x] S = .ok (.val (waysD x)) S := by
  have sp : splitD x (.str "/") S = .ok (.ol ((Sp x 47).map .str)) S := spl_ev hs (by omega)
  have shs := sp_sh (c := 47) hs
  have len := sp_len (c := 47) hs
  unfold waysD
  generalize Sp x 47 = ws at *
  have hw : ∀ y ∈ ws, F_way_in [.str y] S = .ok (.val (wayD y)) S := fun y hy => way_ev (shs y hy)
  have nn := none_ev (S := S) (n := 5) (xs := ws.map wayD) (by omega) fun d hd => by
    obtain ⟨y, hy, rfl⟩ := List.mem_map.mp hd
    exact way_nn (shs y hy)
  cases h2 : (ws.map wayD).any isN
  all_goals
    rw [h2] at nn
    simp only [Hm.goS_0, Hm.goS_1, Hm.goS_2, Hm.goS_3, Hm.goS_4, Hm.goS_5, Hm.x_seqS, Hm.goSet_0, Hm.goSet_1, Hm.goSet_2, Hm.x_setS, Hm.goRet_0, Hm.goRet_1, Hm.goRet_2, Hm.x_retS, Hm.goEx_0, Hm.goEx_1, Hm.goEx_2, Hm.x_exprS, Hm.goIf_0, Hm.goIf_1,
    Hm.goIf_2, Hm.goIf_3, Hm.x_ifS, Hm.x_nextS, Hm.x_neverS, Hm.x_retNS, Hm.x_contS, Hm.x_breakS, Hm.goRv_0, Hm.x_retVarS, Hm.goFr_0, Hm.goFr_1, Hm.goFr_2, Hm.x_frzS, Hm.goCel_0, Hm.goCel_1, Hm.goCel_2, Hm.goCel_3, Hm.goCel_4,
    Hm.x_celS, Hm.goV_0, Hm.x_mVar, Hm.x_mK, Hm.goU_0, Hm.goU_1, Hm.goU_2, Hm.x_mUn, Hm.goB2_0, Hm.goB2_1, Hm.goB2_2, Hm.goB_0, Hm.goB_1, Hm.goB_2, Hm.x_mBin, Hm.goT_0, Hm.goT_1, Hm.goT_2, Hm.x_mTst, Hm.goTr2_0, Hm.goTr2_1, Hm.goTr_0,
    Hm.goTr_1, Hm.goTr_2, Hm.x_mTru, Hm.goN_0, Hm.goN_1, Hm.goN_2, Hm.x_mNot, Hm.goAn_0, Hm.goAn_1, Hm.goAn_2, Hm.goAn_3, Hm.goOr_0, Hm.goOr_1, Hm.goOr_2, Hm.goOr_3, Hm.goIe_0, Hm.goIe_1, Hm.goIe_2, Hm.goIe_3, Hm.x_mAnd, Hm.x_mOr,
    Hm.x_mIf, Hm.goNv2_0, Hm.goNv2_1, Hm.goNv_0, Hm.goNv_1, Hm.goNv_2, Hm.x_mNotV, Hm.goOv2_0, Hm.goOv2_1, Hm.goOv2_2, Hm.goOv_0, Hm.goOv_1, Hm.goOv_2, Hm.x_mOrV, Hm.goAv2_0, Hm.goAv2_1, Hm.goAv2_2, Hm.goAv_0, Hm.goAv_1, Hm.goAv_2,
    Hm.x_mAndV, Hm.x_mNil, Hm.goC2_0, Hm.goC2_1, Hm.goC2_2, Hm.goC_0, Hm.goC_1, Hm.goC_2, Hm.x_mCons, Hm.goTp_0, Hm.goTp_1, Hm.goTp_2, Hm.x_mTup, Hm.goLs_0, Hm.goLs_1, Hm.goLs_2, Hm.x_mLst, Hm.x_mNo, Hm.goPt_0, Hm.goPt_1, Hm.goPt_2,
    Hm.x_mPart, Hm.goSl3_0, Hm.goSl3_1, Hm.goSl3_2, Hm.goSl2_0, Hm.goSl2_1, Hm.goSl2_2, Hm.goSl_0, Hm.goSl_1, Hm.goSl_2, Hm.x_mSl, Hm.goCall_0, Hm.goCall_1, Hm.goCall_2, Hm.x_mCall, Hm.goFn_0, Hm.goFn_1, Hm.goFn_2, Hm.x_mF, Hm.goM3_0,
    Hm.goM3_1, Hm.goM3_2, Hm.goM2_0, Hm.goM_0, Hm.goM_1, Hm.goM_2, Hm.x_mM1, Hm.goG2_0, Hm.goG2_1, Hm.goG_0, Hm.goG_1, Hm.goG_2, Hm.x_setG, Hm.x_gN, Hm.x_gNil, Hm.goGs_0, Hm.goGs_1, Hm.x_gCons, Hm.x_gT_tup, Hm.x_gT_lst, Hm.goRs_0,
    Hm.goRs_1, Hm.goRs_2, Hm.x_raiseS, Hm.goW2_0, Hm.goW2_1, Hm.goW_0, Hm.goW_1, Hm.goW_2, Hm.x_mWk, Hm.x_itL, Hm.x_itT, Hm.x_itS, Hm.x_itD, Hm.goMk2_0, Hm.goMk2_1, Hm.goMk_0, Hm.goMk_1, Hm.goMk_2, Hm.x_mMkF, Hm.goRun_0, Hm.goRun_1,
    Hm.goRun_2, Hm.goRun_3, Hm.goRun_4, Hm.goRun_5, Hm.x_runB, Hm.goCh3_0, Hm.goCh3_1, Hm.goCh2_0, Hm.goCh2_1, Hm.goCh2_2, Hm.goCh_0, Hm.goCh_1, Hm.goCh_2, Hm.x_mCh, Hm.goIx_0, Hm.goIx_1, Hm.x_ixl, Hm.x_ixt, Hm.goFor_0, Hm.goFor_1,
    Hm.goFor_2, Hm.x_forS, Hm.goL2_0, Hm.goL2_1, Hm.goL2_2, Hm.goL2_3, Hm.goL2_4, Hm.goL2_5, Hm.goL_0, Hm.goL_1, Hm.x_loopN, Hm.x_loopC, Hm.goR1_0, Hm.goR1_1, Hm.goR1_2, Hm.x_mR1, Hm.goTy_0, Hm.goTy_1, Hm.goTy_2, Hm.goTy_3, Hm.goTy_4,
    Hm.goTy_5, Hm.x_tryS, Hm.goFl_0, Hm.goFl_1, Hm.x_fldH, Hm.x_wipenx, Hm.x_wipert, Hm.x_wipebk, Hm.x_wipect, Hm.x_fzv, Hm.x_fzl, Hm.x_fzd, Hm.x_fine, Hm.x_isNn, Hm.x_isNi, Hm.x_isNs, Hm.x_isNb, Hm.x_isNt, Hm.x_isNl, Hm.x_isNd,
    Hm.x_swD, Hm.x_ewD, slots0, List.map_cons, List.map_nil, List.length_cons, List.length_nil, Nat.reduceSub, Nat.reduceAdd, List.replicate_succ, List.replicate_zero, List.cons_append, List.nil_append, List.append_nil,
    List.getElem?_cons_zero, List.getElem?_cons_succ, List.set_cons_zero, List.set_cons_succ, Bool.false_eq_true, if_true, if_false, ite_true, ite_false, reduceIte, Bool.not_true, Bool.not_false, decide_true, decide_false, Hm.vw_int,
    Hm.vw_str, Hm.vw_bl, Hm.vw_non, Hm.vw_lst, Hm.vw_tup, Hm.vw_dct, Hm.eq_ii, Hm.ne_ii, Hm.eq_bb, Hm.ne_bb, Hm.ln_lst, Hm.ln_tup, Hm.sl_lst, Hm.sl_tup, Hm.ad_ii, Hm.sb_ii, Hm.le_ii, Hm.lt_ii, Hm.gt_ii, Hm.ge_ii, Hm.ng_i, Hm.is_n,
    Hm.nis_n, Hm.tr_bl, Hm.tr_non, Hm.tr_int, Hm.tr_lst, Hm.tr_tup, Hm.tr_dct, Hm.tp_lst, Hm.tp_tup, Hm.in_bl, Hm.at_0, Hm.at_1, Hm.at_2, Hm.at_3, Hm.at_4, Hm.gst_lst, Hm.gst_tup, Hm.sm_0, Hm.sm_1, Hm.sm_2, Hm.sm_3, Hm.sm_4, Hm.sm_5,
    Hm.sm_6, Hm.sm_7, Hm.sm_8, Hm.sm_9, Hm.sm_10, Hm.sm_11, Hm.sm_12, Hm.sm_13, Hm.sm_14, Hm.sm_15, Hm.sm_16, true_and, and_true, Nat.zero_le, Nat.reduceLeDiff, Nat.reduceEqDiff, Nat.reduceLT, List.length_map,
    F_ways_in, m_ways_in, N_ways_in, sp, lc_str hw (show ws.length ≤ 100000 by omega), nn, Nat.reduceLT]
theorem ways_nn {x : Str} (hs : Sh 900 x) : Nn 6 (waysD x) := by
  have shs := sp_sh (c := 47) hs
  have len := sp_len (c := 47) hs
  unfold waysD
  split
  · exact .inl rfl
  · rename_i h
    refine .inr (.tup (fun z hz => ?_) (by rw [List.length_map]; omega))
    obtain ⟨y, hy, rfl⟩ := List.mem_map.mp hz
    have nz : isN (wayD y) = false := by
      cases hh : isN (wayD y) with
      | false => rfl
      | true => exact absurd (List.any_eq_true.mpr ⟨_, hz, hh⟩) h
    rcases way_nn (shs y hy) with w | w
    · rw [w] at nz; cases nz
    · exact w
/-! ### a thing of a kind -/
def thD (c : Nat) (x : Str) : D := if c = 110 then (if nameB x = true then .str x else .non) else if c = 107 then numD x else waysD x
theorem th_nn {c : Nat} {x : Str} (hs : Sh 900 x) : Nn 6 (thD c x) := by
  unfold thD
  split
  · split
    · exact .inr (.str hs.ok)
    · exact .inl rfl
  · split
    · exact num_nn x
    · exact ways_nn hs
theorem th_ev {c : Nat} {x : Str} {S : Store} (hs : Sh 900 x) (hc : c = 110 ∨ c = 107 ∨ c = 119) : F_thing_in [.str ⟨#[c]⟩, .str x] S = .ok (.val (thD c x)) S := by
  have nm := name_ev (x := x) (S := S) (by have := hs.le; omega)
  have v1 : vt_thing_in "name_in" = some F_name_in := if_pos rfl
  have v2 : vt_thing_in "number_in" = some F_number_in := by unfold vt_thing_in; rw [if_neg (by decide +kernel), if_pos rfl]
  have v3 : vt_thing_in "ways_in" = some F_ways_in := by unfold vt_thing_in; rw [if_neg (by decide +kernel), if_neg (by decide +kernel), if_pos rfl]
  rcases hc with rfl | rfl | rfl
  · have t : tabIx tab_READERS (.str ⟨#[110]⟩) S = .ok (.val (.obj "name_in")) S := rfl
    show _ = Res.ok (DV.val (if nameB x = true then D.str x else D.non)) S
    cases h : nameB x <;> (rw [h] at nm; simp only [Hm.goS_0, Hm.goS_1, Hm.goS_2, Hm.goS_3, Hm.goS_4, Hm.goS_5, Hm.x_seqS, Hm.goSet_0, Hm.goSet_1, Hm.goSet_2, Hm.x_setS, Hm.goRet_0, Hm.goRet_1, Hm.goRet_2, Hm.x_retS, Hm.goEx_0, Hm.goEx_1, Hm.goEx_2, Hm.x_exprS, Hm.goIf_0, Hm.goIf_1,
    Hm.goIf_2, Hm.goIf_3, Hm.x_ifS, Hm.x_nextS, Hm.x_neverS, Hm.x_retNS, Hm.x_contS, Hm.x_breakS, Hm.goRv_0, Hm.x_retVarS, Hm.goFr_0, Hm.goFr_1, Hm.goFr_2, Hm.x_frzS, Hm.goCel_0, Hm.goCel_1, Hm.goCel_2, Hm.goCel_3, Hm.goCel_4,
    Hm.x_celS, Hm.goV_0, Hm.x_mVar, Hm.x_mK, Hm.goU_0, Hm.goU_1, Hm.goU_2, Hm.x_mUn, Hm.goB2_0, Hm.goB2_1, Hm.goB2_2, Hm.goB_0, Hm.goB_1, Hm.goB_2, Hm.x_mBin, Hm.goT_0, Hm.goT_1, Hm.goT_2, Hm.x_mTst, Hm.goTr2_0, Hm.goTr2_1, Hm.goTr_0,
    Hm.goTr_1, Hm.goTr_2, Hm.x_mTru, Hm.goN_0, Hm.goN_1, Hm.goN_2, Hm.x_mNot, Hm.goAn_0, Hm.goAn_1, Hm.goAn_2, Hm.goAn_3, Hm.goOr_0, Hm.goOr_1, Hm.goOr_2, Hm.goOr_3, Hm.goIe_0, Hm.goIe_1, Hm.goIe_2, Hm.goIe_3, Hm.x_mAnd, Hm.x_mOr,
    Hm.x_mIf, Hm.goNv2_0, Hm.goNv2_1, Hm.goNv_0, Hm.goNv_1, Hm.goNv_2, Hm.x_mNotV, Hm.goOv2_0, Hm.goOv2_1, Hm.goOv2_2, Hm.goOv_0, Hm.goOv_1, Hm.goOv_2, Hm.x_mOrV, Hm.goAv2_0, Hm.goAv2_1, Hm.goAv2_2, Hm.goAv_0, Hm.goAv_1, Hm.goAv_2,
    Hm.x_mAndV, Hm.x_mNil, Hm.goC2_0, Hm.goC2_1, Hm.goC2_2, Hm.goC_0, Hm.goC_1, Hm.goC_2, Hm.x_mCons, Hm.goTp_0, Hm.goTp_1, Hm.goTp_2, Hm.x_mTup, Hm.goLs_0, Hm.goLs_1, Hm.goLs_2, Hm.x_mLst, Hm.x_mNo, Hm.goPt_0, Hm.goPt_1, Hm.goPt_2,
    Hm.x_mPart, Hm.goSl3_0, Hm.goSl3_1, Hm.goSl3_2, Hm.goSl2_0, Hm.goSl2_1, Hm.goSl2_2, Hm.goSl_0, Hm.goSl_1, Hm.goSl_2, Hm.x_mSl, Hm.goCall_0, Hm.goCall_1, Hm.goCall_2, Hm.x_mCall, Hm.goFn_0, Hm.goFn_1, Hm.goFn_2, Hm.x_mF, Hm.goM3_0,
    Hm.goM3_1, Hm.goM3_2, Hm.goM2_0, Hm.goM_0, Hm.goM_1, Hm.goM_2, Hm.x_mM1, Hm.goG2_0, Hm.goG2_1, Hm.goG_0, Hm.goG_1, Hm.goG_2, Hm.x_setG, Hm.x_gN, Hm.x_gNil, Hm.goGs_0, Hm.goGs_1, Hm.x_gCons, Hm.x_gT_tup, Hm.x_gT_lst, Hm.goRs_0,
    Hm.goRs_1, Hm.goRs_2, Hm.x_raiseS, Hm.goW2_0, Hm.goW2_1, Hm.goW_0, Hm.goW_1, Hm.goW_2, Hm.x_mWk, Hm.x_itL, Hm.x_itT, Hm.x_itS, Hm.x_itD, Hm.goMk2_0, Hm.goMk2_1, Hm.goMk_0, Hm.goMk_1, Hm.goMk_2, Hm.x_mMkF, Hm.goRun_0, Hm.goRun_1,
    Hm.goRun_2, Hm.goRun_3, Hm.goRun_4, Hm.goRun_5, Hm.x_runB, Hm.goCh3_0, Hm.goCh3_1, Hm.goCh2_0, Hm.goCh2_1, Hm.goCh2_2, Hm.goCh_0, Hm.goCh_1, Hm.goCh_2, Hm.x_mCh, Hm.goIx_0, Hm.goIx_1, Hm.x_ixl, Hm.x_ixt, Hm.goFor_0, Hm.goFor_1,
    Hm.goFor_2, Hm.x_forS, Hm.goL2_0, Hm.goL2_1, Hm.goL2_2, Hm.goL2_3, Hm.goL2_4, Hm.goL2_5, Hm.goL_0, Hm.goL_1, Hm.x_loopN, Hm.x_loopC, Hm.goR1_0, Hm.goR1_1, Hm.goR1_2, Hm.x_mR1, Hm.goTy_0, Hm.goTy_1, Hm.goTy_2, Hm.goTy_3, Hm.goTy_4,
    Hm.goTy_5, Hm.x_tryS, Hm.goFl_0, Hm.goFl_1, Hm.x_fldH, Hm.x_wipenx, Hm.x_wipert, Hm.x_wipebk, Hm.x_wipect, Hm.x_fzv, Hm.x_fzl, Hm.x_fzd, Hm.x_fine, Hm.x_isNn, Hm.x_isNi, Hm.x_isNs, Hm.x_isNb, Hm.x_isNt, Hm.x_isNl, Hm.x_isNd,
    Hm.x_swD, Hm.x_ewD, slots0, List.map_cons, List.map_nil, List.length_cons, List.length_nil, Nat.reduceSub, Nat.reduceAdd, List.replicate_succ, List.replicate_zero, List.cons_append, List.nil_append, List.append_nil,
    List.getElem?_cons_zero, List.getElem?_cons_succ, List.set_cons_zero, List.set_cons_succ, Bool.false_eq_true, if_true, if_false, ite_true, ite_false, reduceIte, Bool.not_true, Bool.not_false, decide_true, decide_false, Hm.vw_int,
    Hm.vw_str, Hm.vw_bl, Hm.vw_non, Hm.vw_lst, Hm.vw_tup, Hm.vw_dct, Hm.eq_ii, Hm.ne_ii, Hm.eq_bb, Hm.ne_bb, Hm.ln_lst, Hm.ln_tup, Hm.sl_lst, Hm.sl_tup, Hm.ad_ii, Hm.sb_ii, Hm.le_ii, Hm.lt_ii, Hm.gt_ii, Hm.ge_ii, Hm.ng_i, Hm.is_n,
    Hm.nis_n, Hm.tr_bl, Hm.tr_non, Hm.tr_int, Hm.tr_lst, Hm.tr_tup, Hm.tr_dct, Hm.tp_lst, Hm.tp_tup, Hm.in_bl, Hm.at_0, Hm.at_1, Hm.at_2, Hm.at_3, Hm.at_4, Hm.gst_lst, Hm.gst_tup, Hm.sm_0, Hm.sm_1, Hm.sm_2, Hm.sm_3, Hm.sm_4, Hm.sm_5,
    Hm.sm_6, Hm.sm_7, Hm.sm_8, Hm.sm_9, Hm.sm_10, Hm.sm_11, Hm.sm_12, Hm.sm_13, Hm.sm_14, Hm.sm_15, Hm.sm_16, true_and, and_true, Nat.zero_le, Nat.reduceLeDiff, Nat.reduceEqDiff, Nat.reduceLT, List.length_map,
    F_thing_in, m_thing_in, N_thing_in, t, mCallV, v1, F_name_in, m_name_in, N_name_in, nm])
  · have t : tabIx tab_READERS (.str ⟨#[107]⟩) S = .ok (.val (.obj "number_in")) S := rfl
    show _ = Res.ok (DV.val (numD x)) S
    simp only [Hm.goS_0, Hm.goS_1, Hm.goS_2, Hm.goS_3, Hm.goS_4, Hm.goS_5, Hm.x_seqS, Hm.goSet_0, Hm.goSet_1, Hm.goSet_2, Hm.x_setS, Hm.goRet_0, Hm.goRet_1, Hm.goRet_2, Hm.x_retS, Hm.goEx_0, Hm.goEx_1, Hm.goEx_2, Hm.x_exprS, Hm.goIf_0, Hm.goIf_1,
    Hm.goIf_2, Hm.goIf_3, Hm.x_ifS, Hm.x_nextS, Hm.x_neverS, Hm.x_retNS, Hm.x_contS, Hm.x_breakS, Hm.goRv_0, Hm.x_retVarS, Hm.goFr_0, Hm.goFr_1, Hm.goFr_2, Hm.x_frzS, Hm.goCel_0, Hm.goCel_1, Hm.goCel_2, Hm.goCel_3, Hm.goCel_4,
    Hm.x_celS, Hm.goV_0, Hm.x_mVar, Hm.x_mK, Hm.goU_0, Hm.goU_1, Hm.goU_2, Hm.x_mUn, Hm.goB2_0, Hm.goB2_1, Hm.goB2_2, Hm.goB_0, Hm.goB_1, Hm.goB_2, Hm.x_mBin, Hm.goT_0, Hm.goT_1, Hm.goT_2, Hm.x_mTst, Hm.goTr2_0, Hm.goTr2_1, Hm.goTr_0,
    Hm.goTr_1, Hm.goTr_2, Hm.x_mTru, Hm.goN_0, Hm.goN_1, Hm.goN_2, Hm.x_mNot, Hm.goAn_0, Hm.goAn_1, Hm.goAn_2, Hm.goAn_3, Hm.goOr_0, Hm.goOr_1, Hm.goOr_2, Hm.goOr_3, Hm.goIe_0, Hm.goIe_1, Hm.goIe_2, Hm.goIe_3, Hm.x_mAnd, Hm.x_mOr,
    Hm.x_mIf, Hm.goNv2_0, Hm.goNv2_1, Hm.goNv_0, Hm.goNv_1, Hm.goNv_2, Hm.x_mNotV, Hm.goOv2_0, Hm.goOv2_1, Hm.goOv2_2, Hm.goOv_0, Hm.goOv_1, Hm.goOv_2, Hm.x_mOrV, Hm.goAv2_0, Hm.goAv2_1, Hm.goAv2_2, Hm.goAv_0, Hm.goAv_1, Hm.goAv_2,
    Hm.x_mAndV, Hm.x_mNil, Hm.goC2_0, Hm.goC2_1, Hm.goC2_2, Hm.goC_0, Hm.goC_1, Hm.goC_2, Hm.x_mCons, Hm.goTp_0, Hm.goTp_1, Hm.goTp_2, Hm.x_mTup, Hm.goLs_0, Hm.goLs_1, Hm.goLs_2, Hm.x_mLst, Hm.x_mNo, Hm.goPt_0, Hm.goPt_1, Hm.goPt_2,
    Hm.x_mPart, Hm.goSl3_0, Hm.goSl3_1, Hm.goSl3_2, Hm.goSl2_0, Hm.goSl2_1, Hm.goSl2_2, Hm.goSl_0, Hm.goSl_1, Hm.goSl_2, Hm.x_mSl, Hm.goCall_0, Hm.goCall_1, Hm.goCall_2, Hm.x_mCall, Hm.goFn_0, Hm.goFn_1, Hm.goFn_2, Hm.x_mF, Hm.goM3_0,
    Hm.goM3_1, Hm.goM3_2, Hm.goM2_0, Hm.goM_0, Hm.goM_1, Hm.goM_2, Hm.x_mM1, Hm.goG2_0, Hm.goG2_1, Hm.goG_0, Hm.goG_1, Hm.goG_2, Hm.x_setG, Hm.x_gN, Hm.x_gNil, Hm.goGs_0, Hm.goGs_1, Hm.x_gCons, Hm.x_gT_tup, Hm.x_gT_lst, Hm.goRs_0,
    Hm.goRs_1, Hm.goRs_2, Hm.x_raiseS, Hm.goW2_0, Hm.goW2_1, Hm.goW_0, Hm.goW_1, Hm.goW_2, Hm.x_mWk, Hm.x_itL, Hm.x_itT, Hm.x_itS, Hm.x_itD, Hm.goMk2_0, Hm.goMk2_1, Hm.goMk_0, Hm.goMk_1, Hm.goMk_2, Hm.x_mMkF, Hm.goRun_0, Hm.goRun_1,
    Hm.goRun_2, Hm.goRun_3, Hm.goRun_4, Hm.goRun_5, Hm.x_runB, Hm.goCh3_0, Hm.goCh3_1, Hm.goCh2_0, Hm.goCh2_1, Hm.goCh2_2, Hm.goCh_0, Hm.goCh_1, Hm.goCh_2, Hm.x_mCh, Hm.goIx_0, Hm.goIx_1, Hm.x_ixl, Hm.x_ixt, Hm.goFor_0, Hm.goFor_1,
    Hm.goFor_2, Hm.x_forS, Hm.goL2_0, Hm.goL2_1, Hm.goL2_2, Hm.goL2_3, Hm.goL2_4, Hm.goL2_5, Hm.goL_0, Hm.goL_1, Hm.x_loopN, Hm.x_loopC, Hm.goR1_0, Hm.goR1_1, Hm.goR1_2, Hm.x_mR1, Hm.goTy_0, Hm.goTy_1, Hm.goTy_2, Hm.goTy_3, Hm.goTy_4,
    Hm.goTy_5, Hm.x_tryS, Hm.goFl_0, Hm.goFl_1, Hm.x_fldH, Hm.x_wipenx, Hm.x_wipert, Hm.x_wipebk, Hm.x_wipect, Hm.x_fzv, Hm.x_fzl, Hm.x_fzd, Hm.x_fine, Hm.x_isNn, Hm.x_isNi, Hm.x_isNs, Hm.x_isNb, Hm.x_isNt, Hm.x_isNl, Hm.x_isNd,
    Hm.x_swD, Hm.x_ewD, slots0, List.map_cons, List.map_nil, List.length_cons, List.length_nil, Nat.reduceSub, Nat.reduceAdd, List.replicate_succ, List.replicate_zero, List.cons_append, List.nil_append, List.append_nil,
    List.getElem?_cons_zero, List.getElem?_cons_succ, List.set_cons_zero, List.set_cons_succ, Bool.false_eq_true, if_true, if_false, ite_true, ite_false, reduceIte, Bool.not_true, Bool.not_false, decide_true, decide_false, Hm.vw_int,
    Hm.vw_str, Hm.vw_bl, Hm.vw_non, Hm.vw_lst, Hm.vw_tup, Hm.vw_dct, Hm.eq_ii, Hm.ne_ii, Hm.eq_bb, Hm.ne_bb, Hm.ln_lst, Hm.ln_tup, Hm.sl_lst, Hm.sl_tup, Hm.ad_ii, Hm.sb_ii, Hm.le_ii, Hm.lt_ii, Hm.gt_ii, Hm.ge_ii, Hm.ng_i, Hm.is_n,
    Hm.nis_n, Hm.tr_bl, Hm.tr_non, Hm.tr_int, Hm.tr_lst, Hm.tr_tup, Hm.tr_dct, Hm.tp_lst, Hm.tp_tup, Hm.in_bl, Hm.at_0, Hm.at_1, Hm.at_2, Hm.at_3, Hm.at_4, Hm.gst_lst, Hm.gst_tup, Hm.sm_0, Hm.sm_1, Hm.sm_2, Hm.sm_3, Hm.sm_4, Hm.sm_5,
    Hm.sm_6, Hm.sm_7, Hm.sm_8, Hm.sm_9, Hm.sm_10, Hm.sm_11, Hm.sm_12, Hm.sm_13, Hm.sm_14, Hm.sm_15, Hm.sm_16, true_and, and_true, Nat.zero_le, Nat.reduceLeDiff, Nat.reduceEqDiff, Nat.reduceLT, List.length_map,
    F_thing_in, m_thing_in, N_thing_in, t, mCallV, v2, num_ev hs]
  · have t : tabIx tab_READERS (.str ⟨#[119]⟩) S = .ok (.val (.obj "ways_in")) S := rfl
    show _ = Res.ok (DV.val (waysD x)) S
    simp only [Hm.goS_0, Hm.goS_1, Hm.goS_2, Hm.goS_3, Hm.goS_4, Hm.goS_5, Hm.x_seqS, Hm.goSet_0, Hm.goSet_1, Hm.goSet_2, Hm.x_setS, Hm.goRet_0, Hm.goRet_1, Hm.goRet_2, Hm.x_retS, Hm.goEx_0, Hm.goEx_1, Hm.goEx_2, Hm.x_exprS, Hm.goIf_0, Hm.goIf_1,
    Hm.goIf_2, Hm.goIf_3, Hm.x_ifS, Hm.x_nextS, Hm.x_neverS, Hm.x_retNS, Hm.x_contS, Hm.x_breakS, Hm.goRv_0, Hm.x_retVarS, Hm.goFr_0, Hm.goFr_1, Hm.goFr_2, Hm.x_frzS, Hm.goCel_0, Hm.goCel_1, Hm.goCel_2, Hm.goCel_3, Hm.goCel_4,
    Hm.x_celS, Hm.goV_0, Hm.x_mVar, Hm.x_mK, Hm.goU_0, Hm.goU_1, Hm.goU_2, Hm.x_mUn, Hm.goB2_0, Hm.goB2_1, Hm.goB2_2, Hm.goB_0, Hm.goB_1, Hm.goB_2, Hm.x_mBin, Hm.goT_0, Hm.goT_1, Hm.goT_2, Hm.x_mTst, Hm.goTr2_0, Hm.goTr2_1, Hm.goTr_0,
    Hm.goTr_1, Hm.goTr_2, Hm.x_mTru, Hm.goN_0, Hm.goN_1, Hm.goN_2, Hm.x_mNot, Hm.goAn_0, Hm.goAn_1, Hm.goAn_2, Hm.goAn_3, Hm.goOr_0, Hm.goOr_1, Hm.goOr_2, Hm.goOr_3, Hm.goIe_0, Hm.goIe_1, Hm.goIe_2, Hm.goIe_3, Hm.x_mAnd, Hm.x_mOr,
    Hm.x_mIf, Hm.goNv2_0, Hm.goNv2_1, Hm.goNv_0, Hm.goNv_1, Hm.goNv_2, Hm.x_mNotV, Hm.goOv2_0, Hm.goOv2_1, Hm.goOv2_2, Hm.goOv_0, Hm.goOv_1, Hm.goOv_2, Hm.x_mOrV, Hm.goAv2_0, Hm.goAv2_1, Hm.goAv2_2, Hm.goAv_0, Hm.goAv_1, Hm.goAv_2,
    Hm.x_mAndV, Hm.x_mNil, Hm.goC2_0, Hm.goC2_1, Hm.goC2_2, Hm.goC_0, Hm.goC_1, Hm.goC_2, Hm.x_mCons, Hm.goTp_0, Hm.goTp_1, Hm.goTp_2, Hm.x_mTup, Hm.goLs_0, Hm.goLs_1, Hm.goLs_2, Hm.x_mLst, Hm.x_mNo, Hm.goPt_0, Hm.goPt_1, Hm.goPt_2,
    Hm.x_mPart, Hm.goSl3_0, Hm.goSl3_1, Hm.goSl3_2, Hm.goSl2_0, Hm.goSl2_1, Hm.goSl2_2, Hm.goSl_0, Hm.goSl_1, Hm.goSl_2, Hm.x_mSl, Hm.goCall_0, Hm.goCall_1, Hm.goCall_2, Hm.x_mCall, Hm.goFn_0, Hm.goFn_1, Hm.goFn_2, Hm.x_mF, Hm.goM3_0,
    Hm.goM3_1, Hm.goM3_2, Hm.goM2_0, Hm.goM_0, Hm.goM_1, Hm.goM_2, Hm.x_mM1, Hm.goG2_0, Hm.goG2_1, Hm.goG_0, Hm.goG_1, Hm.goG_2, Hm.x_setG, Hm.x_gN, Hm.x_gNil, Hm.goGs_0, Hm.goGs_1, Hm.x_gCons, Hm.x_gT_tup, Hm.x_gT_lst, Hm.goRs_0,
    Hm.goRs_1, Hm.goRs_2, Hm.x_raiseS, Hm.goW2_0, Hm.goW2_1, Hm.goW_0, Hm.goW_1, Hm.goW_2, Hm.x_mWk, Hm.x_itL, Hm.x_itT, Hm.x_itS, Hm.x_itD, Hm.goMk2_0, Hm.goMk2_1, Hm.goMk_0, Hm.goMk_1, Hm.goMk_2, Hm.x_mMkF, Hm.goRun_0, Hm.goRun_1,
    Hm.goRun_2, Hm.goRun_3, Hm.goRun_4, Hm.goRun_5, Hm.x_runB, Hm.goCh3_0, Hm.goCh3_1, Hm.goCh2_0, Hm.goCh2_1, Hm.goCh2_2, Hm.goCh_0, Hm.goCh_1, Hm.goCh_2, Hm.x_mCh, Hm.goIx_0, Hm.goIx_1, Hm.x_ixl, Hm.x_ixt, Hm.goFor_0, Hm.goFor_1,
    Hm.goFor_2, Hm.x_forS, Hm.goL2_0, Hm.goL2_1, Hm.goL2_2, Hm.goL2_3, Hm.goL2_4, Hm.goL2_5, Hm.goL_0, Hm.goL_1, Hm.x_loopN, Hm.x_loopC, Hm.goR1_0, Hm.goR1_1, Hm.goR1_2, Hm.x_mR1, Hm.goTy_0, Hm.goTy_1, Hm.goTy_2, Hm.goTy_3, Hm.goTy_4,
    Hm.goTy_5, Hm.x_tryS, Hm.goFl_0, Hm.goFl_1, Hm.x_fldH, Hm.x_wipenx, Hm.x_wipert, Hm.x_wipebk, Hm.x_wipect, Hm.x_fzv, Hm.x_fzl, Hm.x_fzd, Hm.x_fine, Hm.x_isNn, Hm.x_isNi, Hm.x_isNs, Hm.x_isNb, Hm.x_isNt, Hm.x_isNl, Hm.x_isNd,
    Hm.x_swD, Hm.x_ewD, slots0, List.map_cons, List.map_nil, List.length_cons, List.length_nil, Nat.reduceSub, Nat.reduceAdd, List.replicate_succ, List.replicate_zero, List.cons_append, List.nil_append, List.append_nil,
    List.getElem?_cons_zero, List.getElem?_cons_succ, List.set_cons_zero, List.set_cons_succ, Bool.false_eq_true, if_true, if_false, ite_true, ite_false, reduceIte, Bool.not_true, Bool.not_false, decide_true, decide_false, Hm.vw_int,
    Hm.vw_str, Hm.vw_bl, Hm.vw_non, Hm.vw_lst, Hm.vw_tup, Hm.vw_dct, Hm.eq_ii, Hm.ne_ii, Hm.eq_bb, Hm.ne_bb, Hm.ln_lst, Hm.ln_tup, Hm.sl_lst, Hm.sl_tup, Hm.ad_ii, Hm.sb_ii, Hm.le_ii, Hm.lt_ii, Hm.gt_ii, Hm.ge_ii, Hm.ng_i, Hm.is_n,
    Hm.nis_n, Hm.tr_bl, Hm.tr_non, Hm.tr_int, Hm.tr_lst, Hm.tr_tup, Hm.tr_dct, Hm.tp_lst, Hm.tp_tup, Hm.in_bl, Hm.at_0, Hm.at_1, Hm.at_2, Hm.at_3, Hm.at_4, Hm.gst_lst, Hm.gst_tup, Hm.sm_0, Hm.sm_1, Hm.sm_2, Hm.sm_3, Hm.sm_4, Hm.sm_5,
    Hm.sm_6, Hm.sm_7, Hm.sm_8, Hm.sm_9, Hm.sm_10, Hm.sm_11, Hm.sm_12, Hm.sm_13, Hm.sm_14, Hm.sm_15, Hm.sm_16, true_and, and_true, Nat.zero_le, Nat.reduceLeDiff, Nat.reduceEqDiff, Nat.reduceLT, List.length_map,
    F_thing_in, m_thing_in, N_thing_in, t, mCallV, v3, ways_ev hs]
theorem one_ok {c : Nat} (h : c < 1000) : PyData.strOk ⟨#[c]⟩ = true := ok_iff.mpr fun d hd => by
  rw [List.mem_singleton.mp hd]
  omega
theorem lth_ev {c : Nat} {x : Str} {S : Store} (hs : Sh 900 x) (hc : c = 110 ∨ c = 107 ∨ c = 119) : F__law_thing_in [.str ⟨#[c]⟩, .str x] S = .ok (.val (thD c x)) S := by
  have nm : F__law_named [.str x] S = _ := name_ev (x := x) (S := S) (by have := hs.le; omega)
  have q : ∀ d, d < 1000 → eqD (.str ⟨#[c]⟩) (.str ⟨#[d]⟩) S = .ok (.val (.bl (decide (c = d)))) S := fun d hd => by
    rw [Hm.eq_ss (one_ok (by omega)) (one_ok hd)]
    congr 3
    exact decide_eq_decide.mpr sgn_eq
  have q1 : eqD (.str ⟨#[c]⟩) (.str "n") S = _ := q 110 (by omega)
  have q2 : eqD (.str ⟨#[c]⟩) (.str "k") S = _ := q 107 (by omega)
  have sp : splitD x (.str "/") S = .ok (.ol ((Sp x 47).map .str)) S := spl_ev hs (by omega)
  have shs := sp_sh (c := 47) hs
  have len := sp_len (c := 47) hs
  unfold thD waysD
  generalize Sp x 47 = ws at *
  have hw : ∀ y ∈ ws, F__law_way_in [.str y] S = .ok (.val (wayD y)) S := fun y hy => lway_ev (shs y hy)
  have nn := none_ev (S := S) (n := 5) (xs := ws.map wayD) (by omega) fun d hd => by
    obtain ⟨y, hy, rfl⟩ := List.mem_map.mp hd
    exact way_nn (shs y hy)
  rcases hc with rfl | rfl | rfl
  · have d1 : decide ((110 : Nat) = 110) = true := rfl
    rw [d1] at q1
    cases h : nameB x <;> (rw [h] at nm; simp only [Hm.goS_0, Hm.goS_1, Hm.goS_2, Hm.goS_3, Hm.goS_4, Hm.goS_5, Hm.x_seqS, Hm.goSet_0, Hm.goSet_1, Hm.goSet_2, Hm.x_setS, Hm.goRet_0, Hm.goRet_1, Hm.goRet_2, Hm.x_retS, Hm.goEx_0, Hm.goEx_1, Hm.goEx_2, Hm.x_exprS, Hm.goIf_0, Hm.goIf_1,
    Hm.goIf_2, Hm.goIf_3, Hm.x_ifS, Hm.x_nextS, Hm.x_neverS, Hm.x_retNS, Hm.x_contS, Hm.x_breakS, Hm.goRv_0, Hm.x_retVarS, Hm.goFr_0, Hm.goFr_1, Hm.goFr_2, Hm.x_frzS, Hm.goCel_0, Hm.goCel_1, Hm.goCel_2, Hm.goCel_3, Hm.goCel_4,
    Hm.x_celS, Hm.goV_0, Hm.x_mVar, Hm.x_mK, Hm.goU_0, Hm.goU_1, Hm.goU_2, Hm.x_mUn, Hm.goB2_0, Hm.goB2_1, Hm.goB2_2, Hm.goB_0, Hm.goB_1, Hm.goB_2, Hm.x_mBin, Hm.goT_0, Hm.goT_1, Hm.goT_2, Hm.x_mTst, Hm.goTr2_0, Hm.goTr2_1, Hm.goTr_0,
    Hm.goTr_1, Hm.goTr_2, Hm.x_mTru, Hm.goN_0, Hm.goN_1, Hm.goN_2, Hm.x_mNot, Hm.goAn_0, Hm.goAn_1, Hm.goAn_2, Hm.goAn_3, Hm.goOr_0, Hm.goOr_1, Hm.goOr_2, Hm.goOr_3, Hm.goIe_0, Hm.goIe_1, Hm.goIe_2, Hm.goIe_3, Hm.x_mAnd, Hm.x_mOr,
    Hm.x_mIf, Hm.goNv2_0, Hm.goNv2_1, Hm.goNv_0, Hm.goNv_1, Hm.goNv_2, Hm.x_mNotV, Hm.goOv2_0, Hm.goOv2_1, Hm.goOv2_2, Hm.goOv_0, Hm.goOv_1, Hm.goOv_2, Hm.x_mOrV, Hm.goAv2_0, Hm.goAv2_1, Hm.goAv2_2, Hm.goAv_0, Hm.goAv_1, Hm.goAv_2,
    Hm.x_mAndV, Hm.x_mNil, Hm.goC2_0, Hm.goC2_1, Hm.goC2_2, Hm.goC_0, Hm.goC_1, Hm.goC_2, Hm.x_mCons, Hm.goTp_0, Hm.goTp_1, Hm.goTp_2, Hm.x_mTup, Hm.goLs_0, Hm.goLs_1, Hm.goLs_2, Hm.x_mLst, Hm.x_mNo, Hm.goPt_0, Hm.goPt_1, Hm.goPt_2,
    Hm.x_mPart, Hm.goSl3_0, Hm.goSl3_1, Hm.goSl3_2, Hm.goSl2_0, Hm.goSl2_1, Hm.goSl2_2, Hm.goSl_0, Hm.goSl_1, Hm.goSl_2, Hm.x_mSl, Hm.goCall_0, Hm.goCall_1, Hm.goCall_2, Hm.x_mCall, Hm.goFn_0, Hm.goFn_1, Hm.goFn_2, Hm.x_mF, Hm.goM3_0,
    Hm.goM3_1, Hm.goM3_2, Hm.goM2_0, Hm.goM_0, Hm.goM_1, Hm.goM_2, Hm.x_mM1, Hm.goG2_0, Hm.goG2_1, Hm.goG_0, Hm.goG_1, Hm.goG_2, Hm.x_setG, Hm.x_gN, Hm.x_gNil, Hm.goGs_0, Hm.goGs_1, Hm.x_gCons, Hm.x_gT_tup, Hm.x_gT_lst, Hm.goRs_0,
    Hm.goRs_1, Hm.goRs_2, Hm.x_raiseS, Hm.goW2_0, Hm.goW2_1, Hm.goW_0, Hm.goW_1, Hm.goW_2, Hm.x_mWk, Hm.x_itL, Hm.x_itT, Hm.x_itS, Hm.x_itD, Hm.goMk2_0, Hm.goMk2_1, Hm.goMk_0, Hm.goMk_1, Hm.goMk_2, Hm.x_mMkF, Hm.goRun_0, Hm.goRun_1,
    Hm.goRun_2, Hm.goRun_3, Hm.goRun_4, Hm.goRun_5, Hm.x_runB, Hm.goCh3_0, Hm.goCh3_1, Hm.goCh2_0, Hm.goCh2_1, Hm.goCh2_2, Hm.goCh_0, Hm.goCh_1, Hm.goCh_2, Hm.x_mCh, Hm.goIx_0, Hm.goIx_1, Hm.x_ixl, Hm.x_ixt, Hm.goFor_0, Hm.goFor_1,
    Hm.goFor_2, Hm.x_forS, Hm.goL2_0, Hm.goL2_1, Hm.goL2_2, Hm.goL2_3, Hm.goL2_4, Hm.goL2_5, Hm.goL_0, Hm.goL_1, Hm.x_loopN, Hm.x_loopC, Hm.goR1_0, Hm.goR1_1, Hm.goR1_2, Hm.x_mR1, Hm.goTy_0, Hm.goTy_1, Hm.goTy_2, Hm.goTy_3, Hm.goTy_4,
    Hm.goTy_5, Hm.x_tryS, Hm.goFl_0, Hm.goFl_1, Hm.x_fldH, Hm.x_wipenx, Hm.x_wipert, Hm.x_wipebk, Hm.x_wipect, Hm.x_fzv, Hm.x_fzl, Hm.x_fzd, Hm.x_fine, Hm.x_isNn, Hm.x_isNi, Hm.x_isNs, Hm.x_isNb, Hm.x_isNt, Hm.x_isNl, Hm.x_isNd,
    Hm.x_swD, Hm.x_ewD, slots0, List.map_cons, List.map_nil, List.length_cons, List.length_nil, Nat.reduceSub, Nat.reduceAdd, List.replicate_succ, List.replicate_zero, List.cons_append, List.nil_append, List.append_nil,
    List.getElem?_cons_zero, List.getElem?_cons_succ, List.set_cons_zero, List.set_cons_succ, Bool.false_eq_true, if_true, if_false, ite_true, ite_false, reduceIte, Bool.not_true, Bool.not_false, decide_true, decide_false, Hm.vw_int,
    Hm.vw_str, Hm.vw_bl, Hm.vw_non, Hm.vw_lst, Hm.vw_tup, Hm.vw_dct, Hm.eq_ii, Hm.ne_ii, Hm.eq_bb, Hm.ne_bb, Hm.ln_lst, Hm.ln_tup, Hm.sl_lst, Hm.sl_tup, Hm.ad_ii, Hm.sb_ii, Hm.le_ii, Hm.lt_ii, Hm.gt_ii, Hm.ge_ii, Hm.ng_i, Hm.is_n,
    Hm.nis_n, Hm.tr_bl, Hm.tr_non, Hm.tr_int, Hm.tr_lst, Hm.tr_tup, Hm.tr_dct, Hm.tp_lst, Hm.tp_tup, Hm.in_bl, Hm.at_0, Hm.at_1, Hm.at_2, Hm.at_3, Hm.at_4, Hm.gst_lst, Hm.gst_tup, Hm.sm_0, Hm.sm_1, Hm.sm_2, Hm.sm_3, Hm.sm_4, Hm.sm_5,
    Hm.sm_6, Hm.sm_7, Hm.sm_8, Hm.sm_9, Hm.sm_10, Hm.sm_11, Hm.sm_12, Hm.sm_13, Hm.sm_14, Hm.sm_15, Hm.sm_16, true_and, and_true, Nat.zero_le, Nat.reduceLeDiff, Nat.reduceEqDiff, Nat.reduceLT, List.length_map,
    F__law_thing_in, m__law_thing_in, N__law_thing_in, q1, nm])
  · have d1 : decide ((107 : Nat) = 110) = false := rfl
    have d2 : decide ((107 : Nat) = 107) = true := rfl
    rw [d1] at q1
    rw [d2] at q2
    simp only [Hm.goS_0, Hm.goS_1, Hm.goS_2, Hm.goS_3, Hm.goS_4, Hm.goS_5, Hm.x_seqS, Hm.goSet_0, Hm.goSet_1, Hm.goSet_2, Hm.x_setS, Hm.goRet_0, Hm.goRet_1, Hm.goRet_2, Hm.x_retS, Hm.goEx_0, Hm.goEx_1, Hm.goEx_2, Hm.x_exprS, Hm.goIf_0, Hm.goIf_1,
    Hm.goIf_2, Hm.goIf_3, Hm.x_ifS, Hm.x_nextS, Hm.x_neverS, Hm.x_retNS, Hm.x_contS, Hm.x_breakS, Hm.goRv_0, Hm.x_retVarS, Hm.goFr_0, Hm.goFr_1, Hm.goFr_2, Hm.x_frzS, Hm.goCel_0, Hm.goCel_1, Hm.goCel_2, Hm.goCel_3, Hm.goCel_4,
    Hm.x_celS, Hm.goV_0, Hm.x_mVar, Hm.x_mK, Hm.goU_0, Hm.goU_1, Hm.goU_2, Hm.x_mUn, Hm.goB2_0, Hm.goB2_1, Hm.goB2_2, Hm.goB_0, Hm.goB_1, Hm.goB_2, Hm.x_mBin, Hm.goT_0, Hm.goT_1, Hm.goT_2, Hm.x_mTst, Hm.goTr2_0, Hm.goTr2_1, Hm.goTr_0,
    Hm.goTr_1, Hm.goTr_2, Hm.x_mTru, Hm.goN_0, Hm.goN_1, Hm.goN_2, Hm.x_mNot, Hm.goAn_0, Hm.goAn_1, Hm.goAn_2, Hm.goAn_3, Hm.goOr_0, Hm.goOr_1, Hm.goOr_2, Hm.goOr_3, Hm.goIe_0, Hm.goIe_1, Hm.goIe_2, Hm.goIe_3, Hm.x_mAnd, Hm.x_mOr,
    Hm.x_mIf, Hm.goNv2_0, Hm.goNv2_1, Hm.goNv_0, Hm.goNv_1, Hm.goNv_2, Hm.x_mNotV, Hm.goOv2_0, Hm.goOv2_1, Hm.goOv2_2, Hm.goOv_0, Hm.goOv_1, Hm.goOv_2, Hm.x_mOrV, Hm.goAv2_0, Hm.goAv2_1, Hm.goAv2_2, Hm.goAv_0, Hm.goAv_1, Hm.goAv_2,
    Hm.x_mAndV, Hm.x_mNil, Hm.goC2_0, Hm.goC2_1, Hm.goC2_2, Hm.goC_0, Hm.goC_1, Hm.goC_2, Hm.x_mCons, Hm.goTp_0, Hm.goTp_1, Hm.goTp_2, Hm.x_mTup, Hm.goLs_0, Hm.goLs_1, Hm.goLs_2, Hm.x_mLst, Hm.x_mNo, Hm.goPt_0, Hm.goPt_1, Hm.goPt_2,
    Hm.x_mPart, Hm.goSl3_0, Hm.goSl3_1, Hm.goSl3_2, Hm.goSl2_0, Hm.goSl2_1, Hm.goSl2_2, Hm.goSl_0, Hm.goSl_1, Hm.goSl_2, Hm.x_mSl, Hm.goCall_0, Hm.goCall_1, Hm.goCall_2, Hm.x_mCall, Hm.goFn_0, Hm.goFn_1, Hm.goFn_2, Hm.x_mF, Hm.goM3_0,
    Hm.goM3_1, Hm.goM3_2, Hm.goM2_0, Hm.goM_0, Hm.goM_1, Hm.goM_2, Hm.x_mM1, Hm.goG2_0, Hm.goG2_1, Hm.goG_0, Hm.goG_1, Hm.goG_2, Hm.x_setG, Hm.x_gN, Hm.x_gNil, Hm.goGs_0, Hm.goGs_1, Hm.x_gCons, Hm.x_gT_tup, Hm.x_gT_lst, Hm.goRs_0,
    Hm.goRs_1, Hm.goRs_2, Hm.x_raiseS, Hm.goW2_0, Hm.goW2_1, Hm.goW_0, Hm.goW_1, Hm.goW_2, Hm.x_mWk, Hm.x_itL, Hm.x_itT, Hm.x_itS, Hm.x_itD, Hm.goMk2_0, Hm.goMk2_1, Hm.goMk_0, Hm.goMk_1, Hm.goMk_2, Hm.x_mMkF, Hm.goRun_0, Hm.goRun_1,
    Hm.goRun_2, Hm.goRun_3, Hm.goRun_4, Hm.goRun_5, Hm.x_runB, Hm.goCh3_0, Hm.goCh3_1, Hm.goCh2_0, Hm.goCh2_1, Hm.goCh2_2, Hm.goCh_0, Hm.goCh_1, Hm.goCh_2, Hm.x_mCh, Hm.goIx_0, Hm.goIx_1, Hm.x_ixl, Hm.x_ixt, Hm.goFor_0, Hm.goFor_1,
    Hm.goFor_2, Hm.x_forS, Hm.goL2_0, Hm.goL2_1, Hm.goL2_2, Hm.goL2_3, Hm.goL2_4, Hm.goL2_5, Hm.goL_0, Hm.goL_1, Hm.x_loopN, Hm.x_loopC, Hm.goR1_0, Hm.goR1_1, Hm.goR1_2, Hm.x_mR1, Hm.goTy_0, Hm.goTy_1, Hm.goTy_2, Hm.goTy_3, Hm.goTy_4,
    Hm.goTy_5, Hm.x_tryS, Hm.goFl_0, Hm.goFl_1, Hm.x_fldH, Hm.x_wipenx, Hm.x_wipert, Hm.x_wipebk, Hm.x_wipect, Hm.x_fzv, Hm.x_fzl, Hm.x_fzd, Hm.x_fine, Hm.x_isNn, Hm.x_isNi, Hm.x_isNs, Hm.x_isNb, Hm.x_isNt, Hm.x_isNl, Hm.x_isNd,
    Hm.x_swD, Hm.x_ewD, slots0, List.map_cons, List.map_nil, List.length_cons, List.length_nil, Nat.reduceSub, Nat.reduceAdd, List.replicate_succ, List.replicate_zero, List.cons_append, List.nil_append, List.append_nil,
    List.getElem?_cons_zero, List.getElem?_cons_succ, List.set_cons_zero, List.set_cons_succ, Bool.false_eq_true, if_true, if_false, ite_true, ite_false, reduceIte, Bool.not_true, Bool.not_false, decide_true, decide_false, Hm.vw_int,
    Hm.vw_str, Hm.vw_bl, Hm.vw_non, Hm.vw_lst, Hm.vw_tup, Hm.vw_dct, Hm.eq_ii, Hm.ne_ii, Hm.eq_bb, Hm.ne_bb, Hm.ln_lst, Hm.ln_tup, Hm.sl_lst, Hm.sl_tup, Hm.ad_ii, Hm.sb_ii, Hm.le_ii, Hm.lt_ii, Hm.gt_ii, Hm.ge_ii, Hm.ng_i, Hm.is_n,
    Hm.nis_n, Hm.tr_bl, Hm.tr_non, Hm.tr_int, Hm.tr_lst, Hm.tr_tup, Hm.tr_dct, Hm.tp_lst, Hm.tp_tup, Hm.in_bl, Hm.at_0, Hm.at_1, Hm.at_2, Hm.at_3, Hm.at_4, Hm.gst_lst, Hm.gst_tup, Hm.sm_0, Hm.sm_1, Hm.sm_2, Hm.sm_3, Hm.sm_4, Hm.sm_5,
    Hm.sm_6, Hm.sm_7, Hm.sm_8, Hm.sm_9, Hm.sm_10, Hm.sm_11, Hm.sm_12, Hm.sm_13, Hm.sm_14, Hm.sm_15, Hm.sm_16, true_and, and_true, Nat.zero_le, Nat.reduceLeDiff, Nat.reduceEqDiff, Nat.reduceLT, List.length_map,
    F__law_thing_in, m__law_thing_in, N__law_thing_in, q1, q2, lnum_ev hs, Nat.reduceEqDiff]
  · have d1 : decide ((119 : Nat) = 110) = false := rfl
    have d2 : decide ((119 : Nat) = 107) = false := rfl
    rw [d1] at q1
    rw [d2] at q2
    cases h2 : (ws.map wayD).any isN
    all_goals
      rw [h2] at nn
      simp only [Hm.goS_0, Hm.goS_1, Hm.goS_2, Hm.goS_3, Hm.goS_4, Hm.goS_5, Hm.x_seqS, Hm.goSet_0, Hm.goSet_1, Hm.goSet_2, Hm.x_setS, Hm.goRet_0, Hm.goRet_1, Hm.goRet_2, Hm.x_retS, Hm.goEx_0, Hm.goEx_1, Hm.goEx_2, Hm.x_exprS, Hm.goIf_0, Hm.goIf_1,
    Hm.goIf_2, Hm.goIf_3, Hm.x_ifS, Hm.x_nextS, Hm.x_neverS, Hm.x_retNS, Hm.x_contS, Hm.x_breakS, Hm.goRv_0, Hm.x_retVarS, Hm.goFr_0, Hm.goFr_1, Hm.goFr_2, Hm.x_frzS, Hm.goCel_0, Hm.goCel_1, Hm.goCel_2, Hm.goCel_3, Hm.goCel_4,
    Hm.x_celS, Hm.goV_0, Hm.x_mVar, Hm.x_mK, Hm.goU_0, Hm.goU_1, Hm.goU_2, Hm.x_mUn, Hm.goB2_0, Hm.goB2_1, Hm.goB2_2, Hm.goB_0, Hm.goB_1, Hm.goB_2, Hm.x_mBin, Hm.goT_0, Hm.goT_1, Hm.goT_2, Hm.x_mTst, Hm.goTr2_0, Hm.goTr2_1, Hm.goTr_0,
    Hm.goTr_1, Hm.goTr_2, Hm.x_mTru, Hm.goN_0, Hm.goN_1, Hm.goN_2, Hm.x_mNot, Hm.goAn_0, Hm.goAn_1, Hm.goAn_2, Hm.goAn_3, Hm.goOr_0, Hm.goOr_1, Hm.goOr_2, Hm.goOr_3, Hm.goIe_0, Hm.goIe_1, Hm.goIe_2, Hm.goIe_3, Hm.x_mAnd, Hm.x_mOr,
    Hm.x_mIf, Hm.goNv2_0, Hm.goNv2_1, Hm.goNv_0, Hm.goNv_1, Hm.goNv_2, Hm.x_mNotV, Hm.goOv2_0, Hm.goOv2_1, Hm.goOv2_2, Hm.goOv_0, Hm.goOv_1, Hm.goOv_2, Hm.x_mOrV, Hm.goAv2_0, Hm.goAv2_1, Hm.goAv2_2, Hm.goAv_0, Hm.goAv_1, Hm.goAv_2,
    Hm.x_mAndV, Hm.x_mNil, Hm.goC2_0, Hm.goC2_1, Hm.goC2_2, Hm.goC_0, Hm.goC_1, Hm.goC_2, Hm.x_mCons, Hm.goTp_0, Hm.goTp_1, Hm.goTp_2, Hm.x_mTup, Hm.goLs_0, Hm.goLs_1, Hm.goLs_2, Hm.x_mLst, Hm.x_mNo, Hm.goPt_0, Hm.goPt_1, Hm.goPt_2,
    Hm.x_mPart, Hm.goSl3_0, Hm.goSl3_1, Hm.goSl3_2, Hm.goSl2_0, Hm.goSl2_1, Hm.goSl2_2, Hm.goSl_0, Hm.goSl_1, Hm.goSl_2, Hm.x_mSl, Hm.goCall_0, Hm.goCall_1, Hm.goCall_2, Hm.x_mCall, Hm.goFn_0, Hm.goFn_1, Hm.goFn_2, Hm.x_mF, Hm.goM3_0,
    Hm.goM3_1, Hm.goM3_2, Hm.goM2_0, Hm.goM_0, Hm.goM_1, Hm.goM_2, Hm.x_mM1, Hm.goG2_0, Hm.goG2_1, Hm.goG_0, Hm.goG_1, Hm.goG_2, Hm.x_setG, Hm.x_gN, Hm.x_gNil, Hm.goGs_0, Hm.goGs_1, Hm.x_gCons, Hm.x_gT_tup, Hm.x_gT_lst, Hm.goRs_0,
    Hm.goRs_1, Hm.goRs_2, Hm.x_raiseS, Hm.goW2_0, Hm.goW2_1, Hm.goW_0, Hm.goW_1, Hm.goW_2, Hm.x_mWk, Hm.x_itL, Hm.x_itT, Hm.x_itS, Hm.x_itD, Hm.goMk2_0, Hm.goMk2_1, Hm.goMk_0, Hm.goMk_1, Hm.goMk_2, Hm.x_mMkF, Hm.goRun_0, Hm.goRun_1,
    Hm.goRun_2, Hm.goRun_3, Hm.goRun_4, Hm.goRun_5, Hm.x_runB, Hm.goCh3_0, Hm.goCh3_1, Hm.goCh2_0, Hm.goCh2_1, Hm.goCh2_2, Hm.goCh_0, Hm.goCh_1, Hm.goCh_2, Hm.x_mCh, Hm.goIx_0, Hm.goIx_1, Hm.x_ixl, Hm.x_ixt, Hm.goFor_0, Hm.goFor_1,
    Hm.goFor_2, Hm.x_forS, Hm.goL2_0, Hm.goL2_1, Hm.goL2_2, Hm.goL2_3, Hm.goL2_4, Hm.goL2_5, Hm.goL_0, Hm.goL_1, Hm.x_loopN, Hm.x_loopC, Hm.goR1_0, Hm.goR1_1, Hm.goR1_2, Hm.x_mR1, Hm.goTy_0, Hm.goTy_1, Hm.goTy_2, Hm.goTy_3, Hm.goTy_4,
    Hm.goTy_5, Hm.x_tryS, Hm.goFl_0, Hm.goFl_1, Hm.x_fldH, Hm.x_wipenx, Hm.x_wipert, Hm.x_wipebk, Hm.x_wipect, Hm.x_fzv, Hm.x_fzl, Hm.x_fzd, Hm.x_fine, Hm.x_isNn, Hm.x_isNi, Hm.x_isNs, Hm.x_isNb, Hm.x_isNt, Hm.x_isNl, Hm.x_isNd,
    Hm.x_swD, Hm.x_ewD, slots0, List.map_cons, List.map_nil, List.length_cons, List.length_nil, Nat.reduceSub, Nat.reduceAdd, List.replicate_succ, List.replicate_zero, List.cons_append, List.nil_append, List.append_nil,
    List.getElem?_cons_zero, List.getElem?_cons_succ, List.set_cons_zero, List.set_cons_succ, Bool.false_eq_true, if_true, if_false, ite_true, ite_false, reduceIte, Bool.not_true, Bool.not_false, decide_true, decide_false, Hm.vw_int,
    Hm.vw_str, Hm.vw_bl, Hm.vw_non, Hm.vw_lst, Hm.vw_tup, Hm.vw_dct, Hm.eq_ii, Hm.ne_ii, Hm.eq_bb, Hm.ne_bb, Hm.ln_lst, Hm.ln_tup, Hm.sl_lst, Hm.sl_tup, Hm.ad_ii, Hm.sb_ii, Hm.le_ii, Hm.lt_ii, Hm.gt_ii, Hm.ge_ii, Hm.ng_i, Hm.is_n,
    Hm.nis_n, Hm.tr_bl, Hm.tr_non, Hm.tr_int, Hm.tr_lst, Hm.tr_tup, Hm.tr_dct, Hm.tp_lst, Hm.tp_tup, Hm.in_bl, Hm.at_0, Hm.at_1, Hm.at_2, Hm.at_3, Hm.at_4, Hm.gst_lst, Hm.gst_tup, Hm.sm_0, Hm.sm_1, Hm.sm_2, Hm.sm_3, Hm.sm_4, Hm.sm_5,
    Hm.sm_6, Hm.sm_7, Hm.sm_8, Hm.sm_9, Hm.sm_10, Hm.sm_11, Hm.sm_12, Hm.sm_13, Hm.sm_14, Hm.sm_15, Hm.sm_16, true_and, and_true, Nat.zero_le, Nat.reduceLeDiff, Nat.reduceEqDiff, Nat.reduceLT, List.length_map,
    F__law_thing_in, m__law_thing_in, N__law_thing_in, q1, q2, sp, lc_str hw (show ws.length ≤ 100000 by omega), nn, Nat.reduceLT, Nat.reduceEqDiff]
end Wk57
set_option Elab.async false
set_option linter.all false
set_option maxRecDepth 100000
set_option maxHeartbeats 4000000
namespace Wk57
open PySem PySem.Spec L2 Hm
open Builtin Builtin.Str

/-! ### a deed read -/
def prs (f : Str) (rest : List Str) : List (Nat × Str) := (Ls f).zip rest
def ths (f : Str) (rest : List Str) : List D := (prs f rest).map fun p => thD p.1 p.2
def prD (p : Nat × Str) : D := .tup [.str ⟨#[p.1]⟩, .str p.2]
def deedF (w : Str) (rest : List Str) : Option D → D
  | some (.str f) => if f.length = rest.length then (if (ths f rest).any isN = true then .non else .tup (.str w :: ths f rest)) else .non
  | _ => .non
def deedD (x : Str) : D := match Sp x 32 with
  | w :: rest => deedF w rest (tab_FORMS.lookup w)
  | [] => .non
theorem zip_prs : ∀ (cs : List Nat) (rest : List Str), zipL (cs.map fun c => D.str ⟨#[c]⟩) (rest.map .str) = (cs.zip rest).map prD
  | [], _ => by simp [zipL]
  | _ :: _, [] => by simp [zipL]
  | c :: cs, y :: rest => by
    rw [List.map_cons, List.map_cons, List.zip_cons_cons, List.map_cons, ← zip_prs cs rest]
    rfl
theorem form_all : tab_FORMS.all (fun kv => match kv.2 with | .str f => (Ls f).all (fun c => decide (c = 110) || (decide (c = 107) || decide (c = 119))) && decide ((Ls f).length ≤ 4) | _ => false) = true := by decide +kernel
theorem form_ok {w : Str} {d : D} (h : tab_FORMS.lookup w = some d) : ∃ f, d = .str f ∧ (∀ c ∈ Ls f, c = 110 ∨ c = 107 ∨ c = 119) ∧ (Ls f).length ≤ 4 := by
  have q := List.all_eq_true.mp form_all _ (lookup_mem h)
  dsimp only at q
  split at q
  · rename_i f
    rw [Bool.and_eq_true, decide_eq_true_eq] at q
    refine ⟨f, rfl, fun c hc => ?_, q.2⟩
    have z := List.all_eq_true.mp q.1 c hc
    simpa [Bool.or_eq_true, decide_eq_true_eq] using z
  · cases q
theorem ths_nn {f : Str} {rest : List Str} (hr : ∀ y ∈ rest, Sh 900 y) : ∀ d ∈ ths f rest, Nn 6 d := fun d hd => by
  obtain ⟨p, hp, rfl⟩ := List.mem_map.mp hd
  exact th_nn (hr _ (List.of_mem_zip hp).2)
theorem prs_len {f : Str} {rest : List Str} (hf : (Ls f).length ≤ 4) : (prs f rest).length ≤ 4 := by
  unfold prs
  rw [List.length_zip]
  omega
def exBT : List (Str × D) := [("row", .int 0), ("word", .str "badtext")]
def rdR (S : Store) : D → Res DV
  | .non => .ex "BadText" exBT S
  | d => .ok (.val d) S
theorem read_ev {x : Str} {S : Store} (hs : Sh 900 x) : F_read_deed [.str x] S = rdR S (deedD x) := by
  have sp : splitD x (.str " ") S = .ok (.ol ((Sp x 32).map .str)) S := spl_ev hs (by omega)
  have shs := sp_sh (c := 32) hs
  have len := sp_len (c := 32) hs
  obtain ⟨w, rest, e⟩ := sp_ne x 32
  unfold deedD
  rw [e] at sp shs len ⊢
  have sr : ∀ y ∈ rest, Sh 900 y := fun y hy => shs y (List.mem_cons_of_mem _ hy)
  have tg : tabGet tab_FORMS (.str w) S = .ok (.val ((tab_FORMS.lookup w).getD .non)) S := rfl
  dsimp only
  have fx : fsD [("word", .txt "badtext"), ("row", .arg 0)] [.int 0] [] = exBT := rfl
  cases hw : tab_FORMS.lookup w with
  | none =>
    rw [hw] at tg
    unfold deedF
    simp only [Hm.goS_0, Hm.goS_1, Hm.goS_2, Hm.goS_3, Hm.goS_4, Hm.goS_5, Hm.x_seqS, Hm.goSet_0, Hm.goSet_1, Hm.goSet_2, Hm.x_setS, Hm.goRet_0, Hm.goRet_1, Hm.goRet_2, Hm.x_retS, Hm.goEx_0, Hm.goEx_1, Hm.goEx_2, Hm.x_exprS, Hm.goIf_0, Hm.goIf_1,
    Hm.goIf_2, Hm.goIf_3, Hm.x_ifS, Hm.x_nextS, Hm.x_neverS, Hm.x_retNS, Hm.x_contS, Hm.x_breakS, Hm.goRv_0, Hm.x_retVarS, Hm.goFr_0, Hm.goFr_1, Hm.goFr_2, Hm.x_frzS, Hm.goCel_0, Hm.goCel_1, Hm.goCel_2, Hm.goCel_3, Hm.goCel_4,
    Hm.x_celS, Hm.goV_0, Hm.x_mVar, Hm.x_mK, Hm.goU_0, Hm.goU_1, Hm.goU_2, Hm.x_mUn, Hm.goB2_0, Hm.goB2_1, Hm.goB2_2, Hm.goB_0, Hm.goB_1, Hm.goB_2, Hm.x_mBin, Hm.goT_0, Hm.goT_1, Hm.goT_2, Hm.x_mTst, Hm.goTr2_0, Hm.goTr2_1, Hm.goTr_0,
    Hm.goTr_1, Hm.goTr_2, Hm.x_mTru, Hm.goN_0, Hm.goN_1, Hm.goN_2, Hm.x_mNot, Hm.goAn_0, Hm.goAn_1, Hm.goAn_2, Hm.goAn_3, Hm.goOr_0, Hm.goOr_1, Hm.goOr_2, Hm.goOr_3, Hm.goIe_0, Hm.goIe_1, Hm.goIe_2, Hm.goIe_3, Hm.x_mAnd, Hm.x_mOr,
    Hm.x_mIf, Hm.goNv2_0, Hm.goNv2_1, Hm.goNv_0, Hm.goNv_1, Hm.goNv_2, Hm.x_mNotV, Hm.goOv2_0, Hm.goOv2_1, Hm.goOv2_2, Hm.goOv_0, Hm.goOv_1, Hm.goOv_2, Hm.x_mOrV, Hm.goAv2_0, Hm.goAv2_1, Hm.goAv2_2, Hm.goAv_0, Hm.goAv_1, Hm.goAv_2,
    Hm.x_mAndV, Hm.x_mNil, Hm.goC2_0, Hm.goC2_1, Hm.goC2_2, Hm.goC_0, Hm.goC_1, Hm.goC_2, Hm.x_mCons, Hm.goTp_0, Hm.goTp_1, Hm.goTp_2, Hm.x_mTup, Hm.goLs_0, Hm.goLs_1, Hm.goLs_2, Hm.x_mLst, Hm.x_mNo, Hm.goPt_0, Hm.goPt_1, Hm.goPt_2,
    Hm.x_mPart, Hm.goSl3_0, Hm.goSl3_1, Hm.goSl3_2, Hm.goSl2_0, Hm.goSl2_1, Hm.goSl2_2, Hm.goSl_0, Hm.goSl_1, Hm.goSl_2, Hm.x_mSl, Hm.goCall_0, Hm.goCall_1, Hm.goCall_2, Hm.x_mCall, Hm.goFn_0, Hm.goFn_1, Hm.goFn_2, Hm.x_mF, Hm.goM3_0,
    Hm.goM3_1, Hm.goM3_2, Hm.goM2_0, Hm.goM_0, Hm.goM_1, Hm.goM_2, Hm.x_mM1, Hm.goG2_0, Hm.goG2_1, Hm.goG_0, Hm.goG_1, Hm.goG_2, Hm.x_setG, Hm.x_gN, Hm.x_gNil, Hm.goGs_0, Hm.goGs_1, Hm.x_gCons, Hm.x_gT_tup, Hm.x_gT_lst, Hm.goRs_0,
    Hm.goRs_1, Hm.goRs_2, Hm.x_raiseS, Hm.goW2_0, Hm.goW2_1, Hm.goW_0, Hm.goW_1, Hm.goW_2, Hm.x_mWk, Hm.x_itL, Hm.x_itT, Hm.x_itS, Hm.x_itD, Hm.goMk2_0, Hm.goMk2_1, Hm.goMk_0, Hm.goMk_1, Hm.goMk_2, Hm.x_mMkF, Hm.goRun_0, Hm.goRun_1,
    Hm.goRun_2, Hm.goRun_3, Hm.goRun_4, Hm.goRun_5, Hm.x_runB, Hm.goCh3_0, Hm.goCh3_1, Hm.goCh2_0, Hm.goCh2_1, Hm.goCh2_2, Hm.goCh_0, Hm.goCh_1, Hm.goCh_2, Hm.x_mCh, Hm.goIx_0, Hm.goIx_1, Hm.x_ixl, Hm.x_ixt, Hm.goFor_0, Hm.goFor_1,
    Hm.goFor_2, Hm.goL2_0, Hm.goL2_1, Hm.goL2_2, Hm.goL2_3, Hm.goL2_4, Hm.goL2_5, Hm.goL_0, Hm.goL_1, Hm.x_loopN, Hm.x_loopC, Hm.goR1_0, Hm.goR1_1, Hm.goR1_2, Hm.x_mR1, Hm.goTy_0, Hm.goTy_1, Hm.goTy_2, Hm.goTy_3, Hm.goTy_4, Hm.goTy_5,
    Hm.x_tryS, Hm.goFl_0, Hm.goFl_1, Hm.x_fldH, Hm.x_wipenx, Hm.x_wipert, Hm.x_wipebk, Hm.x_wipect, Hm.x_fzv, Hm.x_fzl, Hm.x_fzd, Hm.x_fine, Hm.x_isNn, Hm.x_isNi, Hm.x_isNs, Hm.x_isNb, Hm.x_isNt, Hm.x_isNl, Hm.x_isNd, Hm.x_swD,
    Hm.x_ewD, slots0, List.map_cons, List.map_nil, List.length_cons, List.length_nil, Nat.reduceSub, Nat.reduceAdd, List.replicate_succ, List.replicate_zero, List.cons_append, List.nil_append, List.append_nil, List.getElem?_cons_zero,
    List.getElem?_cons_succ, List.set_cons_zero, List.set_cons_succ, Bool.false_eq_true, if_true, if_false, ite_true, ite_false, reduceIte, Bool.not_true, Bool.not_false, decide_true, decide_false, Hm.vw_int, Hm.vw_str, Hm.vw_bl,
    Hm.vw_non, Hm.vw_lst, Hm.vw_tup, Hm.vw_dct, Hm.eq_ii, Hm.ne_ii, Hm.eq_bb, Hm.ne_bb, Hm.ln_lst, Hm.ln_tup, Hm.sl_lst, Hm.sl_tup, Hm.ad_ii, Hm.sb_ii, Hm.le_ii, Hm.lt_ii, Hm.gt_ii, Hm.ge_ii, Hm.ng_i, Hm.is_n, Hm.nis_n, Hm.tr_bl,
    Hm.tr_non, Hm.tr_int, Hm.tr_lst, Hm.tr_tup, Hm.tr_dct, Hm.tp_lst, Hm.tp_tup, Hm.in_bl, Hm.at_0, Hm.at_1, Hm.at_2, Hm.at_3, Hm.at_4, Hm.gst_lst, Hm.gst_tup, Hm.sm_0, Hm.sm_1, Hm.sm_2, Hm.sm_3, Hm.sm_4, Hm.sm_5, Hm.sm_6, Hm.sm_7,
    Hm.sm_8, Hm.sm_9, Hm.sm_10, Hm.sm_11, Hm.sm_12, Hm.sm_13, Hm.sm_14, Hm.sm_15, Hm.sm_16, true_and, and_true, Nat.zero_le, Nat.reduceLeDiff, Nat.reduceEqDiff, Nat.reduceLT, List.length_map,
    F_read_deed, m_read_deed, N_read_deed, rdR, sp, tg, Option.getD_none, fx]
  | some d =>
    obtain ⟨f, rfl, hf, hfl⟩ := form_ok hw
    rw [hw] at tg
    unfold deedF
    dsimp only
    have lf := ln_str (s := f) (S := S) (by rw [← ls_len]; omega)
    by_cases hl : f.length = rest.length
    · have dl : decide (((f.length : Nat) : Int) = ((rest.length : Nat) : Int)) = true := decide_eq_true (by omega)
      have lcr : mLc (mZs (mCons (mVar 1) (mCons (mVar 4) mNil))) (gT 2 (gConsM (gN 5) (gConsM (gN 6) gNilM))) mYes (mCall F_thing_in 2 (mCons (mVar 5) (mCons (mVar 6) mNil))) [("sign", 5), ("thing", 6)]
          [some (.val (.str x)), some (.val (.str f)), none, some (.val (.str w)), some (.val (.lst (rest.map .str))), none, none] S = .ok (.ol (ths f rest)) S := by
        have c := lc_map (mi := mZs (mCons (mVar 1) (mCons (mVar 4) mNil))) (g := gT 2 (gConsM (gN 5) (gConsM (gN 6) gNilM))) (t := mYes) (e := mCall F_thing_in 2 (mCons (mVar 5) (mCons (mVar 6) mNil))) (own := [("sign", 5), ("thing", 6)])
          (E := [some (.val (.str x)), some (.val (.str f)), none, some (.val (.str w)), some (.val (.lst (rest.map .str))), none, none]) (S := S) (ds := (prs f rest).map prD)
          (fun d => match d with | .tup [.str c, .str y] => (match Ls c with | [k] => thD k y | _ => .non) | _ => .non) (by
            show (if (signs f).length = (rest.map D.str).length then Res.ok (Wk.mk (zipL (signs f) (rest.map D.str)) none) S else Res.bad) = _
            rw [if_pos (by
              unfold signs
              rw [List.length_map, List.length_map, ← hl, ← ls_len])]
            unfold signs prs
            rw [zip_prs]) (fun d hd => by
            obtain ⟨p, hp, rfl⟩ := List.mem_map.mp hd
            have hc := hf _ (List.of_mem_zip hp).1
            have hy := sr _ (List.of_mem_zip hp).2
            exact ⟨[some (.val (.str x)), some (.val (.str f)), none, some (.val (.str w)), some (.val (.lst (rest.map .str))), some (.val (.str ⟨#[p.1]⟩)), some (.val (.str p.2))], .val (thD p.1 p.2), rfl, rfl, call_ok (cons_ok (x := .val (.str ⟨#[p.1]⟩)) (var_ok rfl) (cons_ok (x := .val (.str p.2)) (var_ok rfl) nil_ok)) rfl (th_ev hy hc), rfl⟩) (by
            rw [List.length_map]
            have := prs_len (rest := rest) hfl
            omega)
        rw [c, List.map_map]
        rfl
      have nn := none_ev (S := S) (n := 6) (xs := ths f rest) (by omega) (ths_nn sr)
      have tl : (ths f rest).length ≤ 4 := by unfold ths; rw [List.length_map]; exact prs_len hfl
      have ad := Hm.ad_tt (S := S) (a := [.str w]) (b := ths f rest) (by rw [List.length_singleton]; omega)
      rw [if_pos hl]
      cases h2 : (ths f rest).any isN
      all_goals
        rw [h2] at nn
        simp only [Hm.goS_0, Hm.goS_1, Hm.goS_2, Hm.goS_3, Hm.goS_4, Hm.goS_5, Hm.x_seqS, Hm.goSet_0, Hm.goSet_1, Hm.goSet_2, Hm.x_setS, Hm.goRet_0, Hm.goRet_1, Hm.goRet_2, Hm.x_retS, Hm.goEx_0, Hm.goEx_1, Hm.goEx_2, Hm.x_exprS, Hm.goIf_0, Hm.goIf_1,
    Hm.goIf_2, Hm.goIf_3, Hm.x_ifS, Hm.x_nextS, Hm.x_neverS, Hm.x_retNS, Hm.x_contS, Hm.x_breakS, Hm.goRv_0, Hm.x_retVarS, Hm.goFr_0, Hm.goFr_1, Hm.goFr_2, Hm.x_frzS, Hm.goCel_0, Hm.goCel_1, Hm.goCel_2, Hm.goCel_3, Hm.goCel_4,
    Hm.x_celS, Hm.goV_0, Hm.x_mVar, Hm.x_mK, Hm.goU_0, Hm.goU_1, Hm.goU_2, Hm.x_mUn, Hm.goB2_0, Hm.goB2_1, Hm.goB2_2, Hm.goB_0, Hm.goB_1, Hm.goB_2, Hm.x_mBin, Hm.goT_0, Hm.goT_1, Hm.goT_2, Hm.x_mTst, Hm.goTr2_0, Hm.goTr2_1, Hm.goTr_0,
    Hm.goTr_1, Hm.goTr_2, Hm.x_mTru, Hm.goN_0, Hm.goN_1, Hm.goN_2, Hm.x_mNot, Hm.goAn_0, Hm.goAn_1, Hm.goAn_2, Hm.goAn_3, Hm.goOr_0, Hm.goOr_1, Hm.goOr_2, Hm.goOr_3, Hm.goIe_0, Hm.goIe_1, Hm.goIe_2, Hm.goIe_3, Hm.x_mAnd, Hm.x_mOr,
    Hm.x_mIf, Hm.goNv2_0, Hm.goNv2_1, Hm.goNv_0, Hm.goNv_1, Hm.goNv_2, Hm.x_mNotV, Hm.goOv2_0, Hm.goOv2_1, Hm.goOv2_2, Hm.goOv_0, Hm.goOv_1, Hm.goOv_2, Hm.x_mOrV, Hm.goAv2_0, Hm.goAv2_1, Hm.goAv2_2, Hm.goAv_0, Hm.goAv_1, Hm.goAv_2,
    Hm.x_mAndV, Hm.x_mNil, Hm.goC2_0, Hm.goC2_1, Hm.goC2_2, Hm.goC_0, Hm.goC_1, Hm.goC_2, Hm.x_mCons, Hm.goTp_0, Hm.goTp_1, Hm.goTp_2, Hm.x_mTup, Hm.goLs_0, Hm.goLs_1, Hm.goLs_2, Hm.x_mLst, Hm.x_mNo, Hm.goPt_0, Hm.goPt_1, Hm.goPt_2,
    Hm.x_mPart, Hm.goSl3_0, Hm.goSl3_1, Hm.goSl3_2, Hm.goSl2_0, Hm.goSl2_1, Hm.goSl2_2, Hm.goSl_0, Hm.goSl_1, Hm.goSl_2, Hm.x_mSl, Hm.goCall_0, Hm.goCall_1, Hm.goCall_2, Hm.x_mCall, Hm.goFn_0, Hm.goFn_1, Hm.goFn_2, Hm.x_mF, Hm.goM3_0,
    Hm.goM3_1, Hm.goM3_2, Hm.goM2_0, Hm.goM_0, Hm.goM_1, Hm.goM_2, Hm.x_mM1, Hm.goG2_0, Hm.goG2_1, Hm.goG_0, Hm.goG_1, Hm.goG_2, Hm.x_setG, Hm.x_gN, Hm.x_gNil, Hm.goGs_0, Hm.goGs_1, Hm.x_gCons, Hm.x_gT_tup, Hm.x_gT_lst, Hm.goRs_0,
    Hm.goRs_1, Hm.goRs_2, Hm.x_raiseS, Hm.goW2_0, Hm.goW2_1, Hm.goW_0, Hm.goW_1, Hm.goW_2, Hm.x_mWk, Hm.x_itL, Hm.x_itT, Hm.x_itS, Hm.x_itD, Hm.goMk2_0, Hm.goMk2_1, Hm.goMk_0, Hm.goMk_1, Hm.goMk_2, Hm.x_mMkF, Hm.goRun_0, Hm.goRun_1,
    Hm.goRun_2, Hm.goRun_3, Hm.goRun_4, Hm.goRun_5, Hm.x_runB, Hm.goCh3_0, Hm.goCh3_1, Hm.goCh2_0, Hm.goCh2_1, Hm.goCh2_2, Hm.goCh_0, Hm.goCh_1, Hm.goCh_2, Hm.x_mCh, Hm.goIx_0, Hm.goIx_1, Hm.x_ixl, Hm.x_ixt, Hm.goFor_0, Hm.goFor_1,
    Hm.goFor_2, Hm.goL2_0, Hm.goL2_1, Hm.goL2_2, Hm.goL2_3, Hm.goL2_4, Hm.goL2_5, Hm.goL_0, Hm.goL_1, Hm.x_loopN, Hm.x_loopC, Hm.goR1_0, Hm.goR1_1, Hm.goR1_2, Hm.x_mR1, Hm.goTy_0, Hm.goTy_1, Hm.goTy_2, Hm.goTy_3, Hm.goTy_4, Hm.goTy_5,
    Hm.x_tryS, Hm.goFl_0, Hm.goFl_1, Hm.x_fldH, Hm.x_wipenx, Hm.x_wipert, Hm.x_wipebk, Hm.x_wipect, Hm.x_fzv, Hm.x_fzl, Hm.x_fzd, Hm.x_fine, Hm.x_isNn, Hm.x_isNi, Hm.x_isNs, Hm.x_isNb, Hm.x_isNt, Hm.x_isNl, Hm.x_isNd, Hm.x_swD,
    Hm.x_ewD, slots0, List.map_cons, List.map_nil, List.length_cons, List.length_nil, Nat.reduceSub, Nat.reduceAdd, List.replicate_succ, List.replicate_zero, List.cons_append, List.nil_append, List.append_nil, List.getElem?_cons_zero,
    List.getElem?_cons_succ, List.set_cons_zero, List.set_cons_succ, Bool.false_eq_true, if_true, if_false, ite_true, ite_false, reduceIte, Bool.not_true, Bool.not_false, decide_true, decide_false, Hm.vw_int, Hm.vw_str, Hm.vw_bl,
    Hm.vw_non, Hm.vw_lst, Hm.vw_tup, Hm.vw_dct, Hm.eq_ii, Hm.ne_ii, Hm.eq_bb, Hm.ne_bb, Hm.ln_lst, Hm.ln_tup, Hm.sl_lst, Hm.sl_tup, Hm.ad_ii, Hm.sb_ii, Hm.le_ii, Hm.lt_ii, Hm.gt_ii, Hm.ge_ii, Hm.ng_i, Hm.is_n, Hm.nis_n, Hm.tr_bl,
    Hm.tr_non, Hm.tr_int, Hm.tr_lst, Hm.tr_tup, Hm.tr_dct, Hm.tp_lst, Hm.tp_tup, Hm.in_bl, Hm.at_0, Hm.at_1, Hm.at_2, Hm.at_3, Hm.at_4, Hm.gst_lst, Hm.gst_tup, Hm.sm_0, Hm.sm_1, Hm.sm_2, Hm.sm_3, Hm.sm_4, Hm.sm_5, Hm.sm_6, Hm.sm_7,
    Hm.sm_8, Hm.sm_9, Hm.sm_10, Hm.sm_11, Hm.sm_12, Hm.sm_13, Hm.sm_14, Hm.sm_15, Hm.sm_16, true_and, and_true, Nat.zero_le, Nat.reduceLeDiff, Nat.reduceEqDiff, Nat.reduceLT, List.length_map,
    F_read_deed, m_read_deed, N_read_deed, rdR, sp, tg, Option.getD_some, lf, List.length_map, dl, lcr, nn, ad, fx]
    · have dl : decide (((f.length : Nat) : Int) = ((rest.length : Nat) : Int)) = false := decide_eq_false (by omega)
      rw [if_neg hl]
      simp only [Hm.goS_0, Hm.goS_1, Hm.goS_2, Hm.goS_3, Hm.goS_4, Hm.goS_5, Hm.x_seqS, Hm.goSet_0, Hm.goSet_1, Hm.goSet_2, Hm.x_setS, Hm.goRet_0, Hm.goRet_1, Hm.goRet_2, Hm.x_retS, Hm.goEx_0, Hm.goEx_1, Hm.goEx_2, Hm.x_exprS, Hm.goIf_0, Hm.goIf_1,
    Hm.goIf_2, Hm.goIf_3, Hm.x_ifS, Hm.x_nextS, Hm.x_neverS, Hm.x_retNS, Hm.x_contS, Hm.x_breakS, Hm.goRv_0, Hm.x_retVarS, Hm.goFr_0, Hm.goFr_1, Hm.goFr_2, Hm.x_frzS, Hm.goCel_0, Hm.goCel_1, Hm.goCel_2, Hm.goCel_3, Hm.goCel_4,
    Hm.x_celS, Hm.goV_0, Hm.x_mVar, Hm.x_mK, Hm.goU_0, Hm.goU_1, Hm.goU_2, Hm.x_mUn, Hm.goB2_0, Hm.goB2_1, Hm.goB2_2, Hm.goB_0, Hm.goB_1, Hm.goB_2, Hm.x_mBin, Hm.goT_0, Hm.goT_1, Hm.goT_2, Hm.x_mTst, Hm.goTr2_0, Hm.goTr2_1, Hm.goTr_0,
    Hm.goTr_1, Hm.goTr_2, Hm.x_mTru, Hm.goN_0, Hm.goN_1, Hm.goN_2, Hm.x_mNot, Hm.goAn_0, Hm.goAn_1, Hm.goAn_2, Hm.goAn_3, Hm.goOr_0, Hm.goOr_1, Hm.goOr_2, Hm.goOr_3, Hm.goIe_0, Hm.goIe_1, Hm.goIe_2, Hm.goIe_3, Hm.x_mAnd, Hm.x_mOr,
    Hm.x_mIf, Hm.goNv2_0, Hm.goNv2_1, Hm.goNv_0, Hm.goNv_1, Hm.goNv_2, Hm.x_mNotV, Hm.goOv2_0, Hm.goOv2_1, Hm.goOv2_2, Hm.goOv_0, Hm.goOv_1, Hm.goOv_2, Hm.x_mOrV, Hm.goAv2_0, Hm.goAv2_1, Hm.goAv2_2, Hm.goAv_0, Hm.goAv_1, Hm.goAv_2,
    Hm.x_mAndV, Hm.x_mNil, Hm.goC2_0, Hm.goC2_1, Hm.goC2_2, Hm.goC_0, Hm.goC_1, Hm.goC_2, Hm.x_mCons, Hm.goTp_0, Hm.goTp_1, Hm.goTp_2, Hm.x_mTup, Hm.goLs_0, Hm.goLs_1, Hm.goLs_2, Hm.x_mLst, Hm.x_mNo, Hm.goPt_0, Hm.goPt_1, Hm.goPt_2,
    Hm.x_mPart, Hm.goSl3_0, Hm.goSl3_1, Hm.goSl3_2, Hm.goSl2_0, Hm.goSl2_1, Hm.goSl2_2, Hm.goSl_0, Hm.goSl_1, Hm.goSl_2, Hm.x_mSl, Hm.goCall_0, Hm.goCall_1, Hm.goCall_2, Hm.x_mCall, Hm.goFn_0, Hm.goFn_1, Hm.goFn_2, Hm.x_mF, Hm.goM3_0,
    Hm.goM3_1, Hm.goM3_2, Hm.goM2_0, Hm.goM_0, Hm.goM_1, Hm.goM_2, Hm.x_mM1, Hm.goG2_0, Hm.goG2_1, Hm.goG_0, Hm.goG_1, Hm.goG_2, Hm.x_setG, Hm.x_gN, Hm.x_gNil, Hm.goGs_0, Hm.goGs_1, Hm.x_gCons, Hm.x_gT_tup, Hm.x_gT_lst, Hm.goRs_0,
    Hm.goRs_1, Hm.goRs_2, Hm.x_raiseS, Hm.goW2_0, Hm.goW2_1, Hm.goW_0, Hm.goW_1, Hm.goW_2, Hm.x_mWk, Hm.x_itL, Hm.x_itT, Hm.x_itS, Hm.x_itD, Hm.goMk2_0, Hm.goMk2_1, Hm.goMk_0, Hm.goMk_1, Hm.goMk_2, Hm.x_mMkF, Hm.goRun_0, Hm.goRun_1,
    Hm.goRun_2, Hm.goRun_3, Hm.goRun_4, Hm.goRun_5, Hm.x_runB, Hm.goCh3_0, Hm.goCh3_1, Hm.goCh2_0, Hm.goCh2_1, Hm.goCh2_2, Hm.goCh_0, Hm.goCh_1, Hm.goCh_2, Hm.x_mCh, Hm.goIx_0, Hm.goIx_1, Hm.x_ixl, Hm.x_ixt, Hm.goFor_0, Hm.goFor_1,
    Hm.goFor_2, Hm.goL2_0, Hm.goL2_1, Hm.goL2_2, Hm.goL2_3, Hm.goL2_4, Hm.goL2_5, Hm.goL_0, Hm.goL_1, Hm.x_loopN, Hm.x_loopC, Hm.goR1_0, Hm.goR1_1, Hm.goR1_2, Hm.x_mR1, Hm.goTy_0, Hm.goTy_1, Hm.goTy_2, Hm.goTy_3, Hm.goTy_4, Hm.goTy_5,
    Hm.x_tryS, Hm.goFl_0, Hm.goFl_1, Hm.x_fldH, Hm.x_wipenx, Hm.x_wipert, Hm.x_wipebk, Hm.x_wipect, Hm.x_fzv, Hm.x_fzl, Hm.x_fzd, Hm.x_fine, Hm.x_isNn, Hm.x_isNi, Hm.x_isNs, Hm.x_isNb, Hm.x_isNt, Hm.x_isNl, Hm.x_isNd, Hm.x_swD,
    Hm.x_ewD, slots0, List.map_cons, List.map_nil, List.length_cons, List.length_nil, Nat.reduceSub, Nat.reduceAdd, List.replicate_succ, List.replicate_zero, List.cons_append, List.nil_append, List.append_nil, List.getElem?_cons_zero,
    List.getElem?_cons_succ, List.set_cons_zero, List.set_cons_succ, Bool.false_eq_true, if_true, if_false, ite_true, ite_false, reduceIte, Bool.not_true, Bool.not_false, decide_true, decide_false, Hm.vw_int, Hm.vw_str, Hm.vw_bl,
    Hm.vw_non, Hm.vw_lst, Hm.vw_tup, Hm.vw_dct, Hm.eq_ii, Hm.ne_ii, Hm.eq_bb, Hm.ne_bb, Hm.ln_lst, Hm.ln_tup, Hm.sl_lst, Hm.sl_tup, Hm.ad_ii, Hm.sb_ii, Hm.le_ii, Hm.lt_ii, Hm.gt_ii, Hm.ge_ii, Hm.ng_i, Hm.is_n, Hm.nis_n, Hm.tr_bl,
    Hm.tr_non, Hm.tr_int, Hm.tr_lst, Hm.tr_tup, Hm.tr_dct, Hm.tp_lst, Hm.tp_tup, Hm.in_bl, Hm.at_0, Hm.at_1, Hm.at_2, Hm.at_3, Hm.at_4, Hm.gst_lst, Hm.gst_tup, Hm.sm_0, Hm.sm_1, Hm.sm_2, Hm.sm_3, Hm.sm_4, Hm.sm_5, Hm.sm_6, Hm.sm_7,
    Hm.sm_8, Hm.sm_9, Hm.sm_10, Hm.sm_11, Hm.sm_12, Hm.sm_13, Hm.sm_14, Hm.sm_15, Hm.sm_16, true_and, and_true, Nat.zero_le, Nat.reduceLeDiff, Nat.reduceEqDiff, Nat.reduceLT, List.length_map,
    F_read_deed, m_read_deed, N_read_deed, rdR, sp, tg, Option.getD_some, lf, List.length_map, dl, fx]
/-! ### .. by the law -/
def LF : List (Key × D) := tab_FORMS.map fun p => (.inr p.1, p.2)
theorem lookK_map (w : Str) : ∀ l : List (Str × D), lookK (l.map fun p => ((.inr p.1 : Key), p.2)) (.inr w) = l.lookup w
  | [] => rfl
  | (k, d) :: l => by
    unfold lookK
    rw [List.map_cons, List.find?_cons, List.lookup_cons]
    by_cases h : k = w
    · subst h
      have e1 : decide ((Sum.inr k : Key) = .inr k) = true := decide_eq_true rfl
      rw [e1, beq_self_eq_true]
      rfl
    · have e1 : decide ((Sum.inr k : Key) = .inr w) = false := decide_eq_false fun z => h (Sum.inr.inj z)
      have e2 : (w == k) = false := beq_eq_false_iff_ne.mpr (Ne.symm h)
      rw [e1, e2]
      exact lookK_map w l
theorem lk_nin {w : Str} {S : Store} : ninD (.str w) (.dct LF) S = .ok (.val (.bl (!(tab_FORMS.lookup w).isSome))) S := by
  have e : inB S (.str w) (.dct LF) = some (lookK LF (.inr w)).isSome := rfl
  unfold ninD
  rw [e]
  unfold LF
  rw [lookK_map]
  rfl
theorem lk_ix {w : Str} {d : D} {S : Store} (h : tab_FORMS.lookup w = some d) : ixD (.dct LF) (.str w) S = .ok (.val d) S := by
  show (match lookK LF (.inr w) with
      | some z => fine z S
      | none => .bad) = _
  unfold LF
  rw [lookK_map, h]
  rfl
theorem dct_ev {E : Ev} {S : Store} (rest : MS) (h1 : E[1]? = some none) : seqS (setS 1 (mDct [(.inr "stuff", (mK (.str "nk"))), (.inr "stock", (mK (.str "nkk"))), (.inr "gone", (mK (.str "n"))), (.inr "work", (mK (.str "nw"))), (.inr "drop", (mK (.str "n"))), (.inr "tie", (mK (.str "knnk"))), (.inr "cut", (mK (.str "k")))])) (seqS (updS (mPv 1) (mDct [(.inr "shut", (mK (.str "k"))), (.inr "unshut", (mK (.str "k"))), (.inr "wait", (mK (.str "nk"))), (.inr "begun", (mK (.str "nk"))), (.inr "any", (mK (.str "n"))), (.inr "forget", (mK (.str ""))), (.inr "keep", (mK (.str "")))])) rest) E S = rest (E.set 1 (some (.od LF))) S := by
  have s1 : mDct [(.inr "stuff", (mK (.str "nk"))), (.inr "stock", (mK (.str "nkk"))), (.inr "gone", (mK (.str "n"))), (.inr "work", (mK (.str "nw"))), (.inr "drop", (mK (.str "n"))), (.inr "tie", (mK (.str "knnk"))), (.inr "cut", (mK (.str "k")))] E S = .ok (.od (LF.take 7)) S := by kernel_rfl
  have s2 : ∀ E, mDct [(.inr "shut", (mK (.str "k"))), (.inr "unshut", (mK (.str "k"))), (.inr "wait", (mK (.str "nk"))), (.inr "begun", (mK (.str "nk"))), (.inr "any", (mK (.str "n"))), (.inr "forget", (mK (.str ""))), (.inr "keep", (mK (.str "")))] E S = .ok (.od (LF.drop 7)) S := fun E => by kernel_rfl
  have hl : 1 < E.length := (List.getElem?_eq_some_iff.mp h1).1
  have g : (E.set 1 (some (.od (LF.take 7))))[1]? = some (some (.od (LF.take 7))) := List.getElem?_set_self hl
  have p1 : mPv 1 (E.set 1 (some (.od (LF.take 7)))) S = .ok (.sl 1) S := by unfold mPv; rw [g]
  have p2 : plcK (E.set 1 (some (.od (LF.take 7)))) S (.sl 1) = some (LF.take 7) := by
    show (match (E.set 1 (some (.od (LF.take 7))))[1]? with
      | some (some (.od ds)) => some ds
      | _ => none) = _
    rw [g]
  have mg : mergeD (LF.take 7) (LF.drop 7) = LF := by kernel_rfl
  have lz : ((LF.take 7).length + (LF.drop 7).length ≤ 1000) = True := eq_true (by decide +kernel)
  rw [seqS_nx (set_ok s1)]
  refine seqS_nx ?_
  unfold updS withE
  rw [p1]
  dsimp only
  rw [p2]
  dsimp only
  rw [s2]
  dsimp only
  rw [p2]
  dsimp only
  rw [if_pos (of_eq_true lz), mg]
  show RS.nx ((E.set 1 _).set 1 _) S = _
  rw [List.set_set]
theorem loop_ev {x f : Str} {rest : List Str} {S : Store} {e1 e2 : Option DV} (hf : ∀ c ∈ Ls f, c = 110 ∨ c = 107 ∨ c = 119) (hr : ∀ y ∈ rest, Sh 900 y) {wk : List D} : ∀ (ps : List (Nat × Str)) (acc : List D) (e4 e5 : Option DV), (∀ p ∈ ps, p.1 ∈ Ls f ∧ p.2 ∈ rest) → acc.length + ps.length < 1000 →
    ∃ e4' e5', loopS (gT 2 (gConsM (gN 4) (gConsM (gN 5) gNilM))) (appS (mPv 3) (mCons (mCall F__law_thing_in 2 (mCons (mVar 4) (mCons (mVar 5) mNil))) mNil)) ⟨wk, none⟩ (ps.map prD) [some (.val (.str x)), e1, e2, some (.ol acc), e4, e5] S =
      .nx [some (.val (.str x)), e1, e2, some (.ol (acc ++ ps.map fun p => thD p.1 p.2)), e4', e5'] S
  | [], acc, e4, e5, _, _ => ⟨e4, e5, by rw [List.map_nil, Hm.x_loopN, List.map_nil, List.append_nil]⟩
  | p :: ps, acc, e4, e5, hp, hl => by
    rw [List.length_cons] at hl
    obtain ⟨h1, h2⟩ := hp p List.mem_cons_self
    obtain ⟨f4, f5, ih⟩ := loop_ev hf hr ps (acc ++ [thD p.1 p.2]) (some (.val (.str ⟨#[p.1]⟩))) (some (.val (.str p.2))) (fun q hq => hp q (List.mem_cons_of_mem _ hq)) (by rw [List.length_append, List.length_singleton]; omega)
    refine ⟨f4, f5, ?_⟩
    rw [List.map_cons, Hm.x_loopC]
    have g : gT 2 (gConsM (gN 4) (gConsM (gN 5) gNilM)) (prD p) [some (.val (.str x)), e1, e2, some (.ol acc), e4, e5] S = some [some (.val (.str x)), e1, e2, some (.ol acc), some (.val (.str ⟨#[p.1]⟩)), some (.val (.str p.2))] := rfl
    rw [g]
    show goL2 (appS (mPv 3) _ _ S) _ _ _ _ = _
    have cl : mCons (mCall F__law_thing_in 2 (mCons (mVar 4) (mCons (mVar 5) mNil))) mNil [some (.val (.str x)), e1, e2, some (.ol acc), some (.val (.str ⟨#[p.1]⟩)), some (.val (.str p.2))] S = .ok [thD p.1 p.2] S :=
      cons_ok (x := .val (thD p.1 p.2)) (call_ok (cons_ok (x := .val (.str ⟨#[p.1]⟩)) (var_ok rfl) (cons_ok (x := .val (.str p.2)) (var_ok rfl) nil_ok)) rfl (lth_ev (hr _ h2) (hf _ h1))) nil_ok
    rw [app_ok (k := 3) (xs := acc) (d := thD p.1 p.2) rfl cl (by omega)]
    rw [List.append_assoc] at ih
    exact ih
theorem ldeed_ev {x : Str} {S : Store} (hs : Sh 900 x) : F__law_deed_in [.str x] S = .ok (.val (deedD x)) S := by
  have sp : splitD x (.str " ") S = .ok (.ol ((Sp x 32).map .str)) S := spl_ev hs (by omega)
  have shs := sp_sh (c := 32) hs
  have len := sp_len (c := 32) hs
  obtain ⟨w, rest, e⟩ := sp_ne x 32
  unfold deedD
  rw [e] at sp shs len ⊢
  have sr : ∀ y ∈ rest, Sh 900 y := fun y hy => shs y (List.mem_cons_of_mem _ hy)
  have sw := shs w List.mem_cons_self
  dsimp only
  have n0 := lk_nin (w := w) (S := S)
  have ct : cutD (D.str w :: rest.map D.str) (some 1) none = rest.map D.str := by
    have e1 : HT.sIx (D.str w :: rest.map D.str).length 0 (some 1) = min 1 (D.str w :: rest.map D.str).length := HT.sIx_nat _ _ 1
    unfold cutD
    rw [e1]
    have e2 : min 1 (D.str w :: rest.map D.str).length = 1 := by rw [List.length_cons]; omega
    rw [e2]
    show (rest.map D.str).take ((D.str w :: rest.map D.str).length - 1) = _
    rw [List.length_cons]
    exact List.take_of_length_le (by omega)
  cases hw : tab_FORMS.lookup w with
  | none =>
    rw [hw] at n0
    unfold deedF
    simp only [Hm.goS_0, Hm.goS_1, Hm.goS_2, Hm.goS_3, Hm.goS_4, Hm.goS_5, Hm.x_seqS, Hm.goSet_0, Hm.goSet_1, Hm.goSet_2, Hm.x_setS, Hm.goRet_0, Hm.goRet_1, Hm.goRet_2, Hm.x_retS, Hm.goEx_0, Hm.goEx_1, Hm.goEx_2, Hm.x_exprS, Hm.goIf_0, Hm.goIf_1,
    Hm.goIf_2, Hm.goIf_3, Hm.x_ifS, Hm.x_nextS, Hm.x_neverS, Hm.x_retNS, Hm.x_contS, Hm.x_breakS, Hm.goRv_0, Hm.x_retVarS, Hm.goFr_0, Hm.goFr_1, Hm.goFr_2, Hm.x_frzS, Hm.goCel_0, Hm.goCel_1, Hm.goCel_2, Hm.goCel_3, Hm.goCel_4,
    Hm.x_celS, Hm.goV_0, Hm.x_mVar, Hm.x_mK, Hm.goU_0, Hm.goU_1, Hm.goU_2, Hm.x_mUn, Hm.goB2_0, Hm.goB2_1, Hm.goB2_2, Hm.goB_0, Hm.goB_1, Hm.goB_2, Hm.x_mBin, Hm.goT_0, Hm.goT_1, Hm.goT_2, Hm.x_mTst, Hm.goTr2_0, Hm.goTr2_1, Hm.goTr_0,
    Hm.goTr_1, Hm.goTr_2, Hm.x_mTru, Hm.goN_0, Hm.goN_1, Hm.goN_2, Hm.x_mNot, Hm.goAn_0, Hm.goAn_1, Hm.goAn_2, Hm.goAn_3, Hm.goOr_0, Hm.goOr_1, Hm.goOr_2, Hm.goOr_3, Hm.goIe_0, Hm.goIe_1, Hm.goIe_2, Hm.goIe_3, Hm.x_mAnd, Hm.x_mOr,
    Hm.x_mIf, Hm.goNv2_0, Hm.goNv2_1, Hm.goNv_0, Hm.goNv_1, Hm.goNv_2, Hm.x_mNotV, Hm.goOv2_0, Hm.goOv2_1, Hm.goOv2_2, Hm.goOv_0, Hm.goOv_1, Hm.goOv_2, Hm.x_mOrV, Hm.goAv2_0, Hm.goAv2_1, Hm.goAv2_2, Hm.goAv_0, Hm.goAv_1, Hm.goAv_2,
    Hm.x_mAndV, Hm.x_mNil, Hm.goC2_0, Hm.goC2_1, Hm.goC2_2, Hm.goC_0, Hm.goC_1, Hm.goC_2, Hm.x_mCons, Hm.goTp_0, Hm.goTp_1, Hm.goTp_2, Hm.x_mTup, Hm.goLs_0, Hm.goLs_1, Hm.goLs_2, Hm.x_mLst, Hm.x_mNo, Hm.goPt_0, Hm.goPt_1, Hm.goPt_2,
    Hm.x_mPart, Hm.goSl3_0, Hm.goSl3_1, Hm.goSl3_2, Hm.goSl2_0, Hm.goSl2_1, Hm.goSl2_2, Hm.goSl_0, Hm.goSl_1, Hm.goSl_2, Hm.x_mSl, Hm.goCall_0, Hm.goCall_1, Hm.goCall_2, Hm.x_mCall, Hm.goFn_0, Hm.goFn_1, Hm.goFn_2, Hm.x_mF, Hm.goM3_0,
    Hm.goM3_1, Hm.goM3_2, Hm.goM2_0, Hm.goM_0, Hm.goM_1, Hm.goM_2, Hm.x_mM1, Hm.goG2_0, Hm.goG2_1, Hm.goG_0, Hm.goG_1, Hm.goG_2, Hm.x_setG, Hm.x_gN, Hm.x_gNil, Hm.goGs_0, Hm.goGs_1, Hm.x_gCons, Hm.x_gT_tup, Hm.x_gT_lst, Hm.goRs_0,
    Hm.goRs_1, Hm.goRs_2, Hm.x_raiseS, Hm.goW2_0, Hm.goW2_1, Hm.goW_0, Hm.goW_1, Hm.goW_2, Hm.x_mWk, Hm.x_itL, Hm.x_itT, Hm.x_itS, Hm.x_itD, Hm.goMk2_0, Hm.goMk2_1, Hm.goMk_0, Hm.goMk_1, Hm.goMk_2, Hm.x_mMkF, Hm.goRun_0, Hm.goRun_1,
    Hm.goRun_2, Hm.goRun_3, Hm.goRun_4, Hm.goRun_5, Hm.x_runB, Hm.goCh3_0, Hm.goCh3_1, Hm.goCh2_0, Hm.goCh2_1, Hm.goCh2_2, Hm.goCh_0, Hm.goCh_1, Hm.goCh_2, Hm.x_mCh, Hm.goIx_0, Hm.goIx_1, Hm.x_ixl, Hm.x_ixt, Hm.goFor_0, Hm.goFor_1,
    Hm.goFor_2, Hm.goL2_0, Hm.goL2_1, Hm.goL2_2, Hm.goL2_3, Hm.goL2_4, Hm.goL2_5, Hm.goL_0, Hm.goL_1, Hm.x_loopN, Hm.x_loopC, Hm.goR1_0, Hm.goR1_1, Hm.goR1_2, Hm.x_mR1, Hm.goTy_0, Hm.goTy_1, Hm.goTy_2, Hm.goTy_3, Hm.goTy_4, Hm.goTy_5,
    Hm.x_tryS, Hm.goFl_0, Hm.goFl_1, Hm.x_fldH, Hm.x_wipenx, Hm.x_wipert, Hm.x_wipebk, Hm.x_wipect, Hm.x_fzv, Hm.x_fzl, Hm.x_fzd, Hm.x_fine, Hm.x_isNn, Hm.x_isNi, Hm.x_isNs, Hm.x_isNb, Hm.x_isNt, Hm.x_isNl, Hm.x_isNd, Hm.x_swD,
    Hm.x_ewD, slots0, List.map_cons, List.map_nil, List.length_cons, List.length_nil, Nat.reduceSub, Nat.reduceAdd, List.replicate_succ, List.replicate_zero, List.cons_append, List.nil_append, List.append_nil, List.getElem?_cons_zero,
    List.getElem?_cons_succ, List.set_cons_zero, List.set_cons_succ, Bool.false_eq_true, if_true, if_false, ite_true, ite_false, reduceIte, Bool.not_true, Bool.not_false, decide_true, decide_false, Hm.vw_int, Hm.vw_str, Hm.vw_bl,
    Hm.vw_non, Hm.vw_lst, Hm.vw_tup, Hm.vw_dct, Hm.eq_ii, Hm.ne_ii, Hm.eq_bb, Hm.ne_bb, Hm.ln_lst, Hm.ln_tup, Hm.sl_lst, Hm.sl_tup, Hm.ad_ii, Hm.sb_ii, Hm.le_ii, Hm.lt_ii, Hm.gt_ii, Hm.ge_ii, Hm.ng_i, Hm.is_n, Hm.nis_n, Hm.tr_bl,
    Hm.tr_non, Hm.tr_int, Hm.tr_lst, Hm.tr_tup, Hm.tr_dct, Hm.tp_lst, Hm.tp_tup, Hm.in_bl, Hm.at_0, Hm.at_1, Hm.at_2, Hm.at_3, Hm.at_4, Hm.gst_lst, Hm.gst_tup, Hm.sm_0, Hm.sm_1, Hm.sm_2, Hm.sm_3, Hm.sm_4, Hm.sm_5, Hm.sm_6, Hm.sm_7,
    Hm.sm_8, Hm.sm_9, Hm.sm_10, Hm.sm_11, Hm.sm_12, Hm.sm_13, Hm.sm_14, Hm.sm_15, Hm.sm_16, true_and, and_true, Nat.zero_le, Nat.reduceLeDiff, Nat.reduceEqDiff, Nat.reduceLT, List.length_map,
    F__law_deed_in, m__law_deed_in, N__law_deed_in, ↓dct_ev, sp, n0, Option.isSome_none]
  | some d =>
    obtain ⟨f, rfl, hf, hfl⟩ := form_ok hw
    rw [hw] at n0
    have ix := lk_ix (S := S) hw
    unfold deedF
    dsimp only
    have lf := ln_str (s := f) (S := S) (by rw [← ls_len]; omega)
    by_cases hl : f.length = rest.length
    · have dl : decide ((((rest.length + 1 : Nat) : Nat) : Int) = 1 + ((f.length : Nat) : Int)) = true := decide_eq_true (by omega)
      rw [if_pos hl]
      have tl : (ths f rest).length ≤ 4 := by unfold ths; rw [List.length_map]; exact prs_len hfl
      obtain ⟨e4, e5, lp⟩ := loop_ev (x := x) (f := f) (rest := rest) (S := S) (e1 := some (.val (.dct LF))) (e2 := some (.val (.lst (.str w :: rest.map .str)))) (wk := (prs f rest).map prD) hf sr (prs f rest) [.str w] none none (fun p hp => List.of_mem_zip hp) (by
        have := prs_len (rest := rest) hfl
        rw [List.length_singleton]
        omega)
      have fs : forS (mZp (mCons (mBin ixD (mVar 1) (mBin ixD (mVar 2) (mK (.int 0)))) (mCons (mSl (mVar 2) (mPart (mK (.int 1))) mNo) mNil))) (gT 2 (gConsM (gN 4) (gConsM (gN 5) gNilM))) (appS (mPv 3) (mCons (mCall F__law_thing_in 2 (mCons (mVar 4) (mCons (mVar 5) mNil))) mNil))
          [some (.val (.str x)), some (.val (.dct LF)), some (.val (.lst (.str w :: rest.map .str))), some (.ol [.str w]), none, none] S = .nx [some (.val (.str x)), some (.val (.dct LF)), some (.val (.lst (.str w :: rest.map .str))), some (.ol (.str w :: ths f rest)), e4, e5] S := by
        refine forS_of (w := ⟨(prs f rest).map prD, none⟩) (S1 := S) ?_ lp
        have a1 : mCons (mBin ixD (mVar 1) (mBin ixD (mVar 2) (mK (.int 0)))) (mCons (mSl (mVar 2) (mPart (mK (.int 1))) mNo) mNil) [some (.val (.str x)), some (.val (.dct LF)), some (.val (.lst (.str w :: rest.map .str))), some (.ol [.str w]), none, none] S = .ok [.str f, .lst (rest.map .str)] S := by
          simp only [Hm.goS_0, Hm.goS_1, Hm.goS_2, Hm.goS_3, Hm.goS_4, Hm.goS_5, Hm.x_seqS, Hm.goSet_0, Hm.goSet_1, Hm.goSet_2, Hm.x_setS, Hm.goRet_0, Hm.goRet_1, Hm.goRet_2, Hm.x_retS, Hm.goEx_0, Hm.goEx_1, Hm.goEx_2, Hm.x_exprS, Hm.goIf_0, Hm.goIf_1,
    Hm.goIf_2, Hm.goIf_3, Hm.x_ifS, Hm.x_nextS, Hm.x_neverS, Hm.x_retNS, Hm.x_contS, Hm.x_breakS, Hm.goRv_0, Hm.x_retVarS, Hm.goFr_0, Hm.goFr_1, Hm.goFr_2, Hm.x_frzS, Hm.goCel_0, Hm.goCel_1, Hm.goCel_2, Hm.goCel_3, Hm.goCel_4,
    Hm.x_celS, Hm.goV_0, Hm.x_mVar, Hm.x_mK, Hm.goU_0, Hm.goU_1, Hm.goU_2, Hm.x_mUn, Hm.goB2_0, Hm.goB2_1, Hm.goB2_2, Hm.goB_0, Hm.goB_1, Hm.goB_2, Hm.x_mBin, Hm.goT_0, Hm.goT_1, Hm.goT_2, Hm.x_mTst, Hm.goTr2_0, Hm.goTr2_1, Hm.goTr_0,
    Hm.goTr_1, Hm.goTr_2, Hm.x_mTru, Hm.goN_0, Hm.goN_1, Hm.goN_2, Hm.x_mNot, Hm.goAn_0, Hm.goAn_1, Hm.goAn_2, Hm.goAn_3, Hm.goOr_0, Hm.goOr_1, Hm.goOr_2, Hm.goOr_3, Hm.goIe_0, Hm.goIe_1, Hm.goIe_2, Hm.goIe_3, Hm.x_mAnd, Hm.x_mOr,
    Hm.x_mIf, Hm.goNv2_0, Hm.goNv2_1, Hm.goNv_0, Hm.goNv_1, Hm.goNv_2, Hm.x_mNotV, Hm.goOv2_0, Hm.goOv2_1, Hm.goOv2_2, Hm.goOv_0, Hm.goOv_1, Hm.goOv_2, Hm.x_mOrV, Hm.goAv2_0, Hm.goAv2_1, Hm.goAv2_2, Hm.goAv_0, Hm.goAv_1, Hm.goAv_2,
    Hm.x_mAndV, Hm.x_mNil, Hm.goC2_0, Hm.goC2_1, Hm.goC2_2, Hm.goC_0, Hm.goC_1, Hm.goC_2, Hm.x_mCons, Hm.goTp_0, Hm.goTp_1, Hm.goTp_2, Hm.x_mTup, Hm.goLs_0, Hm.goLs_1, Hm.goLs_2, Hm.x_mLst, Hm.x_mNo, Hm.goPt_0, Hm.goPt_1, Hm.goPt_2,
    Hm.x_mPart, Hm.goSl3_0, Hm.goSl3_1, Hm.goSl3_2, Hm.goSl2_0, Hm.goSl2_1, Hm.goSl2_2, Hm.goSl_0, Hm.goSl_1, Hm.goSl_2, Hm.x_mSl, Hm.goCall_0, Hm.goCall_1, Hm.goCall_2, Hm.x_mCall, Hm.goFn_0, Hm.goFn_1, Hm.goFn_2, Hm.x_mF, Hm.goM3_0,
    Hm.goM3_1, Hm.goM3_2, Hm.goM2_0, Hm.goM_0, Hm.goM_1, Hm.goM_2, Hm.x_mM1, Hm.goG2_0, Hm.goG2_1, Hm.goG_0, Hm.goG_1, Hm.goG_2, Hm.x_setG, Hm.x_gN, Hm.x_gNil, Hm.goGs_0, Hm.goGs_1, Hm.x_gCons, Hm.x_gT_tup, Hm.x_gT_lst, Hm.goRs_0,
    Hm.goRs_1, Hm.goRs_2, Hm.x_raiseS, Hm.goW2_0, Hm.goW2_1, Hm.goW_0, Hm.goW_1, Hm.goW_2, Hm.x_mWk, Hm.x_itL, Hm.x_itT, Hm.x_itS, Hm.x_itD, Hm.goMk2_0, Hm.goMk2_1, Hm.goMk_0, Hm.goMk_1, Hm.goMk_2, Hm.x_mMkF, Hm.goRun_0, Hm.goRun_1,
    Hm.goRun_2, Hm.goRun_3, Hm.goRun_4, Hm.goRun_5, Hm.x_runB, Hm.goCh3_0, Hm.goCh3_1, Hm.goCh2_0, Hm.goCh2_1, Hm.goCh2_2, Hm.goCh_0, Hm.goCh_1, Hm.goCh_2, Hm.x_mCh, Hm.goIx_0, Hm.goIx_1, Hm.x_ixl, Hm.x_ixt, Hm.goFor_0, Hm.goFor_1,
    Hm.goFor_2, Hm.goL2_0, Hm.goL2_1, Hm.goL2_2, Hm.goL2_3, Hm.goL2_4, Hm.goL2_5, Hm.goL_0, Hm.goL_1, Hm.x_loopN, Hm.x_loopC, Hm.goR1_0, Hm.goR1_1, Hm.goR1_2, Hm.x_mR1, Hm.goTy_0, Hm.goTy_1, Hm.goTy_2, Hm.goTy_3, Hm.goTy_4, Hm.goTy_5,
    Hm.x_tryS, Hm.goFl_0, Hm.goFl_1, Hm.x_fldH, Hm.x_wipenx, Hm.x_wipert, Hm.x_wipebk, Hm.x_wipect, Hm.x_fzv, Hm.x_fzl, Hm.x_fzd, Hm.x_fine, Hm.x_isNn, Hm.x_isNi, Hm.x_isNs, Hm.x_isNb, Hm.x_isNt, Hm.x_isNl, Hm.x_isNd, Hm.x_swD,
    Hm.x_ewD, slots0, List.map_cons, List.map_nil, List.length_cons, List.length_nil, Nat.reduceSub, Nat.reduceAdd, List.replicate_succ, List.replicate_zero, List.cons_append, List.nil_append, List.append_nil, List.getElem?_cons_zero,
    List.getElem?_cons_succ, List.set_cons_zero, List.set_cons_succ, Bool.false_eq_true, if_true, if_false, ite_true, ite_false, reduceIte, Bool.not_true, Bool.not_false, decide_true, decide_false, Hm.vw_int, Hm.vw_str, Hm.vw_bl,
    Hm.vw_non, Hm.vw_lst, Hm.vw_tup, Hm.vw_dct, Hm.eq_ii, Hm.ne_ii, Hm.eq_bb, Hm.ne_bb, Hm.ln_lst, Hm.ln_tup, Hm.sl_lst, Hm.sl_tup, Hm.ad_ii, Hm.sb_ii, Hm.le_ii, Hm.lt_ii, Hm.gt_ii, Hm.ge_ii, Hm.ng_i, Hm.is_n, Hm.nis_n, Hm.tr_bl,
    Hm.tr_non, Hm.tr_int, Hm.tr_lst, Hm.tr_tup, Hm.tr_dct, Hm.tp_lst, Hm.tp_tup, Hm.in_bl, Hm.at_0, Hm.at_1, Hm.at_2, Hm.at_3, Hm.at_4, Hm.gst_lst, Hm.gst_tup, Hm.sm_0, Hm.sm_1, Hm.sm_2, Hm.sm_3, Hm.sm_4, Hm.sm_5, Hm.sm_6, Hm.sm_7,
    Hm.sm_8, Hm.sm_9, Hm.sm_10, Hm.sm_11, Hm.sm_12, Hm.sm_13, Hm.sm_14, Hm.sm_15, Hm.sm_16, true_and, and_true, Nat.zero_le, Nat.reduceLeDiff, Nat.reduceEqDiff, Nat.reduceLT, List.length_map,
    ix, ct]
        unfold mZp
        rw [bnd_ok a1]
        show Res.ok (Wk.mk (zipL (signs f) (rest.map D.str)) none) S = _
        unfold signs prs
        rw [zip_prs]
      have nn := none_ev (S := S) (n := 6) (xs := .str w :: ths f rest) (by omega) (fun d hd => by
        rcases List.mem_cons.mp hd with q | q
        · rw [q]; exact .inr (.str sw.ok)
        · exact ths_nn sr d q)
      rw [List.any_cons, show isN (.str w) = false from rfl, Bool.false_or] at nn
      cases h2 : (ths f rest).any isN
      all_goals
        rw [h2] at nn
        simp only [Hm.goS_0, Hm.goS_1, Hm.goS_2, Hm.goS_3, Hm.goS_4, Hm.goS_5, Hm.x_seqS, Hm.goSet_0, Hm.goSet_1, Hm.goSet_2, Hm.x_setS, Hm.goRet_0, Hm.goRet_1, Hm.goRet_2, Hm.x_retS, Hm.goEx_0, Hm.goEx_1, Hm.goEx_2, Hm.x_exprS, Hm.goIf_0, Hm.goIf_1,
    Hm.goIf_2, Hm.goIf_3, Hm.x_ifS, Hm.x_nextS, Hm.x_neverS, Hm.x_retNS, Hm.x_contS, Hm.x_breakS, Hm.goRv_0, Hm.x_retVarS, Hm.goFr_0, Hm.goFr_1, Hm.goFr_2, Hm.x_frzS, Hm.goCel_0, Hm.goCel_1, Hm.goCel_2, Hm.goCel_3, Hm.goCel_4,
    Hm.x_celS, Hm.goV_0, Hm.x_mVar, Hm.x_mK, Hm.goU_0, Hm.goU_1, Hm.goU_2, Hm.x_mUn, Hm.goB2_0, Hm.goB2_1, Hm.goB2_2, Hm.goB_0, Hm.goB_1, Hm.goB_2, Hm.x_mBin, Hm.goT_0, Hm.goT_1, Hm.goT_2, Hm.x_mTst, Hm.goTr2_0, Hm.goTr2_1, Hm.goTr_0,
    Hm.goTr_1, Hm.goTr_2, Hm.x_mTru, Hm.goN_0, Hm.goN_1, Hm.goN_2, Hm.x_mNot, Hm.goAn_0, Hm.goAn_1, Hm.goAn_2, Hm.goAn_3, Hm.goOr_0, Hm.goOr_1, Hm.goOr_2, Hm.goOr_3, Hm.goIe_0, Hm.goIe_1, Hm.goIe_2, Hm.goIe_3, Hm.x_mAnd, Hm.x_mOr,
    Hm.x_mIf, Hm.goNv2_0, Hm.goNv2_1, Hm.goNv_0, Hm.goNv_1, Hm.goNv_2, Hm.x_mNotV, Hm.goOv2_0, Hm.goOv2_1, Hm.goOv2_2, Hm.goOv_0, Hm.goOv_1, Hm.goOv_2, Hm.x_mOrV, Hm.goAv2_0, Hm.goAv2_1, Hm.goAv2_2, Hm.goAv_0, Hm.goAv_1, Hm.goAv_2,
    Hm.x_mAndV, Hm.x_mNil, Hm.goC2_0, Hm.goC2_1, Hm.goC2_2, Hm.goC_0, Hm.goC_1, Hm.goC_2, Hm.x_mCons, Hm.goTp_0, Hm.goTp_1, Hm.goTp_2, Hm.x_mTup, Hm.goLs_0, Hm.goLs_1, Hm.goLs_2, Hm.x_mLst, Hm.x_mNo, Hm.goPt_0, Hm.goPt_1, Hm.goPt_2,
    Hm.x_mPart, Hm.goSl3_0, Hm.goSl3_1, Hm.goSl3_2, Hm.goSl2_0, Hm.goSl2_1, Hm.goSl2_2, Hm.goSl_0, Hm.goSl_1, Hm.goSl_2, Hm.x_mSl, Hm.goCall_0, Hm.goCall_1, Hm.goCall_2, Hm.x_mCall, Hm.goFn_0, Hm.goFn_1, Hm.goFn_2, Hm.x_mF, Hm.goM3_0,
    Hm.goM3_1, Hm.goM3_2, Hm.goM2_0, Hm.goM_0, Hm.goM_1, Hm.goM_2, Hm.x_mM1, Hm.goG2_0, Hm.goG2_1, Hm.goG_0, Hm.goG_1, Hm.goG_2, Hm.x_setG, Hm.x_gN, Hm.x_gNil, Hm.goGs_0, Hm.goGs_1, Hm.x_gCons, Hm.x_gT_tup, Hm.x_gT_lst, Hm.goRs_0,
    Hm.goRs_1, Hm.goRs_2, Hm.x_raiseS, Hm.goW2_0, Hm.goW2_1, Hm.goW_0, Hm.goW_1, Hm.goW_2, Hm.x_mWk, Hm.x_itL, Hm.x_itT, Hm.x_itS, Hm.x_itD, Hm.goMk2_0, Hm.goMk2_1, Hm.goMk_0, Hm.goMk_1, Hm.goMk_2, Hm.x_mMkF, Hm.goRun_0, Hm.goRun_1,
    Hm.goRun_2, Hm.goRun_3, Hm.goRun_4, Hm.goRun_5, Hm.x_runB, Hm.goCh3_0, Hm.goCh3_1, Hm.goCh2_0, Hm.goCh2_1, Hm.goCh2_2, Hm.goCh_0, Hm.goCh_1, Hm.goCh_2, Hm.x_mCh, Hm.goIx_0, Hm.goIx_1, Hm.x_ixl, Hm.x_ixt, Hm.goFor_0, Hm.goFor_1,
    Hm.goFor_2, Hm.goL2_0, Hm.goL2_1, Hm.goL2_2, Hm.goL2_3, Hm.goL2_4, Hm.goL2_5, Hm.goL_0, Hm.goL_1, Hm.x_loopN, Hm.x_loopC, Hm.goR1_0, Hm.goR1_1, Hm.goR1_2, Hm.x_mR1, Hm.goTy_0, Hm.goTy_1, Hm.goTy_2, Hm.goTy_3, Hm.goTy_4, Hm.goTy_5,
    Hm.x_tryS, Hm.goFl_0, Hm.goFl_1, Hm.x_fldH, Hm.x_wipenx, Hm.x_wipert, Hm.x_wipebk, Hm.x_wipect, Hm.x_fzv, Hm.x_fzl, Hm.x_fzd, Hm.x_fine, Hm.x_isNn, Hm.x_isNi, Hm.x_isNs, Hm.x_isNb, Hm.x_isNt, Hm.x_isNl, Hm.x_isNd, Hm.x_swD,
    Hm.x_ewD, slots0, List.map_cons, List.map_nil, List.length_cons, List.length_nil, Nat.reduceSub, Nat.reduceAdd, List.replicate_succ, List.replicate_zero, List.cons_append, List.nil_append, List.append_nil, List.getElem?_cons_zero,
    List.getElem?_cons_succ, List.set_cons_zero, List.set_cons_succ, Bool.false_eq_true, if_true, if_false, ite_true, ite_false, reduceIte, Bool.not_true, Bool.not_false, decide_true, decide_false, Hm.vw_int, Hm.vw_str, Hm.vw_bl,
    Hm.vw_non, Hm.vw_lst, Hm.vw_tup, Hm.vw_dct, Hm.eq_ii, Hm.ne_ii, Hm.eq_bb, Hm.ne_bb, Hm.ln_lst, Hm.ln_tup, Hm.sl_lst, Hm.sl_tup, Hm.ad_ii, Hm.sb_ii, Hm.le_ii, Hm.lt_ii, Hm.gt_ii, Hm.ge_ii, Hm.ng_i, Hm.is_n, Hm.nis_n, Hm.tr_bl,
    Hm.tr_non, Hm.tr_int, Hm.tr_lst, Hm.tr_tup, Hm.tr_dct, Hm.tp_lst, Hm.tp_tup, Hm.in_bl, Hm.at_0, Hm.at_1, Hm.at_2, Hm.at_3, Hm.at_4, Hm.gst_lst, Hm.gst_tup, Hm.sm_0, Hm.sm_1, Hm.sm_2, Hm.sm_3, Hm.sm_4, Hm.sm_5, Hm.sm_6, Hm.sm_7,
    Hm.sm_8, Hm.sm_9, Hm.sm_10, Hm.sm_11, Hm.sm_12, Hm.sm_13, Hm.sm_14, Hm.sm_15, Hm.sm_16, true_and, and_true, Nat.zero_le, Nat.reduceLeDiff, Nat.reduceEqDiff, Nat.reduceLT, List.length_map,
    F__law_deed_in, m__law_deed_in, N__law_deed_in, ↓dct_ev, sp, n0, Option.isSome_some, ix, lf, List.length_map, dl, fs, nn]
    · have dl : decide ((((rest.length + 1 : Nat) : Nat) : Int) = 1 + ((f.length : Nat) : Int)) = false := decide_eq_false (by omega)
      rw [if_neg hl]
      simp only [Hm.goS_0, Hm.goS_1, Hm.goS_2, Hm.goS_3, Hm.goS_4, Hm.goS_5, Hm.x_seqS, Hm.goSet_0, Hm.goSet_1, Hm.goSet_2, Hm.x_setS, Hm.goRet_0, Hm.goRet_1, Hm.goRet_2, Hm.x_retS, Hm.goEx_0, Hm.goEx_1, Hm.goEx_2, Hm.x_exprS, Hm.goIf_0, Hm.goIf_1,
    Hm.goIf_2, Hm.goIf_3, Hm.x_ifS, Hm.x_nextS, Hm.x_neverS, Hm.x_retNS, Hm.x_contS, Hm.x_breakS, Hm.goRv_0, Hm.x_retVarS, Hm.goFr_0, Hm.goFr_1, Hm.goFr_2, Hm.x_frzS, Hm.goCel_0, Hm.goCel_1, Hm.goCel_2, Hm.goCel_3, Hm.goCel_4,
    Hm.x_celS, Hm.goV_0, Hm.x_mVar, Hm.x_mK, Hm.goU_0, Hm.goU_1, Hm.goU_2, Hm.x_mUn, Hm.goB2_0, Hm.goB2_1, Hm.goB2_2, Hm.goB_0, Hm.goB_1, Hm.goB_2, Hm.x_mBin, Hm.goT_0, Hm.goT_1, Hm.goT_2, Hm.x_mTst, Hm.goTr2_0, Hm.goTr2_1, Hm.goTr_0,
    Hm.goTr_1, Hm.goTr_2, Hm.x_mTru, Hm.goN_0, Hm.goN_1, Hm.goN_2, Hm.x_mNot, Hm.goAn_0, Hm.goAn_1, Hm.goAn_2, Hm.goAn_3, Hm.goOr_0, Hm.goOr_1, Hm.goOr_2, Hm.goOr_3, Hm.goIe_0, Hm.goIe_1, Hm.goIe_2, Hm.goIe_3, Hm.x_mAnd, Hm.x_mOr,
    Hm.x_mIf, Hm.goNv2_0, Hm.goNv2_1, Hm.goNv_0, Hm.goNv_1, Hm.goNv_2, Hm.x_mNotV, Hm.goOv2_0, Hm.goOv2_1, Hm.goOv2_2, Hm.goOv_0, Hm.goOv_1, Hm.goOv_2, Hm.x_mOrV, Hm.goAv2_0, Hm.goAv2_1, Hm.goAv2_2, Hm.goAv_0, Hm.goAv_1, Hm.goAv_2,
    Hm.x_mAndV, Hm.x_mNil, Hm.goC2_0, Hm.goC2_1, Hm.goC2_2, Hm.goC_0, Hm.goC_1, Hm.goC_2, Hm.x_mCons, Hm.goTp_0, Hm.goTp_1, Hm.goTp_2, Hm.x_mTup, Hm.goLs_0, Hm.goLs_1, Hm.goLs_2, Hm.x_mLst, Hm.x_mNo, Hm.goPt_0, Hm.goPt_1, Hm.goPt_2,
    Hm.x_mPart, Hm.goSl3_0, Hm.goSl3_1, Hm.goSl3_2, Hm.goSl2_0, Hm.goSl2_1, Hm.goSl2_2, Hm.goSl_0, Hm.goSl_1, Hm.goSl_2, Hm.x_mSl, Hm.goCall_0, Hm.goCall_1, Hm.goCall_2, Hm.x_mCall, Hm.goFn_0, Hm.goFn_1, Hm.goFn_2, Hm.x_mF, Hm.goM3_0,
    Hm.goM3_1, Hm.goM3_2, Hm.goM2_0, Hm.goM_0, Hm.goM_1, Hm.goM_2, Hm.x_mM1, Hm.goG2_0, Hm.goG2_1, Hm.goG_0, Hm.goG_1, Hm.goG_2, Hm.x_setG, Hm.x_gN, Hm.x_gNil, Hm.goGs_0, Hm.goGs_1, Hm.x_gCons, Hm.x_gT_tup, Hm.x_gT_lst, Hm.goRs_0,
    Hm.goRs_1, Hm.goRs_2, Hm.x_raiseS, Hm.goW2_0, Hm.goW2_1, Hm.goW_0, Hm.goW_1, Hm.goW_2, Hm.x_mWk, Hm.x_itL, Hm.x_itT, Hm.x_itS, Hm.x_itD, Hm.goMk2_0, Hm.goMk2_1, Hm.goMk_0, Hm.goMk_1, Hm.goMk_2, Hm.x_mMkF, Hm.goRun_0, Hm.goRun_1,
    Hm.goRun_2, Hm.goRun_3, Hm.goRun_4, Hm.goRun_5, Hm.x_runB, Hm.goCh3_0, Hm.goCh3_1, Hm.goCh2_0, Hm.goCh2_1, Hm.goCh2_2, Hm.goCh_0, Hm.goCh_1, Hm.goCh_2, Hm.x_mCh, Hm.goIx_0, Hm.goIx_1, Hm.x_ixl, Hm.x_ixt, Hm.goFor_0, Hm.goFor_1,
    Hm.goFor_2, Hm.goL2_0, Hm.goL2_1, Hm.goL2_2, Hm.goL2_3, Hm.goL2_4, Hm.goL2_5, Hm.goL_0, Hm.goL_1, Hm.x_loopN, Hm.x_loopC, Hm.goR1_0, Hm.goR1_1, Hm.goR1_2, Hm.x_mR1, Hm.goTy_0, Hm.goTy_1, Hm.goTy_2, Hm.goTy_3, Hm.goTy_4, Hm.goTy_5,
    Hm.x_tryS, Hm.goFl_0, Hm.goFl_1, Hm.x_fldH, Hm.x_wipenx, Hm.x_wipert, Hm.x_wipebk, Hm.x_wipect, Hm.x_fzv, Hm.x_fzl, Hm.x_fzd, Hm.x_fine, Hm.x_isNn, Hm.x_isNi, Hm.x_isNs, Hm.x_isNb, Hm.x_isNt, Hm.x_isNl, Hm.x_isNd, Hm.x_swD,
    Hm.x_ewD, slots0, List.map_cons, List.map_nil, List.length_cons, List.length_nil, Nat.reduceSub, Nat.reduceAdd, List.replicate_succ, List.replicate_zero, List.cons_append, List.nil_append, List.append_nil, List.getElem?_cons_zero,
    List.getElem?_cons_succ, List.set_cons_zero, List.set_cons_succ, Bool.false_eq_true, if_true, if_false, ite_true, ite_false, reduceIte, Bool.not_true, Bool.not_false, decide_true, decide_false, Hm.vw_int, Hm.vw_str, Hm.vw_bl,
    Hm.vw_non, Hm.vw_lst, Hm.vw_tup, Hm.vw_dct, Hm.eq_ii, Hm.ne_ii, Hm.eq_bb, Hm.ne_bb, Hm.ln_lst, Hm.ln_tup, Hm.sl_lst, Hm.sl_tup, Hm.ad_ii, Hm.sb_ii, Hm.le_ii, Hm.lt_ii, Hm.gt_ii, Hm.ge_ii, Hm.ng_i, Hm.is_n, Hm.nis_n, Hm.tr_bl,
    Hm.tr_non, Hm.tr_int, Hm.tr_lst, Hm.tr_tup, Hm.tr_dct, Hm.tp_lst, Hm.tp_tup, Hm.in_bl, Hm.at_0, Hm.at_1, Hm.at_2, Hm.at_3, Hm.at_4, Hm.gst_lst, Hm.gst_tup, Hm.sm_0, Hm.sm_1, Hm.sm_2, Hm.sm_3, Hm.sm_4, Hm.sm_5, Hm.sm_6, Hm.sm_7,
    Hm.sm_8, Hm.sm_9, Hm.sm_10, Hm.sm_11, Hm.sm_12, Hm.sm_13, Hm.sm_14, Hm.sm_15, Hm.sm_16, true_and, and_true, Nat.zero_le, Nat.reduceLeDiff, Nat.reduceEqDiff, Nat.reduceLT, List.length_map,
    F__law_deed_in, m__law_deed_in, N__law_deed_in, ↓dct_ev, sp, n0, Option.isSome_some, ix, lf, List.length_map, dl]
end Wk57
set_option Elab.async false
set_option linter.all false
set_option maxRecDepth 100000
set_option maxHeartbeats 4000000
namespace Wk57
open PySem PySem.Spec L2 Hm
open Builtin Builtin.Str

/-! ### a text spoilt -/
theorem sIx_nn {n d : Nat} {v : Int} (h : 0 ≤ v) : HT.sIx n d (some v) = min v.toNat n := by
  show (if v < 0 then (v + (n : Int)).toNat else min v.toNat n) = _
  rw [if_neg (by omega)]
theorem cut_to_len {x : Str} {v : Int} (h : 0 ≤ v) : (cutS x none (some v)).length = min v.toNat x.length := by
  have e : Ls (cutS x none (some v)) = ((Ls x).drop (HT.sIx x.length 0 none)).take (HT.sIx x.length x.length (some v) - HT.sIx x.length 0 none) := rfl
  rw [← ls_len, e, sIx_nn h]
  show (((Ls x).drop 0).take (min v.toNat x.length - 0)).length = _
  rw [List.drop_zero, List.length_take, ls_len]
  omega
theorem cut_from_len {x : Str} {v : Int} (h : 0 ≤ v) : (cutS x (some v) none).length = x.length - min v.toNat x.length := by
  have e : Ls (cutS x (some v) none) = ((Ls x).drop (HT.sIx x.length 0 (some v))).take (HT.sIx x.length x.length none - HT.sIx x.length 0 (some v)) := rfl
  rw [← ls_len, e, sIx_nn h]
  show (((Ls x).drop (min v.toNat x.length)).take (x.length - min v.toNat x.length)).length = _
  rw [List.length_take, List.length_drop, ls_len]
  omega
theorem at_any {α : Type} {xs : List α} {v : Int} (h0 : 0 ≤ v) (h1 : v < (xs.length : Nat)) : ∃ c, atI xs v = some c ∧ c ∈ xs := by
  obtain ⟨n, rfl⟩ := Int.eq_ofNat_of_zero_le h0
  have hn : n < xs.length := by omega
  exact ⟨xs[n], Hm.at_of (List.getElem?_eq_getElem hn), List.getElem_mem hn⟩
theorem sg_all : (Ls (" 0179-+*/r;aetiyZ.~" : Str)).all (fun c => decide (c < 1000)) = true := by decide +kernel
theorem sg_len : (" 0179-+*/r;aetiyZ.~" : Str).cps.toList.length = 19 := by decide +kernel
theorem sg_at {S : Store} {v : Int} (h0 : 0 ≤ v) (h1 : v < 19) : ∃ c, ixD (.str " 0179-+*/r;aetiyZ.~") (.int v) S = .ok (.val (.str ⟨#[c]⟩)) S ∧ Sh 1 ⟨#[c]⟩ := by
  obtain ⟨c, e, m⟩ := at_any (xs := (" 0179-+*/r;aetiyZ.~" : Str).cps.toList) h0 (by rw [sg_len]; exact h1)
  refine ⟨c, Hm.ix_str e (by rw [← ls_len]; show (" 0179-+*/r;aetiyZ.~" : Str).cps.toList.length ≤ _; rw [sg_len]; omega), sh_one ?_⟩
  have := of_decide_eq_true (List.all_eq_true.mp sg_all c m)
  omega
/-! words taken, put in -/
def cutT (ws : List Str) (lo hi : Option Int) : List Str := (ws.drop (HT.sIx ws.length 0 lo)).take (HT.sIx ws.length ws.length hi - HT.sIx ws.length 0 lo)
theorem cutT_map (ws : List Str) (lo hi : Option Int) : cutD (ws.map D.str) lo hi = (cutT ws lo hi).map D.str := by
  unfold cutD cutT
  rw [List.length_map, List.map_take, List.map_drop]
theorem cutT_mem {ws : List Str} {lo hi : Option Int} {y : Str} (h : y ∈ cutT ws lo hi) : y ∈ ws := List.mem_of_mem_drop (List.mem_of_mem_take h)
theorem jl_sum (c : Nat) : ∀ {xs : List (List Nat)}, xs ≠ [] → (jl c xs).length + 1 = (xs.map (fun x => x.length + 1)).sum
  | [], h => absurd rfl h
  | [x], _ => by simp [jl]
  | x :: z :: r, _ => by
    have := jl_sum c (xs := z :: r) (by simp)
    have e0 : jl c (x :: z :: r) = x ++ c :: jl c (z :: r) := rfl
    rw [e0, List.map_cons, List.sum_cons, ← this]
    simp only [List.length_append, List.length_cons]
    omega
def wt (ws : List Str) : Nat := (ws.map (fun x => x.length + 1)).sum
theorem wt_ls (ws : List Str) : ((ws.map Ls).map (fun x => x.length + 1)).sum = wt ws := by
  unfold wt
  rw [List.map_map]
  congr 1
theorem wt_sp {x : Str} {c : Nat} : x.length + 1 = wt (Sp x c) := by
  obtain ⟨p, r, e⟩ := sp_ne x c
  have := jl_sum c (xs := (Sp x c).map Ls) (by rw [e]; simp)
  rw [sp_ls, wt_ls, ls_len] at this
  exact this
theorem wt_app (a b : List Str) : wt (a ++ b) = wt a + wt b := by
  unfold wt
  rw [List.map_append, List.sum_append]
theorem wt_take (ws : List Str) (n : Nat) : wt (ws.take n) + wt (ws.drop n) = wt ws := by
  rw [← wt_app, List.take_append_drop]
theorem wt_drop (ws : List Str) (n m : Nat) : wt ((ws.drop (n + m))) ≤ wt (ws.drop n) := by
  rw [← List.drop_drop]
  have := wt_take (ws.drop n) m
  omega
theorem wt_cut {ws : List Str} {v w : Int} (h0 : 0 ≤ v) (h : v ≤ w) : wt (cutT ws none (some v)) + wt (cutT ws (some w) none) ≤ wt ws := by
  have e1 : cutT ws none (some v) = ws.take (min v.toNat ws.length) := by
    unfold cutT
    rw [sIx_nn h0]
    show (ws.drop 0).take (min v.toNat ws.length - 0) = _
    rw [List.drop_zero, Nat.sub_zero]
  have e2 : cutT ws (some w) none = ws.drop (min w.toNat ws.length) := by
    unfold cutT
    rw [sIx_nn (by omega)]
    show (ws.drop (min w.toNat ws.length)).take (ws.length - min w.toNat ws.length) = _
    refine List.take_of_length_le ?_
    rw [List.length_drop]
    omega
  rw [e1, e2]
  have a := wt_take ws (min v.toNat ws.length)
  have b := wt_drop ws (min v.toNat ws.length) (min w.toNat ws.length - min v.toNat ws.length)
  rw [show min v.toNat ws.length + (min w.toNat ws.length - min v.toNat ws.length) = min w.toNat ws.length by omega] at b
  omega
theorem wt_len (ws : List Str) : ws.length ≤ wt ws := by
  induction ws with
  | nil => exact Nat.le_refl _
  | cons x ws ih =>
    have e : wt (x :: ws) = (x.length + 1) + wt ws := by unfold wt; rw [List.map_cons, List.sum_cons]
    rw [e, List.length_cons]
    omega
theorem wt_sum (ws : List Str) : (ws.map (·.length)).sum ≤ wt ws := by
  induction ws with
  | nil => exact Nat.le_refl _
  | cons x ws ih =>
    have e : wt (x :: ws) = (x.length + 1) + wt ws := by unfold wt; rw [List.map_cons, List.sum_cons]
    rw [e, List.map_cons, List.sum_cons]
    omega
theorem join_ev {c : Nat} {xs : List Str} {S : Store} (h : wt xs ≤ 10000) : joinD ⟨#[c]⟩ (.lst (xs.map .str)) S = .ok (.val (.str (Txt.join ⟨#[c]⟩ xs))) S := by
  show (match asStrs (xs.map .str) with
    | some ys => if joinOk ⟨#[c]⟩ ys then fine (.str (Txt.join ⟨#[c]⟩ ys)) S else .bad
    | none => .bad) = _
  rw [strs_map]
  dsimp only
  rw [if_pos (by
    unfold joinOk
    refine decide_eq_true ?_
    have e : (⟨#[c]⟩ : Str).length = 1 := rfl
    have a := wt_len xs
    have b := wt_sum xs
    rw [e]
    omega)]
  rfl
theorem join_sh {c n : Nat} {xs : List Str} (hc : c < 1000) (hne : xs ≠ []) (h : wt xs ≤ n + 1) (hs : ∀ x ∈ xs, PyData.strOk x = true) : Sh n (Txt.join ⟨#[c]⟩ xs) := by
  have e : Ls (Txt.join ⟨#[c]⟩ xs) = jl c (xs.map Ls) := by rw [join_is, jn_jl]
  constructor
  · have a := jl_sum c (xs := xs.map Ls) (by simpa using hne)
    rw [wt_ls] at a
    rw [← ls_len, e]
    omega
  · refine ok_iff.mpr fun k hk => ?_
    rw [e] at hk
    have key : ∀ l : List (List Nat), (∀ x ∈ l, ∀ k ∈ x, k < 0x110000) → ∀ k ∈ jl c l, k < 0x110000 := fun l => by
      induction l with
      | nil => intro _ k hk; cases hk
      | cons x l ih =>
        intro hx k hk
        cases l with
        | nil => exact hx x List.mem_cons_self k hk
        | cons y r =>
          have e0 : jl c (x :: y :: r) = x ++ c :: jl c (y :: r) := rfl
          rw [e0] at hk
          rcases List.mem_append.mp hk with q | q
          · exact hx x List.mem_cons_self k q
          · rcases List.mem_cons.mp q with q | q
            · omega
            · exact ih (fun z hz => hx z (List.mem_cons_of_mem _ hz)) k q
    refine key _ (fun x hx => ?_) k hk
    obtain ⟨z, hz, rfl⟩ := List.mem_map.mp hx
    exact ok_iff.mp (hs z hz)
def oddT : List Str := ["", "0", "00", "07", "1000", "-1", "-0", "999", "1r", "r", "2+ox*1", "2+ox*01", "1/1r", "1/", "+ox*1", "2ox*1", "3r+a*0", "1+a*-1", "keep", "oxoxoxoxo", "A", "2+a*1*1"]
theorem odd_all : oddT.all (fun x => decide (x.length ≤ 9) && PyData.strOk x) = true := by decide +kernel
theorem odd_at {v : Int} (h0 : 0 ≤ v) (h1 : v < 22) : ∃ o, atI (oddT.map D.str) v = some (.str o) ∧ Sh 9 o := by
  obtain ⟨c, e, m⟩ := at_any (xs := oddT.map D.str) h0 (by rw [List.length_map]; exact h1)
  obtain ⟨o, ho, rfl⟩ := List.mem_map.mp m
  have q := List.all_eq_true.mp odd_all o ho
  rw [Bool.and_eq_true, decide_eq_true_eq] at q
  exact ⟨o, e, q.1, q.2⟩
theorem odd_map : oddT.map D.str = [D.str "", D.str "0", D.str "00", D.str "07", D.str "1000", D.str "-1", D.str "-0", D.str "999", D.str "1r", D.str "r", D.str "2+ox*1", D.str "2+ox*01", D.str "1/1r", D.str "1/", D.str "+ox*1", D.str "2ox*1", D.str "3r+a*0", D.str "1+a*-1", D.str "keep", D.str "oxoxoxoxo", D.str "A", D.str "2+a*1*1"] := rfl
theorem spoil_ev {n : Nat} {x : Str} {S : Store} (hS : DrOk S) (hs : Sh n x) (hn : n ≤ 885) : ∃ y S', F__law_spoilt [.ref 0, .str x] S = .ok (.val (.str y)) S' ∧ DrOk S' ∧ Sh (n + 10) y := by
  have hx := hs.le
  obtain ⟨v1, S1, p1, a1, b1, h1⟩ := pull_ok (n := ((x.length : Nat) : Int) + 1) hS (by omega) (by omega)
  obtain ⟨v2, S2, p2, a2, b2, h2⟩ := pull_ok (n := 19) h1 (by omega) (by omega)
  obtain ⟨v3, S3, p3, a3, b3, h3⟩ := pull_ok (n := 6) h2 (by omega) (by omega)
  have l : ∀ S, lenD [.str x] S = .ok (.val (.int (x.length : Nat))) S := fun S => ln_str (by omega)
  obtain ⟨c, ix, sc⟩ := sg_at (S := S2) a2 b2
  have l1 := cut_to_len (x := x) a1
  have l2 := cut_from_len (x := x) a1
  have l3 := cut_from_len (x := x) (v := v1 + 1) (by omega)
  have s1 := cut_sh (lo := none) (hi := some v1) hs
  have s2 := cut_sh (lo := some v1) (hi := none) hs
  have s3 := cut_sh (lo := some (v1 + 1)) (hi := none) hs
  have q1 := Hm.sl_str (s := x) (S := S3) (lo := none) (hi := some v1) (by omega)
  have q2 := Hm.sl_str (s := x) (S := S3) (lo := some v1) (hi := none) (by omega)
  have q3 := Hm.sl_str (s := x) (S := S3) (lo := some (v1 + 1)) (hi := none) (by omega)
  have c1 : (⟨#[c]⟩ : Str).length = 1 := rfl
  by_cases z0 : v3 = 0
  · have d0 : decide (v3 = 0) = true := decide_eq_true z0
    have e1 := Hm.ad_ss (S := S3) (a := cutS x none (some v1)) (b := ⟨#[c]⟩) (by omega)
    have e2 := Hm.ad_ss (S := S3) (a := cutS x none (some v1) ++ ⟨#[c]⟩) (b := cutS x (some v1) none) (by rw [Str.length_append]; omega)
    have s9 := (sh_app (sh_app s1 sc) s2).ok
    have s8 : (cutS x none (some v1) ++ ⟨#[c]⟩ ++ cutS x (some v1) none).length ≤ n + 10 := by rw [Str.length_append, Str.length_append, c1]; omega
    refine ⟨_, S3, ?_, h3, ⟨s8, s9⟩⟩
    simp only [Hm.goS_0, Hm.goS_1, Hm.goS_2, Hm.goS_3, Hm.goS_4, Hm.goS_5, Hm.x_seqS, Hm.goSet_0, Hm.goSet_1, Hm.goSet_2, Hm.x_setS, Hm.goRet_0, Hm.goRet_1, Hm.goRet_2, Hm.x_retS, Hm.goEx_0, Hm.goEx_1, Hm.goEx_2, Hm.x_exprS, Hm.goIf_0, Hm.goIf_1,
    Hm.goIf_2, Hm.goIf_3, Hm.x_ifS, Hm.x_nextS, Hm.x_neverS, Hm.x_retNS, Hm.x_contS, Hm.x_breakS, Hm.goRv_0, Hm.x_retVarS, Hm.goFr_0, Hm.goFr_1, Hm.goFr_2, Hm.x_frzS, Hm.goCel_0, Hm.goCel_1, Hm.goCel_2, Hm.goCel_3, Hm.goCel_4,
    Hm.x_celS, Hm.goV_0, Hm.x_mVar, Hm.x_mK, Hm.goU_0, Hm.goU_1, Hm.goU_2, Hm.x_mUn, Hm.goB2_0, Hm.goB2_1, Hm.goB2_2, Hm.goB_0, Hm.goB_1, Hm.goB_2, Hm.x_mBin, Hm.goT_0, Hm.goT_1, Hm.goT_2, Hm.x_mTst, Hm.goTr2_0, Hm.goTr2_1, Hm.goTr_0,
    Hm.goTr_1, Hm.goTr_2, Hm.x_mTru, Hm.goN_0, Hm.goN_1, Hm.goN_2, Hm.x_mNot, Hm.goAn_0, Hm.goAn_1, Hm.goAn_2, Hm.goAn_3, Hm.goOr_0, Hm.goOr_1, Hm.goOr_2, Hm.goOr_3, Hm.goIe_0, Hm.goIe_1, Hm.goIe_2, Hm.goIe_3, Hm.x_mAnd, Hm.x_mOr,
    Hm.x_mIf, Hm.goNv2_0, Hm.goNv2_1, Hm.goNv_0, Hm.goNv_1, Hm.goNv_2, Hm.x_mNotV, Hm.goOv2_0, Hm.goOv2_1, Hm.goOv2_2, Hm.goOv_0, Hm.goOv_1, Hm.goOv_2, Hm.x_mOrV, Hm.goAv2_0, Hm.goAv2_1, Hm.goAv2_2, Hm.goAv_0, Hm.goAv_1, Hm.goAv_2,
    Hm.x_mAndV, Hm.x_mNil, Hm.goC2_0, Hm.goC2_1, Hm.goC2_2, Hm.goC_0, Hm.goC_1, Hm.goC_2, Hm.x_mCons, Hm.goTp_0, Hm.goTp_1, Hm.goTp_2, Hm.x_mTup, Hm.goLs_0, Hm.goLs_1, Hm.goLs_2, Hm.x_mLst, Hm.x_mNo, Hm.goPt_0, Hm.goPt_1, Hm.goPt_2,
    Hm.x_mPart, Hm.goSl3_0, Hm.goSl3_1, Hm.goSl3_2, Hm.goSl2_0, Hm.goSl2_1, Hm.goSl2_2, Hm.goSl_0, Hm.goSl_1, Hm.goSl_2, Hm.x_mSl, Hm.goCall_0, Hm.goCall_1, Hm.goCall_2, Hm.x_mCall, Hm.goFn_0, Hm.goFn_1, Hm.goFn_2, Hm.x_mF, Hm.goM3_0,
    Hm.goM3_1, Hm.goM3_2, Hm.goM2_0, Hm.goM_0, Hm.goM_1, Hm.goM_2, Hm.x_mM1, Hm.goG2_0, Hm.goG2_1, Hm.goG_0, Hm.goG_1, Hm.goG_2, Hm.x_setG, Hm.x_gN, Hm.x_gNil, Hm.goGs_0, Hm.goGs_1, Hm.x_gCons, Hm.x_gT_tup, Hm.x_gT_lst, Hm.goRs_0,
    Hm.goRs_1, Hm.goRs_2, Hm.x_raiseS, Hm.goW2_0, Hm.goW2_1, Hm.goW_0, Hm.goW_1, Hm.goW_2, Hm.x_mWk, Hm.x_itL, Hm.x_itT, Hm.x_itS, Hm.x_itD, Hm.goMk2_0, Hm.goMk2_1, Hm.goMk_0, Hm.goMk_1, Hm.goMk_2, Hm.x_mMkF, Hm.goRun_0, Hm.goRun_1,
    Hm.goRun_2, Hm.goRun_3, Hm.goRun_4, Hm.goRun_5, Hm.x_runB, Hm.goCh3_0, Hm.goCh3_1, Hm.goCh2_0, Hm.goCh2_1, Hm.goCh2_2, Hm.goCh_0, Hm.goCh_1, Hm.goCh_2, Hm.x_mCh, Hm.goIx_0, Hm.goIx_1, Hm.x_ixl, Hm.x_ixt, Hm.goFor_0, Hm.goFor_1,
    Hm.goFor_2, Hm.goL2_0, Hm.goL2_1, Hm.goL2_2, Hm.goL2_3, Hm.goL2_4, Hm.goL2_5, Hm.goL_0, Hm.goL_1, Hm.x_loopN, Hm.x_loopC, Hm.goR1_0, Hm.goR1_1, Hm.goR1_2, Hm.x_mR1, Hm.goTy_0, Hm.goTy_1, Hm.goTy_2, Hm.goTy_3, Hm.goTy_4, Hm.goTy_5,
    Hm.x_tryS, Hm.goFl_0, Hm.goFl_1, Hm.x_fldH, Hm.x_wipenx, Hm.x_wipert, Hm.x_wipebk, Hm.x_wipect, Hm.x_fzv, Hm.x_fzl, Hm.x_fzd, Hm.x_fine, Hm.x_isNn, Hm.x_isNi, Hm.x_isNs, Hm.x_isNb, Hm.x_isNt, Hm.x_isNl, Hm.x_isNd, Hm.x_swD,
    Hm.x_ewD, slots0, List.map_cons, List.map_nil, List.length_cons, List.length_nil, Nat.reduceSub, Nat.reduceAdd, List.replicate_succ, List.replicate_zero, List.cons_append, List.nil_append, List.append_nil, List.getElem?_cons_zero,
    List.getElem?_cons_succ, List.set_cons_zero, List.set_cons_succ, Bool.false_eq_true, if_true, if_false, ite_true, ite_false, reduceIte, Bool.not_true, Bool.not_false, decide_true, decide_false, Hm.vw_int, Hm.vw_str, Hm.vw_bl,
    Hm.vw_non, Hm.vw_lst, Hm.vw_tup, Hm.vw_dct, Hm.eq_ii, Hm.ne_ii, Hm.eq_bb, Hm.ne_bb, Hm.ln_lst, Hm.ln_tup, Hm.sl_lst, Hm.sl_tup, Hm.ad_ii, Hm.sb_ii, Hm.le_ii, Hm.lt_ii, Hm.gt_ii, Hm.ge_ii, Hm.ng_i, Hm.is_n, Hm.nis_n, Hm.tr_bl,
    Hm.tr_non, Hm.tr_int, Hm.tr_lst, Hm.tr_tup, Hm.tr_dct, Hm.tp_lst, Hm.tp_tup, Hm.in_bl, Hm.at_0, Hm.at_1, Hm.at_2, Hm.at_3, Hm.at_4, Hm.gst_lst, Hm.gst_tup, Hm.sm_0, Hm.sm_1, Hm.sm_2, Hm.sm_3, Hm.sm_4, Hm.sm_5, Hm.sm_6, Hm.sm_7,
    Hm.sm_8, Hm.sm_9, Hm.sm_10, Hm.sm_11, Hm.sm_12, Hm.sm_13, Hm.sm_14, Hm.sm_15, Hm.sm_16, true_and, and_true, Nat.zero_le, Nat.reduceLeDiff, Nat.reduceEqDiff, Nat.reduceLT, List.length_map,
    F__law_spoilt, m__law_spoilt, N__law_spoilt, l, p1, p2, ix, p3, d0, q1, q2, e1, e2]
  have d0 : decide (v3 = 0) = false := decide_eq_false z0
  by_cases z1 : v3 = 1
  · have d1 : decide (v3 = 1) = true := decide_eq_true z1
    have e1 := Hm.ad_ss (S := S3) (a := cutS x none (some v1)) (b := cutS x (some (v1 + 1)) none) (by omega)
    have s9 := (sh_app s1 s3).ok
    have s8 : (cutS x none (some v1) ++ cutS x (some (v1 + 1)) none).length ≤ n + 10 := by rw [Str.length_append]; omega
    refine ⟨_, S3, ?_, h3, ⟨s8, s9⟩⟩
    simp only [Hm.goS_0, Hm.goS_1, Hm.goS_2, Hm.goS_3, Hm.goS_4, Hm.goS_5, Hm.x_seqS, Hm.goSet_0, Hm.goSet_1, Hm.goSet_2, Hm.x_setS, Hm.goRet_0, Hm.goRet_1, Hm.goRet_2, Hm.x_retS, Hm.goEx_0, Hm.goEx_1, Hm.goEx_2, Hm.x_exprS, Hm.goIf_0, Hm.goIf_1,
    Hm.goIf_2, Hm.goIf_3, Hm.x_ifS, Hm.x_nextS, Hm.x_neverS, Hm.x_retNS, Hm.x_contS, Hm.x_breakS, Hm.goRv_0, Hm.x_retVarS, Hm.goFr_0, Hm.goFr_1, Hm.goFr_2, Hm.x_frzS, Hm.goCel_0, Hm.goCel_1, Hm.goCel_2, Hm.goCel_3, Hm.goCel_4,
    Hm.x_celS, Hm.goV_0, Hm.x_mVar, Hm.x_mK, Hm.goU_0, Hm.goU_1, Hm.goU_2, Hm.x_mUn, Hm.goB2_0, Hm.goB2_1, Hm.goB2_2, Hm.goB_0, Hm.goB_1, Hm.goB_2, Hm.x_mBin, Hm.goT_0, Hm.goT_1, Hm.goT_2, Hm.x_mTst, Hm.goTr2_0, Hm.goTr2_1, Hm.goTr_0,
    Hm.goTr_1, Hm.goTr_2, Hm.x_mTru, Hm.goN_0, Hm.goN_1, Hm.goN_2, Hm.x_mNot, Hm.goAn_0, Hm.goAn_1, Hm.goAn_2, Hm.goAn_3, Hm.goOr_0, Hm.goOr_1, Hm.goOr_2, Hm.goOr_3, Hm.goIe_0, Hm.goIe_1, Hm.goIe_2, Hm.goIe_3, Hm.x_mAnd, Hm.x_mOr,
    Hm.x_mIf, Hm.goNv2_0, Hm.goNv2_1, Hm.goNv_0, Hm.goNv_1, Hm.goNv_2, Hm.x_mNotV, Hm.goOv2_0, Hm.goOv2_1, Hm.goOv2_2, Hm.goOv_0, Hm.goOv_1, Hm.goOv_2, Hm.x_mOrV, Hm.goAv2_0, Hm.goAv2_1, Hm.goAv2_2, Hm.goAv_0, Hm.goAv_1, Hm.goAv_2,
    Hm.x_mAndV, Hm.x_mNil, Hm.goC2_0, Hm.goC2_1, Hm.goC2_2, Hm.goC_0, Hm.goC_1, Hm.goC_2, Hm.x_mCons, Hm.goTp_0, Hm.goTp_1, Hm.goTp_2, Hm.x_mTup, Hm.goLs_0, Hm.goLs_1, Hm.goLs_2, Hm.x_mLst, Hm.x_mNo, Hm.goPt_0, Hm.goPt_1, Hm.goPt_2,
    Hm.x_mPart, Hm.goSl3_0, Hm.goSl3_1, Hm.goSl3_2, Hm.goSl2_0, Hm.goSl2_1, Hm.goSl2_2, Hm.goSl_0, Hm.goSl_1, Hm.goSl_2, Hm.x_mSl, Hm.goCall_0, Hm.goCall_1, Hm.goCall_2, Hm.x_mCall, Hm.goFn_0, Hm.goFn_1, Hm.goFn_2, Hm.x_mF, Hm.goM3_0,
    Hm.goM3_1, Hm.goM3_2, Hm.goM2_0, Hm.goM_0, Hm.goM_1, Hm.goM_2, Hm.x_mM1, Hm.goG2_0, Hm.goG2_1, Hm.goG_0, Hm.goG_1, Hm.goG_2, Hm.x_setG, Hm.x_gN, Hm.x_gNil, Hm.goGs_0, Hm.goGs_1, Hm.x_gCons, Hm.x_gT_tup, Hm.x_gT_lst, Hm.goRs_0,
    Hm.goRs_1, Hm.goRs_2, Hm.x_raiseS, Hm.goW2_0, Hm.goW2_1, Hm.goW_0, Hm.goW_1, Hm.goW_2, Hm.x_mWk, Hm.x_itL, Hm.x_itT, Hm.x_itS, Hm.x_itD, Hm.goMk2_0, Hm.goMk2_1, Hm.goMk_0, Hm.goMk_1, Hm.goMk_2, Hm.x_mMkF, Hm.goRun_0, Hm.goRun_1,
    Hm.goRun_2, Hm.goRun_3, Hm.goRun_4, Hm.goRun_5, Hm.x_runB, Hm.goCh3_0, Hm.goCh3_1, Hm.goCh2_0, Hm.goCh2_1, Hm.goCh2_2, Hm.goCh_0, Hm.goCh_1, Hm.goCh_2, Hm.x_mCh, Hm.goIx_0, Hm.goIx_1, Hm.x_ixl, Hm.x_ixt, Hm.goFor_0, Hm.goFor_1,
    Hm.goFor_2, Hm.goL2_0, Hm.goL2_1, Hm.goL2_2, Hm.goL2_3, Hm.goL2_4, Hm.goL2_5, Hm.goL_0, Hm.goL_1, Hm.x_loopN, Hm.x_loopC, Hm.goR1_0, Hm.goR1_1, Hm.goR1_2, Hm.x_mR1, Hm.goTy_0, Hm.goTy_1, Hm.goTy_2, Hm.goTy_3, Hm.goTy_4, Hm.goTy_5,
    Hm.x_tryS, Hm.goFl_0, Hm.goFl_1, Hm.x_fldH, Hm.x_wipenx, Hm.x_wipert, Hm.x_wipebk, Hm.x_wipect, Hm.x_fzv, Hm.x_fzl, Hm.x_fzd, Hm.x_fine, Hm.x_isNn, Hm.x_isNi, Hm.x_isNs, Hm.x_isNb, Hm.x_isNt, Hm.x_isNl, Hm.x_isNd, Hm.x_swD,
    Hm.x_ewD, slots0, List.map_cons, List.map_nil, List.length_cons, List.length_nil, Nat.reduceSub, Nat.reduceAdd, List.replicate_succ, List.replicate_zero, List.cons_append, List.nil_append, List.append_nil, List.getElem?_cons_zero,
    List.getElem?_cons_succ, List.set_cons_zero, List.set_cons_succ, Bool.false_eq_true, if_true, if_false, ite_true, ite_false, reduceIte, Bool.not_true, Bool.not_false, decide_true, decide_false, Hm.vw_int, Hm.vw_str, Hm.vw_bl,
    Hm.vw_non, Hm.vw_lst, Hm.vw_tup, Hm.vw_dct, Hm.eq_ii, Hm.ne_ii, Hm.eq_bb, Hm.ne_bb, Hm.ln_lst, Hm.ln_tup, Hm.sl_lst, Hm.sl_tup, Hm.ad_ii, Hm.sb_ii, Hm.le_ii, Hm.lt_ii, Hm.gt_ii, Hm.ge_ii, Hm.ng_i, Hm.is_n, Hm.nis_n, Hm.tr_bl,
    Hm.tr_non, Hm.tr_int, Hm.tr_lst, Hm.tr_tup, Hm.tr_dct, Hm.tp_lst, Hm.tp_tup, Hm.in_bl, Hm.at_0, Hm.at_1, Hm.at_2, Hm.at_3, Hm.at_4, Hm.gst_lst, Hm.gst_tup, Hm.sm_0, Hm.sm_1, Hm.sm_2, Hm.sm_3, Hm.sm_4, Hm.sm_5, Hm.sm_6, Hm.sm_7,
    Hm.sm_8, Hm.sm_9, Hm.sm_10, Hm.sm_11, Hm.sm_12, Hm.sm_13, Hm.sm_14, Hm.sm_15, Hm.sm_16, true_and, and_true, Nat.zero_le, Nat.reduceLeDiff, Nat.reduceEqDiff, Nat.reduceLT, List.length_map,
    F__law_spoilt, m__law_spoilt, N__law_spoilt, l, p1, p2, ix, p3, d0, d1, q1, q3, e1]
  have d1 : decide (v3 = 1) = false := decide_eq_false z1
  by_cases z2 : v3 = 2
  · have d2 : decide (v3 = 2) = true := decide_eq_true z2
    have e1 := Hm.ad_ss (S := S3) (a := cutS x none (some v1)) (b := ⟨#[c]⟩) (by omega)
    have e2 := Hm.ad_ss (S := S3) (a := cutS x none (some v1) ++ ⟨#[c]⟩) (b := cutS x (some (v1 + 1)) none) (by rw [Str.length_append]; omega)
    have s9 := (sh_app (sh_app s1 sc) s3).ok
    have s8 : (cutS x none (some v1) ++ ⟨#[c]⟩ ++ cutS x (some (v1 + 1)) none).length ≤ n + 10 := by rw [Str.length_append, Str.length_append, c1]; omega
    refine ⟨_, S3, ?_, h3, ⟨s8, s9⟩⟩
    simp only [Hm.goS_0, Hm.goS_1, Hm.goS_2, Hm.goS_3, Hm.goS_4, Hm.goS_5, Hm.x_seqS, Hm.goSet_0, Hm.goSet_1, Hm.goSet_2, Hm.x_setS, Hm.goRet_0, Hm.goRet_1, Hm.goRet_2, Hm.x_retS, Hm.goEx_0, Hm.goEx_1, Hm.goEx_2, Hm.x_exprS, Hm.goIf_0, Hm.goIf_1,
    Hm.goIf_2, Hm.goIf_3, Hm.x_ifS, Hm.x_nextS, Hm.x_neverS, Hm.x_retNS, Hm.x_contS, Hm.x_breakS, Hm.goRv_0, Hm.x_retVarS, Hm.goFr_0, Hm.goFr_1, Hm.goFr_2, Hm.x_frzS, Hm.goCel_0, Hm.goCel_1, Hm.goCel_2, Hm.goCel_3, Hm.goCel_4,
    Hm.x_celS, Hm.goV_0, Hm.x_mVar, Hm.x_mK, Hm.goU_0, Hm.goU_1, Hm.goU_2, Hm.x_mUn, Hm.goB2_0, Hm.goB2_1, Hm.goB2_2, Hm.goB_0, Hm.goB_1, Hm.goB_2, Hm.x_mBin, Hm.goT_0, Hm.goT_1, Hm.goT_2, Hm.x_mTst, Hm.goTr2_0, Hm.goTr2_1, Hm.goTr_0,
    Hm.goTr_1, Hm.goTr_2, Hm.x_mTru, Hm.goN_0, Hm.goN_1, Hm.goN_2, Hm.x_mNot, Hm.goAn_0, Hm.goAn_1, Hm.goAn_2, Hm.goAn_3, Hm.goOr_0, Hm.goOr_1, Hm.goOr_2, Hm.goOr_3, Hm.goIe_0, Hm.goIe_1, Hm.goIe_2, Hm.goIe_3, Hm.x_mAnd, Hm.x_mOr,
    Hm.x_mIf, Hm.goNv2_0, Hm.goNv2_1, Hm.goNv_0, Hm.goNv_1, Hm.goNv_2, Hm.x_mNotV, Hm.goOv2_0, Hm.goOv2_1, Hm.goOv2_2, Hm.goOv_0, Hm.goOv_1, Hm.goOv_2, Hm.x_mOrV, Hm.goAv2_0, Hm.goAv2_1, Hm.goAv2_2, Hm.goAv_0, Hm.goAv_1, Hm.goAv_2,
    Hm.x_mAndV, Hm.x_mNil, Hm.goC2_0, Hm.goC2_1, Hm.goC2_2, Hm.goC_0, Hm.goC_1, Hm.goC_2, Hm.x_mCons, Hm.goTp_0, Hm.goTp_1, Hm.goTp_2, Hm.x_mTup, Hm.goLs_0, Hm.goLs_1, Hm.goLs_2, Hm.x_mLst, Hm.x_mNo, Hm.goPt_0, Hm.goPt_1, Hm.goPt_2,
    Hm.x_mPart, Hm.goSl3_0, Hm.goSl3_1, Hm.goSl3_2, Hm.goSl2_0, Hm.goSl2_1, Hm.goSl2_2, Hm.goSl_0, Hm.goSl_1, Hm.goSl_2, Hm.x_mSl, Hm.goCall_0, Hm.goCall_1, Hm.goCall_2, Hm.x_mCall, Hm.goFn_0, Hm.goFn_1, Hm.goFn_2, Hm.x_mF, Hm.goM3_0,
    Hm.goM3_1, Hm.goM3_2, Hm.goM2_0, Hm.goM_0, Hm.goM_1, Hm.goM_2, Hm.x_mM1, Hm.goG2_0, Hm.goG2_1, Hm.goG_0, Hm.goG_1, Hm.goG_2, Hm.x_setG, Hm.x_gN, Hm.x_gNil, Hm.goGs_0, Hm.goGs_1, Hm.x_gCons, Hm.x_gT_tup, Hm.x_gT_lst, Hm.goRs_0,
    Hm.goRs_1, Hm.goRs_2, Hm.x_raiseS, Hm.goW2_0, Hm.goW2_1, Hm.goW_0, Hm.goW_1, Hm.goW_2, Hm.x_mWk, Hm.x_itL, Hm.x_itT, Hm.x_itS, Hm.x_itD, Hm.goMk2_0, Hm.goMk2_1, Hm.goMk_0, Hm.goMk_1, Hm.goMk_2, Hm.x_mMkF, Hm.goRun_0, Hm.goRun_1,
    Hm.goRun_2, Hm.goRun_3, Hm.goRun_4, Hm.goRun_5, Hm.x_runB, Hm.goCh3_0, Hm.goCh3_1, Hm.goCh2_0, Hm.goCh2_1, Hm.goCh2_2, Hm.goCh_0, Hm.goCh_1, Hm.goCh_2, Hm.x_mCh, Hm.goIx_0, Hm.goIx_1, Hm.x_ixl, Hm.x_ixt, Hm.goFor_0, Hm.goFor_1,
    Hm.goFor_2, Hm.goL2_0, Hm.goL2_1, Hm.goL2_2, Hm.goL2_3, Hm.goL2_4, Hm.goL2_5, Hm.goL_0, Hm.goL_1, Hm.x_loopN, Hm.x_loopC, Hm.goR1_0, Hm.goR1_1, Hm.goR1_2, Hm.x_mR1, Hm.goTy_0, Hm.goTy_1, Hm.goTy_2, Hm.goTy_3, Hm.goTy_4, Hm.goTy_5,
    Hm.x_tryS, Hm.goFl_0, Hm.goFl_1, Hm.x_fldH, Hm.x_wipenx, Hm.x_wipert, Hm.x_wipebk, Hm.x_wipect, Hm.x_fzv, Hm.x_fzl, Hm.x_fzd, Hm.x_fine, Hm.x_isNn, Hm.x_isNi, Hm.x_isNs, Hm.x_isNb, Hm.x_isNt, Hm.x_isNl, Hm.x_isNd, Hm.x_swD,
    Hm.x_ewD, slots0, List.map_cons, List.map_nil, List.length_cons, List.length_nil, Nat.reduceSub, Nat.reduceAdd, List.replicate_succ, List.replicate_zero, List.cons_append, List.nil_append, List.append_nil, List.getElem?_cons_zero,
    List.getElem?_cons_succ, List.set_cons_zero, List.set_cons_succ, Bool.false_eq_true, if_true, if_false, ite_true, ite_false, reduceIte, Bool.not_true, Bool.not_false, decide_true, decide_false, Hm.vw_int, Hm.vw_str, Hm.vw_bl,
    Hm.vw_non, Hm.vw_lst, Hm.vw_tup, Hm.vw_dct, Hm.eq_ii, Hm.ne_ii, Hm.eq_bb, Hm.ne_bb, Hm.ln_lst, Hm.ln_tup, Hm.sl_lst, Hm.sl_tup, Hm.ad_ii, Hm.sb_ii, Hm.le_ii, Hm.lt_ii, Hm.gt_ii, Hm.ge_ii, Hm.ng_i, Hm.is_n, Hm.nis_n, Hm.tr_bl,
    Hm.tr_non, Hm.tr_int, Hm.tr_lst, Hm.tr_tup, Hm.tr_dct, Hm.tp_lst, Hm.tp_tup, Hm.in_bl, Hm.at_0, Hm.at_1, Hm.at_2, Hm.at_3, Hm.at_4, Hm.gst_lst, Hm.gst_tup, Hm.sm_0, Hm.sm_1, Hm.sm_2, Hm.sm_3, Hm.sm_4, Hm.sm_5, Hm.sm_6, Hm.sm_7,
    Hm.sm_8, Hm.sm_9, Hm.sm_10, Hm.sm_11, Hm.sm_12, Hm.sm_13, Hm.sm_14, Hm.sm_15, Hm.sm_16, true_and, and_true, Nat.zero_le, Nat.reduceLeDiff, Nat.reduceEqDiff, Nat.reduceLT, List.length_map,
    F__law_spoilt, m__law_spoilt, N__law_spoilt, l, p1, p2, ix, p3, d0, d1, d2, q1, q3, e1, e2]
  have d2 : decide (v3 = 2) = false := decide_eq_false z2
  have sp : splitD x (.str " ") S3 = .ok (.ol ((Sp x 32).map .str)) S3 := spl_ev (hs) (by omega)
  have shs := sp_sh (c := 32) hs
  have len := sp_len (c := 32) hs
  have wx := wt_sp (x := x) (c := 32)
  obtain ⟨w, r, e⟩ := sp_ne x 32
  have hp : 1 ≤ (Sp x 32).length := by rw [e, List.length_cons]; omega
  generalize Sp x 32 = ws at *
  obtain ⟨v4, S4, p4, a4, b4, h4⟩ := pull_ok (n := ((ws.length : Nat) : Int)) h3 (by omega) (by omega)
  obtain ⟨v5, S5, p5, a5, b5, h5⟩ := pull_ok (n := 22) h4 (by omega) (by omega)
  obtain ⟨v6, S6, p6, a6, b6, h6⟩ := pull_ok (n := 2) h5 (by omega) (by omega)
  obtain ⟨o, oe, os⟩ := odd_at a5 b5
  rw [odd_map] at oe
  have hw := wt_cut (ws := ws) a4 (show v4 ≤ v4 + v6 by omega)
  have wo : wt [o] = o.length + 1 := by unfold wt; simp
  have w3 : wt (cutT ws none (some v4) ++ [o] ++ cutT ws (some (v4 + v6)) none) ≤ n + 10 + 1 := by
    rw [wt_app, wt_app, wo]
    have := os.le
    omega
  have lA := wt_len (cutT ws none (some v4))
  have lB := wt_len (cutT ws (some (v4 + v6)) none)
  have t1 := cutT_map ws none (some v4)
  have t2 := cutT_map ws (some (v4 + v6)) none
  have g1 := Hm.ad_ll (S := S5) (a := (cutT ws none (some v4)).map D.str) (b := [.str o]) (by rw [List.length_map, List.length_singleton]; omega)
  have g2 := Hm.ad_ll (S := S6) (a := (cutT ws none (some v4)).map D.str ++ [.str o]) (b := (cutT ws (some (v4 + v6)) none).map D.str) (by rw [List.length_append, List.length_map, List.length_singleton, List.length_map]; omega)
  have jn := join_ev (c := 32) (S := S6) (xs := cutT ws none (some v4) ++ [o] ++ cutT ws (some (v4 + v6)) none) (by omega)
  rw [List.map_append, List.map_append, List.map_cons, List.map_nil] at jn
  refine ⟨Txt.join ⟨#[32]⟩ (cutT ws none (some v4) ++ [o] ++ cutT ws (some (v4 + v6)) none), S6, ?_, h6, join_sh (by omega) (by simp) w3 fun y hy => ?_⟩
  · have a11 := @Hm.ad_ll
    have jn' : joinD " " (.lst ((cutT ws none (some v4)).map D.str ++ [.str o] ++ (cutT ws (some (v4 + v6)) none).map D.str)) S6 = .ok (.val (.str (Txt.join ⟨#[32]⟩ (cutT ws none (some v4) ++ [o] ++ cutT ws (some (v4 + v6)) none)))) S6 := jn
    have sm : ∀ S, addD (.lst [D.str "", D.str "0", D.str "00", D.str "07", D.str "1000", D.str "-1", D.str "-0", D.str "999", D.str "1r", D.str "r", D.str "2+ox*1"]) (.lst [D.str "2+ox*01", D.str "1/1r", D.str "1/", D.str "+ox*1", D.str "2ox*1"]) S = .ok (.ol [D.str "", D.str "0", D.str "00", D.str "07", D.str "1000", D.str "-1", D.str "-0", D.str "999", D.str "1r", D.str "r", D.str "2+ox*1", D.str "2+ox*01", D.str "1/1r", D.str "1/", D.str "+ox*1", D.str "2ox*1"]) S := fun S => Hm.ad_ll (by decide)
    have sn : ∀ S, addD (.lst [D.str "", D.str "0", D.str "00", D.str "07", D.str "1000", D.str "-1", D.str "-0", D.str "999", D.str "1r", D.str "r", D.str "2+ox*1", D.str "2+ox*01", D.str "1/1r", D.str "1/", D.str "+ox*1", D.str "2ox*1"]) (.lst [D.str "3r+a*0", D.str "1+a*-1", D.str "keep", D.str "oxoxoxoxo", D.str "A", D.str "2+a*1*1"]) S = .ok (.ol [D.str "", D.str "0", D.str "00", D.str "07", D.str "1000", D.str "-1", D.str "-0", D.str "999", D.str "1r", D.str "r", D.str "2+ox*1", D.str "2+ox*01", D.str "1/1r", D.str "1/", D.str "+ox*1", D.str "2ox*1", D.str "3r+a*0", D.str "1+a*-1", D.str "keep", D.str "oxoxoxoxo", D.str "A", D.str "2+a*1*1"]) S := fun S => Hm.ad_ll (by decide)
    simp only [Hm.goS_0, Hm.goS_1, Hm.goS_2, Hm.goS_3, Hm.goS_4, Hm.goS_5, Hm.x_seqS, Hm.goSet_0, Hm.goSet_1, Hm.goSet_2, Hm.x_setS, Hm.goRet_0, Hm.goRet_1, Hm.goRet_2, Hm.x_retS, Hm.goEx_0, Hm.goEx_1, Hm.goEx_2, Hm.x_exprS, Hm.goIf_0, Hm.goIf_1,
    Hm.goIf_2, Hm.goIf_3, Hm.x_ifS, Hm.x_nextS, Hm.x_neverS, Hm.x_retNS, Hm.x_contS, Hm.x_breakS, Hm.goRv_0, Hm.x_retVarS, Hm.goFr_0, Hm.goFr_1, Hm.goFr_2, Hm.x_frzS, Hm.goCel_0, Hm.goCel_1, Hm.goCel_2, Hm.goCel_3, Hm.goCel_4,
    Hm.x_celS, Hm.goV_0, Hm.x_mVar, Hm.x_mK, Hm.goU_0, Hm.goU_1, Hm.goU_2, Hm.x_mUn, Hm.goB2_0, Hm.goB2_1, Hm.goB2_2, Hm.goB_0, Hm.goB_1, Hm.goB_2, Hm.x_mBin, Hm.goT_0, Hm.goT_1, Hm.goT_2, Hm.x_mTst, Hm.goTr2_0, Hm.goTr2_1, Hm.goTr_0,
    Hm.goTr_1, Hm.goTr_2, Hm.x_mTru, Hm.goN_0, Hm.goN_1, Hm.goN_2, Hm.x_mNot, Hm.goAn_0, Hm.goAn_1, Hm.goAn_2, Hm.goAn_3, Hm.goOr_0, Hm.goOr_1, Hm.goOr_2, Hm.goOr_3, Hm.goIe_0, Hm.goIe_1, Hm.goIe_2, Hm.goIe_3, Hm.x_mAnd, Hm.x_mOr,
    Hm.x_mIf, Hm.goNv2_0, Hm.goNv2_1, Hm.goNv_0, Hm.goNv_1, Hm.goNv_2, Hm.x_mNotV, Hm.goOv2_0, Hm.goOv2_1, Hm.goOv2_2, Hm.goOv_0, Hm.goOv_1, Hm.goOv_2, Hm.x_mOrV, Hm.goAv2_0, Hm.goAv2_1, Hm.goAv2_2, Hm.goAv_0, Hm.goAv_1, Hm.goAv_2,
    Hm.x_mAndV, Hm.x_mNil, Hm.goC2_0, Hm.goC2_1, Hm.goC2_2, Hm.goC_0, Hm.goC_1, Hm.goC_2, Hm.x_mCons, Hm.goTp_0, Hm.goTp_1, Hm.goTp_2, Hm.x_mTup, Hm.goLs_0, Hm.goLs_1, Hm.goLs_2, Hm.x_mLst, Hm.x_mNo, Hm.goPt_0, Hm.goPt_1, Hm.goPt_2,
    Hm.x_mPart, Hm.goSl3_0, Hm.goSl3_1, Hm.goSl3_2, Hm.goSl2_0, Hm.goSl2_1, Hm.goSl2_2, Hm.goSl_0, Hm.goSl_1, Hm.goSl_2, Hm.x_mSl, Hm.goCall_0, Hm.goCall_1, Hm.goCall_2, Hm.x_mCall, Hm.goFn_0, Hm.goFn_1, Hm.goFn_2, Hm.x_mF, Hm.goM3_0,
    Hm.goM3_1, Hm.goM3_2, Hm.goM2_0, Hm.goM_0, Hm.goM_1, Hm.goM_2, Hm.x_mM1, Hm.goG2_0, Hm.goG2_1, Hm.goG_0, Hm.goG_1, Hm.goG_2, Hm.x_setG, Hm.x_gN, Hm.x_gNil, Hm.goGs_0, Hm.goGs_1, Hm.x_gCons, Hm.x_gT_tup, Hm.x_gT_lst, Hm.goRs_0,
    Hm.goRs_1, Hm.goRs_2, Hm.x_raiseS, Hm.goW2_0, Hm.goW2_1, Hm.goW_0, Hm.goW_1, Hm.goW_2, Hm.x_mWk, Hm.x_itL, Hm.x_itT, Hm.x_itS, Hm.x_itD, Hm.goMk2_0, Hm.goMk2_1, Hm.goMk_0, Hm.goMk_1, Hm.goMk_2, Hm.x_mMkF, Hm.goRun_0, Hm.goRun_1,
    Hm.goRun_2, Hm.goRun_3, Hm.goRun_4, Hm.goRun_5, Hm.x_runB, Hm.goCh3_0, Hm.goCh3_1, Hm.goCh2_0, Hm.goCh2_1, Hm.goCh2_2, Hm.goCh_0, Hm.goCh_1, Hm.goCh_2, Hm.x_mCh, Hm.goIx_0, Hm.goIx_1, Hm.x_ixl, Hm.x_ixt, Hm.goFor_0, Hm.goFor_1,
    Hm.goFor_2, Hm.goL2_0, Hm.goL2_1, Hm.goL2_2, Hm.goL2_3, Hm.goL2_4, Hm.goL2_5, Hm.goL_0, Hm.goL_1, Hm.x_loopN, Hm.x_loopC, Hm.goR1_0, Hm.goR1_1, Hm.goR1_2, Hm.x_mR1, Hm.goTy_0, Hm.goTy_1, Hm.goTy_2, Hm.goTy_3, Hm.goTy_4, Hm.goTy_5,
    Hm.x_tryS, Hm.goFl_0, Hm.goFl_1, Hm.x_fldH, Hm.x_wipenx, Hm.x_wipert, Hm.x_wipebk, Hm.x_wipect, Hm.x_fzv, Hm.x_fzl, Hm.x_fzd, Hm.x_fine, Hm.x_isNn, Hm.x_isNi, Hm.x_isNs, Hm.x_isNb, Hm.x_isNt, Hm.x_isNl, Hm.x_isNd, Hm.x_swD,
    Hm.x_ewD, slots0, List.map_cons, List.map_nil, List.length_cons, List.length_nil, Nat.reduceSub, Nat.reduceAdd, List.replicate_succ, List.replicate_zero, List.cons_append, List.nil_append, List.append_nil, List.getElem?_cons_zero,
    List.getElem?_cons_succ, List.set_cons_zero, List.set_cons_succ, Bool.false_eq_true, if_true, if_false, ite_true, ite_false, reduceIte, Bool.not_true, Bool.not_false, decide_true, decide_false, Hm.vw_int, Hm.vw_str, Hm.vw_bl,
    Hm.vw_non, Hm.vw_lst, Hm.vw_tup, Hm.vw_dct, Hm.eq_ii, Hm.ne_ii, Hm.eq_bb, Hm.ne_bb, Hm.ln_lst, Hm.ln_tup, Hm.sl_lst, Hm.sl_tup, Hm.ad_ii, Hm.sb_ii, Hm.le_ii, Hm.lt_ii, Hm.gt_ii, Hm.ge_ii, Hm.ng_i, Hm.is_n, Hm.nis_n, Hm.tr_bl,
    Hm.tr_non, Hm.tr_int, Hm.tr_lst, Hm.tr_tup, Hm.tr_dct, Hm.tp_lst, Hm.tp_tup, Hm.in_bl, Hm.at_0, Hm.at_1, Hm.at_2, Hm.at_3, Hm.at_4, Hm.gst_lst, Hm.gst_tup, Hm.sm_0, Hm.sm_1, Hm.sm_2, Hm.sm_3, Hm.sm_4, Hm.sm_5, Hm.sm_6, Hm.sm_7,
    Hm.sm_8, Hm.sm_9, Hm.sm_10, Hm.sm_11, Hm.sm_12, Hm.sm_13, Hm.sm_14, Hm.sm_15, Hm.sm_16, true_and, and_true, Nat.zero_le, Nat.reduceLeDiff, Nat.reduceEqDiff, Nat.reduceLT, List.length_map,
    F__law_spoilt, m__law_spoilt, N__law_spoilt, l, p1, p2, ix, p3, d0, d1, d2, sp, p4, sm, sn, p5, oe, p6, t1, t2, g1, g2, jn']
  · rcases List.mem_append.mp hy with q | q
    · rcases List.mem_append.mp q with q | q
      · exact (shs y (cutT_mem q)).ok
      · rw [List.mem_singleton.mp q]; exact os.ok
    · exact (shs y (cutT_mem q)).ok
end Wk57
set_option Elab.async false
set_option linter.all false
set_option maxRecDepth 100000
set_option maxHeartbeats 4000000
namespace Wk57
open PySem PySem.Spec L2 Hm
open Builtin Builtin.Str

/-! ### the law -/
def rdD : D → D
  | .non => .int 0
  | d => d
theorem deed_nn {x : Str} (hs : Sh 900 x) : Nn 8 (deedD x) := by
  have shs := sp_sh (c := 32) hs
  have key : ∀ {d : D} {n : Nat}, Pl d n → Pl d (n + 1) := fun {d n} h => by
    induction h with
    | int => exact .int
    | str h => exact .str h
    | tup _ h2 ih => exact .tup ih h2
    | lst _ h2 ih => exact .lst ih h2
  unfold deedD
  split
  · rename_i w rest e
    rw [e] at shs
    unfold deedF
    split
    · rename_i f ho
      split
      · split
        · exact .inl rfl
        · rename_i hl hn
          obtain ⟨f2, e2, _, hfl⟩ := form_ok ho
          cases e2
          refine .inr (.tup (fun d hd => ?_) ?_)
          · rcases List.mem_cons.mp hd with q | q
            · rw [q]; exact .str (shs w List.mem_cons_self).ok
            · have nz : isN d = false := by
                cases hh : isN d with
                | false => rfl
                | true => exact absurd (List.any_eq_true.mpr ⟨d, q, hh⟩) hn
              rcases ths_nn (fun y hy => shs y (List.mem_cons_of_mem _ hy)) d q with k | k
              · rw [k] at nz; cases nz
              · exact key k
          · rw [List.length_cons]
            unfold ths
            rw [List.length_map]
            have := prs_len (rest := rest) hfl
            omega
      · exact .inl rfl
    · exact .inl rfl
  · exact .inl rfl
theorem rd_pl {x : Str} (hs : Sh 900 x) : Pl (rdD (deedD x)) 8 := by
  rcases deed_nn hs with h | h
  · rw [h]; exact .int
  · generalize deedD x = d at h
    cases h with
    | int => exact .int
    | str h => exact .str h
    | tup h1 h2 => exact .tup h1 h2
    | lst h1 h2 => exact .lst h1 h2
theorem lread_ev {x : Str} {S : Store} (hs : Sh 900 x) : F__law_read [.str x] S = .ok (.val (rdD (deedD x))) S := by
  have r := read_ev (S := S) hs
  have e1 : List.lookup ("row" : Str) exBT = some (D.int 0) := by kernel_rfl
  have e2 : (("BadText" : Str) ∈ xcs) = True := eq_true (by decide)
  have e3 : xsub "BadText" "BadText" = true := by decide +kernel
  cases h : deedD x <;> (rw [h] at r; simp only [Hm.goS_0, Hm.goS_1, Hm.goS_2, Hm.goS_3, Hm.goS_4, Hm.goS_5, Hm.x_seqS, Hm.goSet_0, Hm.goSet_1, Hm.goSet_2, Hm.x_setS, Hm.goRet_0, Hm.goRet_1, Hm.goRet_2, Hm.x_retS, Hm.goEx_0, Hm.goEx_1, Hm.goEx_2, Hm.x_exprS, Hm.goIf_0, Hm.goIf_1,
    Hm.goIf_2, Hm.goIf_3, Hm.x_ifS, Hm.x_nextS, Hm.x_neverS, Hm.x_retNS, Hm.x_contS, Hm.x_breakS, Hm.goRv_0, Hm.x_retVarS, Hm.goFr_0, Hm.goFr_1, Hm.goFr_2, Hm.x_frzS, Hm.goCel_0, Hm.goCel_1, Hm.goCel_2, Hm.goCel_3, Hm.goCel_4,
    Hm.x_celS, Hm.goV_0, Hm.x_mVar, Hm.x_mK, Hm.goU_0, Hm.goU_1, Hm.goU_2, Hm.x_mUn, Hm.goB2_0, Hm.goB2_1, Hm.goB2_2, Hm.goB_0, Hm.goB_1, Hm.goB_2, Hm.x_mBin, Hm.goT_0, Hm.goT_1, Hm.goT_2, Hm.x_mTst, Hm.goTr2_0, Hm.goTr2_1, Hm.goTr_0,
    Hm.goTr_1, Hm.goTr_2, Hm.x_mTru, Hm.goN_0, Hm.goN_1, Hm.goN_2, Hm.x_mNot, Hm.goAn_0, Hm.goAn_1, Hm.goAn_2, Hm.goAn_3, Hm.goOr_0, Hm.goOr_1, Hm.goOr_2, Hm.goOr_3, Hm.goIe_0, Hm.goIe_1, Hm.goIe_2, Hm.goIe_3, Hm.x_mAnd, Hm.x_mOr,
    Hm.x_mIf, Hm.goNv2_0, Hm.goNv2_1, Hm.goNv_0, Hm.goNv_1, Hm.goNv_2, Hm.x_mNotV, Hm.goOv2_0, Hm.goOv2_1, Hm.goOv2_2, Hm.goOv_0, Hm.goOv_1, Hm.goOv_2, Hm.x_mOrV, Hm.goAv2_0, Hm.goAv2_1, Hm.goAv2_2, Hm.goAv_0, Hm.goAv_1, Hm.goAv_2,
    Hm.x_mAndV, Hm.x_mNil, Hm.goC2_0, Hm.goC2_1, Hm.goC2_2, Hm.goC_0, Hm.goC_1, Hm.goC_2, Hm.x_mCons, Hm.goTp_0, Hm.goTp_1, Hm.goTp_2, Hm.x_mTup, Hm.goLs_0, Hm.goLs_1, Hm.goLs_2, Hm.x_mLst, Hm.x_mNo, Hm.goPt_0, Hm.goPt_1, Hm.goPt_2,
    Hm.x_mPart, Hm.goSl3_0, Hm.goSl3_1, Hm.goSl3_2, Hm.goSl2_0, Hm.goSl2_1, Hm.goSl2_2, Hm.goSl_0, Hm.goSl_1, Hm.goSl_2, Hm.x_mSl, Hm.goCall_0, Hm.goCall_1, Hm.goCall_2, Hm.x_mCall, Hm.goFn_0, Hm.goFn_1, Hm.goFn_2, Hm.x_mF, Hm.goM3_0,
    Hm.goM3_1, Hm.goM3_2, Hm.goM2_0, Hm.goM_0, Hm.goM_1, Hm.goM_2, Hm.x_mM1, Hm.goG2_0, Hm.goG2_1, Hm.goG_0, Hm.goG_1, Hm.goG_2, Hm.x_setG, Hm.x_gN, Hm.x_gNil, Hm.goGs_0, Hm.goGs_1, Hm.x_gCons, Hm.x_gT_tup, Hm.x_gT_lst, Hm.goRs_0,
    Hm.goRs_1, Hm.goRs_2, Hm.x_raiseS, Hm.goW2_0, Hm.goW2_1, Hm.goW_0, Hm.goW_1, Hm.goW_2, Hm.x_mWk, Hm.x_itL, Hm.x_itT, Hm.x_itS, Hm.x_itD, Hm.goMk2_0, Hm.goMk2_1, Hm.goMk_0, Hm.goMk_1, Hm.goMk_2, Hm.x_mMkF, Hm.goRun_0, Hm.goRun_1,
    Hm.goRun_2, Hm.goRun_3, Hm.goRun_4, Hm.goRun_5, Hm.x_runB, Hm.goCh3_0, Hm.goCh3_1, Hm.goCh2_0, Hm.goCh2_1, Hm.goCh2_2, Hm.goCh_0, Hm.goCh_1, Hm.goCh_2, Hm.x_mCh, Hm.goIx_0, Hm.goIx_1, Hm.x_ixl, Hm.x_ixt, Hm.goFor_0, Hm.goFor_1,
    Hm.goFor_2, Hm.goL2_0, Hm.goL2_1, Hm.goL2_2, Hm.goL2_3, Hm.goL2_4, Hm.goL2_5, Hm.goL_0, Hm.goL_1, Hm.x_loopN, Hm.x_loopC, Hm.goR1_0, Hm.goR1_1, Hm.goR1_2, Hm.x_mR1, Hm.goTy_0, Hm.goTy_1, Hm.goTy_2, Hm.goTy_3, Hm.goTy_4, Hm.goTy_5,
    Hm.x_tryS, Hm.goFl_0, Hm.goFl_1, Hm.x_fldH, Hm.x_wipenx, Hm.x_wipert, Hm.x_wipebk, Hm.x_wipect, Hm.x_fzv, Hm.x_fzl, Hm.x_fzd, Hm.x_fine, Hm.x_isNn, Hm.x_isNi, Hm.x_isNs, Hm.x_isNb, Hm.x_isNt, Hm.x_isNl, Hm.x_isNd, Hm.x_swD,
    Hm.x_ewD, slots0, List.map_cons, List.map_nil, List.length_cons, List.length_nil, Nat.reduceSub, Nat.reduceAdd, List.replicate_succ, List.replicate_zero, List.cons_append, List.nil_append, List.append_nil, List.getElem?_cons_zero,
    List.getElem?_cons_succ, List.set_cons_zero, List.set_cons_succ, Bool.false_eq_true, if_true, if_false, ite_true, ite_false, reduceIte, Bool.not_true, Bool.not_false, decide_true, decide_false, Hm.vw_int, Hm.vw_str, Hm.vw_bl,
    Hm.vw_non, Hm.vw_lst, Hm.vw_tup, Hm.vw_dct, Hm.eq_ii, Hm.ne_ii, Hm.eq_bb, Hm.ne_bb, Hm.ln_lst, Hm.ln_tup, Hm.sl_lst, Hm.sl_tup, Hm.ad_ii, Hm.sb_ii, Hm.le_ii, Hm.lt_ii, Hm.gt_ii, Hm.ge_ii, Hm.ng_i, Hm.is_n, Hm.nis_n, Hm.tr_bl,
    Hm.tr_non, Hm.tr_int, Hm.tr_lst, Hm.tr_tup, Hm.tr_dct, Hm.tp_lst, Hm.tp_tup, Hm.in_bl, Hm.at_0, Hm.at_1, Hm.at_2, Hm.at_3, Hm.at_4, Hm.gst_lst, Hm.gst_tup, Hm.sm_0, Hm.sm_1, Hm.sm_2, Hm.sm_3, Hm.sm_4, Hm.sm_5, Hm.sm_6, Hm.sm_7,
    Hm.sm_8, Hm.sm_9, Hm.sm_10, Hm.sm_11, Hm.sm_12, Hm.sm_13, Hm.sm_14, Hm.sm_15, Hm.sm_16, true_and, and_true, Nat.zero_le, Nat.reduceLeDiff, Nat.reduceEqDiff, Nat.reduceLT, List.length_map,
    F__law_read, m__law_read, N__law_read, r, rdR, rdD, e2, e3, e1])
theorem pl_up {d : D} {n : Nat} (h : Pl d n) : Pl d (n + 1) := by
  induction h with
  | int => exact .int
  | str h => exact .str h
  | tup _ h2 ih => exact .tup ih h2
  | lst _ h2 ih => exact .lst ih h2
theorem like_ev {d : D} {n : Nat} {S : Store} (h : Pl d n) (hn : n ≤ 12) : F__law_like 12 [d, d] S = .ok (.val (.bl true)) S := by
  have key : ∀ k, Pl d (n + k) := fun k => by
    induction k with
    | zero => exact h
    | succ k ih => exact pl_up ih
  have := key (12 - n)
  rw [show n + (12 - n) = 12 by omega] at this
  exact like_ok 12 d this
theorem words_ok {d : D} (h : DeedOk d) : Sh 865 (wordsT d) := by
  obtain ⟨w, f, ths, rfl, hf, ht⟩ := h
  have hw := word_ok hf
  have hl := words_len hw ht
  refine sh_mono (sh_join (c := 32) (by omega) (words_sh hw ht)) ?_
  have := Nat.mul_le_mul_right (172 + 1) hl
  omega
theorem rng_1 : rngL 0 1 = ⟨[.int 0], none⟩ := rfl
theorem rng_2 : rngL 0 2 = ⟨[.int 0, .int 1], none⟩ := rfl
theorem cmp_due {E : Ev} {S : Store} {d : D} (h : E[6]? = some (some (.val d))) : mIf (mTst (mBin isND (mVar 6) (mK .non))) (mK (.int 0)) (mVar 6) E S = .ok (.val (rdD d)) S := by
  have v : mVar 6 E S = .ok (.val d) S := var_ok h
  cases d <;> simp only [Hm.goS_0, Hm.goS_1, Hm.goS_2, Hm.goS_3, Hm.goS_4, Hm.goS_5, Hm.x_seqS, Hm.goSet_0, Hm.goSet_1, Hm.goSet_2, Hm.x_setS, Hm.goRet_0, Hm.goRet_1, Hm.goRet_2, Hm.x_retS, Hm.goEx_0, Hm.goEx_1, Hm.goEx_2, Hm.x_exprS, Hm.goIf_0, Hm.goIf_1,
    Hm.goIf_2, Hm.goIf_3, Hm.x_ifS, Hm.x_nextS, Hm.x_neverS, Hm.x_retNS, Hm.x_contS, Hm.x_breakS, Hm.goRv_0, Hm.x_retVarS, Hm.goFr_0, Hm.goFr_1, Hm.goFr_2, Hm.x_frzS, Hm.goCel_0, Hm.goCel_1, Hm.goCel_2, Hm.goCel_3, Hm.goCel_4,
    Hm.x_celS, Hm.goV_0, Hm.x_mVar, Hm.x_mK, Hm.goU_0, Hm.goU_1, Hm.goU_2, Hm.x_mUn, Hm.goB2_0, Hm.goB2_1, Hm.goB2_2, Hm.goB_0, Hm.goB_1, Hm.goB_2, Hm.x_mBin, Hm.goT_0, Hm.goT_1, Hm.goT_2, Hm.x_mTst, Hm.goTr2_0, Hm.goTr2_1, Hm.goTr_0,
    Hm.goTr_1, Hm.goTr_2, Hm.x_mTru, Hm.goN_0, Hm.goN_1, Hm.goN_2, Hm.x_mNot, Hm.goAn_0, Hm.goAn_1, Hm.goAn_2, Hm.goAn_3, Hm.goOr_0, Hm.goOr_1, Hm.goOr_2, Hm.goOr_3, Hm.goIe_0, Hm.goIe_1, Hm.goIe_2, Hm.goIe_3, Hm.x_mAnd, Hm.x_mOr,
    Hm.x_mIf, Hm.goNv2_0, Hm.goNv2_1, Hm.goNv_0, Hm.goNv_1, Hm.goNv_2, Hm.x_mNotV, Hm.goOv2_0, Hm.goOv2_1, Hm.goOv2_2, Hm.goOv_0, Hm.goOv_1, Hm.goOv_2, Hm.x_mOrV, Hm.goAv2_0, Hm.goAv2_1, Hm.goAv2_2, Hm.goAv_0, Hm.goAv_1, Hm.goAv_2,
    Hm.x_mAndV, Hm.x_mNil, Hm.goC2_0, Hm.goC2_1, Hm.goC2_2, Hm.goC_0, Hm.goC_1, Hm.goC_2, Hm.x_mCons, Hm.goTp_0, Hm.goTp_1, Hm.goTp_2, Hm.x_mTup, Hm.goLs_0, Hm.goLs_1, Hm.goLs_2, Hm.x_mLst, Hm.x_mNo, Hm.goPt_0, Hm.goPt_1, Hm.goPt_2,
    Hm.x_mPart, Hm.goSl3_0, Hm.goSl3_1, Hm.goSl3_2, Hm.goSl2_0, Hm.goSl2_1, Hm.goSl2_2, Hm.goSl_0, Hm.goSl_1, Hm.goSl_2, Hm.x_mSl, Hm.goCall_0, Hm.goCall_1, Hm.goCall_2, Hm.x_mCall, Hm.goFn_0, Hm.goFn_1, Hm.goFn_2, Hm.x_mF, Hm.goM3_0,
    Hm.goM3_1, Hm.goM3_2, Hm.goM2_0, Hm.goM_0, Hm.goM_1, Hm.goM_2, Hm.x_mM1, Hm.goG2_0, Hm.goG2_1, Hm.goG_0, Hm.goG_1, Hm.goG_2, Hm.x_setG, Hm.x_gN, Hm.x_gNil, Hm.goGs_0, Hm.goGs_1, Hm.x_gCons, Hm.x_gT_tup, Hm.x_gT_lst, Hm.goRs_0,
    Hm.goRs_1, Hm.goRs_2, Hm.x_raiseS, Hm.goW2_0, Hm.goW2_1, Hm.goW_0, Hm.goW_1, Hm.goW_2, Hm.x_mWk, Hm.x_itL, Hm.x_itT, Hm.x_itS, Hm.x_itD, Hm.goMk2_0, Hm.goMk2_1, Hm.goMk_0, Hm.goMk_1, Hm.goMk_2, Hm.x_mMkF, Hm.goRun_0, Hm.goRun_1,
    Hm.goRun_2, Hm.goRun_3, Hm.goRun_4, Hm.goRun_5, Hm.x_runB, Hm.goCh3_0, Hm.goCh3_1, Hm.goCh2_0, Hm.goCh2_1, Hm.goCh2_2, Hm.goCh_0, Hm.goCh_1, Hm.goCh_2, Hm.x_mCh, Hm.goIx_0, Hm.goIx_1, Hm.x_ixl, Hm.x_ixt, Hm.goFor_0, Hm.goFor_1,
    Hm.goFor_2, Hm.goL2_0, Hm.goL2_1, Hm.goL2_2, Hm.goL2_3, Hm.goL2_4, Hm.goL2_5, Hm.goL_0, Hm.goL_1, Hm.x_loopN, Hm.x_loopC, Hm.goR1_0, Hm.goR1_1, Hm.goR1_2, Hm.x_mR1, Hm.goTy_0, Hm.goTy_1, Hm.goTy_2, Hm.goTy_3, Hm.goTy_4, Hm.goTy_5,
    Hm.x_tryS, Hm.goFl_0, Hm.goFl_1, Hm.x_fldH, Hm.x_wipenx, Hm.x_wipert, Hm.x_wipebk, Hm.x_wipect, Hm.x_fzv, Hm.x_fzl, Hm.x_fzd, Hm.x_fine, Hm.x_isNn, Hm.x_isNi, Hm.x_isNs, Hm.x_isNb, Hm.x_isNt, Hm.x_isNl, Hm.x_isNd, Hm.x_swD,
    Hm.x_ewD, slots0, List.map_cons, List.map_nil, List.length_cons, List.length_nil, Nat.reduceSub, Nat.reduceAdd, List.replicate_succ, List.replicate_zero, List.cons_append, List.nil_append, List.append_nil, List.getElem?_cons_zero,
    List.getElem?_cons_succ, List.set_cons_zero, List.set_cons_succ, Bool.false_eq_true, if_true, if_false, ite_true, ite_false, reduceIte, Bool.not_true, Bool.not_false, decide_true, decide_false, Hm.vw_int, Hm.vw_str, Hm.vw_bl,
    Hm.vw_non, Hm.vw_lst, Hm.vw_tup, Hm.vw_dct, Hm.eq_ii, Hm.ne_ii, Hm.eq_bb, Hm.ne_bb, Hm.ln_lst, Hm.ln_tup, Hm.sl_lst, Hm.sl_tup, Hm.ad_ii, Hm.sb_ii, Hm.le_ii, Hm.lt_ii, Hm.gt_ii, Hm.ge_ii, Hm.ng_i, Hm.is_n, Hm.nis_n, Hm.tr_bl,
    Hm.tr_non, Hm.tr_int, Hm.tr_lst, Hm.tr_tup, Hm.tr_dct, Hm.tp_lst, Hm.tp_tup, Hm.in_bl, Hm.at_0, Hm.at_1, Hm.at_2, Hm.at_3, Hm.at_4, Hm.gst_lst, Hm.gst_tup, Hm.sm_0, Hm.sm_1, Hm.sm_2, Hm.sm_3, Hm.sm_4, Hm.sm_5, Hm.sm_6, Hm.sm_7,
    Hm.sm_8, Hm.sm_9, Hm.sm_10, Hm.sm_11, Hm.sm_12, Hm.sm_13, Hm.sm_14, Hm.sm_15, Hm.sm_16, true_and, and_true, Nat.zero_le, Nat.reduceLeDiff, Nat.reduceEqDiff, Nat.reduceLT, List.length_map,
    h, rdD, isN]
/-- a turn of the law -/
theorem turn_ev {sc e2 : D} {e3 e4 e5 e6 : Option DV} {S : Store} (hS : DrOk S) :
    ∃ (e4' e5' e6' : Option DV) (S' : Store), DrOk S' ∧ (seqS (celS 1 (setS 4 (mCall F__law_text 1 (mCons (mCall F__law_any_deed 1 (mCons (mVar 1) mNil)) mNil)))) (seqS (celS 1 (forS (mR1 (mCons (mBin addD (mK (.int 1)) (mCall F__law_pull 2 (mCons (mVar 1) (mCons (mK (.int 2)) mNil)))) mNil)) (gN 5) (celS 1 (frzS 4 (setS 4 (mCall F__law_spoilt 2 (mCons (mVar 1) (mCons (mVar 4) mNil)))))))) (seqS (frzS 4 (setS 6 (mCall F__law_deed_in 1 (mCons (mVar 4) mNil)))) (frzS 4 (ifS (mNot (mTru (mCall (F__law_like 12) 2 (mCons (mCall F__law_read 1 (mCons (mVar 4) mNil)) (mCons (mIf (mTst (mBin isND (mVar 6) (mK .non))) (mK (.int 0)) (mVar 6)) mNil))))) (retS (mK (.bl false))) nextS)))))
      [some (.val sc), some (.val (.ref 0)), some (.val e2), e3, e4, e5, e6] S = .nx [some (.val sc), some (.val (.ref 0)), some (.val e2), e3, e4', e5', e6'] S' := by
  obtain ⟨d, S1, p1, hd, h1⟩ := any_ok hS
  have t1 := ltext_ok (S := S1) hd
  have w1 := words_ok hd
  obtain ⟨v, S2, p2, a2, b2, h2⟩ := pull_ok (n := 2) h1 (by omega) (by omega)
  obtain ⟨y1, S3, q1, h3, s1⟩ := spoil_ev h2 w1 (by omega)
  by_cases hv : v = 0
  · subst hv
    have sy : Sh 900 y1 := sh_mono s1 (by omega)
    have dd := ldeed_ev (S := S3) sy
    have rr := lread_ev (S := S3) sy
    have lk := like_ev (S := S3) (rd_pl sy) (by omega)
    have fx : fit62 (1 + 0) = true := rfl
    have cd := @cmp_due
    have tn : ((1 : Int) + 0).toNat = 1 := rfl
    refine ⟨some (.val (.str y1)), some (.val (.int 0)), some (.val (deedD y1)), S3, h3, ?_⟩
    have du : mIf (mTst (mBin isND (mVar 6) (mK .non))) (mK (.int 0)) (mVar 6) [some (.val sc), some (.val (.ref 0)), some (.val e2), e3, some (.val (.str y1)), some (.val (.int 0)), some (.val (deedD y1))] S3 = .ok (.val (rdD (deedD y1))) S3 := cmp_due rfl
    simp only [Hm.goS_0, Hm.goS_1, Hm.goS_2, Hm.goS_3, Hm.goS_4, Hm.goS_5, Hm.x_seqS, Hm.goSet_0, Hm.goSet_1, Hm.goSet_2, Hm.x_setS, Hm.goRet_0, Hm.goRet_1, Hm.goRet_2, Hm.x_retS, Hm.goEx_0, Hm.goEx_1, Hm.goEx_2, Hm.x_exprS, Hm.goIf_0, Hm.goIf_1,
    Hm.goIf_2, Hm.goIf_3, Hm.x_ifS, Hm.x_nextS, Hm.x_neverS, Hm.x_retNS, Hm.x_contS, Hm.x_breakS, Hm.goRv_0, Hm.x_retVarS, Hm.goFr_0, Hm.goFr_1, Hm.goFr_2, Hm.x_frzS, Hm.goCel_0, Hm.goCel_1, Hm.goCel_2, Hm.goCel_3, Hm.goCel_4,
    Hm.x_celS, Hm.goV_0, Hm.x_mVar, Hm.x_mK, Hm.goU_0, Hm.goU_1, Hm.goU_2, Hm.x_mUn, Hm.goB2_0, Hm.goB2_1, Hm.goB2_2, Hm.goB_0, Hm.goB_1, Hm.goB_2, Hm.x_mBin, Hm.goT_0, Hm.goT_1, Hm.goT_2, Hm.x_mTst, Hm.goTr2_0, Hm.goTr2_1, Hm.goTr_0,
    Hm.goTr_1, Hm.goTr_2, Hm.x_mTru, Hm.goN_0, Hm.goN_1, Hm.goN_2, Hm.x_mNot, Hm.goAn_0, Hm.goAn_1, Hm.goAn_2, Hm.goAn_3, Hm.goOr_0, Hm.goOr_1, Hm.goOr_2, Hm.goOr_3, Hm.goIe_0, Hm.goIe_1, Hm.goIe_2, Hm.goIe_3, Hm.x_mAnd, Hm.x_mOr,
    Hm.x_mIf, Hm.goNv2_0, Hm.goNv2_1, Hm.goNv_0, Hm.goNv_1, Hm.goNv_2, Hm.x_mNotV, Hm.goOv2_0, Hm.goOv2_1, Hm.goOv2_2, Hm.goOv_0, Hm.goOv_1, Hm.goOv_2, Hm.x_mOrV, Hm.goAv2_0, Hm.goAv2_1, Hm.goAv2_2, Hm.goAv_0, Hm.goAv_1, Hm.goAv_2,
    Hm.x_mAndV, Hm.x_mNil, Hm.goC2_0, Hm.goC2_1, Hm.goC2_2, Hm.goC_0, Hm.goC_1, Hm.goC_2, Hm.x_mCons, Hm.goTp_0, Hm.goTp_1, Hm.goTp_2, Hm.x_mTup, Hm.goLs_0, Hm.goLs_1, Hm.goLs_2, Hm.x_mLst, Hm.x_mNo, Hm.goPt_0, Hm.goPt_1, Hm.goPt_2,
    Hm.x_mPart, Hm.goSl3_0, Hm.goSl3_1, Hm.goSl3_2, Hm.goSl2_0, Hm.goSl2_1, Hm.goSl2_2, Hm.goSl_0, Hm.goSl_1, Hm.goSl_2, Hm.x_mSl, Hm.goCall_0, Hm.goCall_1, Hm.goCall_2, Hm.x_mCall, Hm.goFn_0, Hm.goFn_1, Hm.goFn_2, Hm.x_mF, Hm.goM3_0,
    Hm.goM3_1, Hm.goM3_2, Hm.goM2_0, Hm.goM_0, Hm.goM_1, Hm.goM_2, Hm.x_mM1, Hm.goG2_0, Hm.goG2_1, Hm.goG_0, Hm.goG_1, Hm.goG_2, Hm.x_setG, Hm.x_gN, Hm.x_gNil, Hm.goGs_0, Hm.goGs_1, Hm.x_gCons, Hm.x_gT_tup, Hm.x_gT_lst, Hm.goRs_0,
    Hm.goRs_1, Hm.goRs_2, Hm.x_raiseS, Hm.goW2_0, Hm.goW2_1, Hm.goW_0, Hm.goW_1, Hm.goW_2, Hm.x_mWk, Hm.x_itL, Hm.x_itT, Hm.x_itS, Hm.x_itD, Hm.goMk2_0, Hm.goMk2_1, Hm.goMk_0, Hm.goMk_1, Hm.goMk_2, Hm.x_mMkF, Hm.goRun_0, Hm.goRun_1,
    Hm.goRun_2, Hm.goRun_3, Hm.goRun_4, Hm.goRun_5, Hm.x_runB, Hm.goCh3_0, Hm.goCh3_1, Hm.goCh2_0, Hm.goCh2_1, Hm.goCh2_2, Hm.goCh_0, Hm.goCh_1, Hm.goCh_2, Hm.x_mCh, Hm.goIx_0, Hm.goIx_1, Hm.x_ixl, Hm.x_ixt, Hm.goFor_0, Hm.goFor_1,
    Hm.goFor_2, Hm.goL2_0, Hm.goL2_1, Hm.goL2_2, Hm.goL2_3, Hm.goL2_4, Hm.goL2_5, Hm.goL_0, Hm.goL_1, Hm.x_loopN, Hm.x_loopC, Hm.goR1_0, Hm.goR1_1, Hm.goR1_2, Hm.x_mR1, Hm.goTy_0, Hm.goTy_1, Hm.goTy_2, Hm.goTy_3, Hm.goTy_4, Hm.goTy_5,
    Hm.x_tryS, Hm.goFl_0, Hm.goFl_1, Hm.x_fldH, Hm.x_wipenx, Hm.x_wipert, Hm.x_wipebk, Hm.x_wipect, Hm.x_fzv, Hm.x_fzl, Hm.x_fzd, Hm.x_fine, Hm.x_isNn, Hm.x_isNi, Hm.x_isNs, Hm.x_isNb, Hm.x_isNt, Hm.x_isNl, Hm.x_isNd, Hm.x_swD,
    Hm.x_ewD, slots0, List.map_cons, List.map_nil, List.length_cons, List.length_nil, Nat.reduceSub, Nat.reduceAdd, List.replicate_succ, List.replicate_zero, List.cons_append, List.nil_append, List.append_nil, List.getElem?_cons_zero,
    List.getElem?_cons_succ, List.set_cons_zero, List.set_cons_succ, Bool.false_eq_true, if_true, if_false, ite_true, ite_false, reduceIte, Bool.not_true, Bool.not_false, decide_true, decide_false, Hm.vw_int, Hm.vw_str, Hm.vw_bl,
    Hm.vw_non, Hm.vw_lst, Hm.vw_tup, Hm.vw_dct, Hm.eq_ii, Hm.ne_ii, Hm.eq_bb, Hm.ne_bb, Hm.ln_lst, Hm.ln_tup, Hm.sl_lst, Hm.sl_tup, Hm.ad_ii, Hm.sb_ii, Hm.le_ii, Hm.lt_ii, Hm.gt_ii, Hm.ge_ii, Hm.ng_i, Hm.is_n, Hm.nis_n, Hm.tr_bl,
    Hm.tr_non, Hm.tr_int, Hm.tr_lst, Hm.tr_tup, Hm.tr_dct, Hm.tp_lst, Hm.tp_tup, Hm.in_bl, Hm.at_0, Hm.at_1, Hm.at_2, Hm.at_3, Hm.at_4, Hm.gst_lst, Hm.gst_tup, Hm.sm_0, Hm.sm_1, Hm.sm_2, Hm.sm_3, Hm.sm_4, Hm.sm_5, Hm.sm_6, Hm.sm_7,
    Hm.sm_8, Hm.sm_9, Hm.sm_10, Hm.sm_11, Hm.sm_12, Hm.sm_13, Hm.sm_14, Hm.sm_15, Hm.sm_16, true_and, and_true, Nat.zero_le, Nat.reduceLeDiff, Nat.reduceEqDiff, Nat.reduceLT, List.length_map,
    Hm.x_forS, p1, t1, p2, fx, tn, rng_1, q1, dd, rr, ↓du, lk]
  · have hv1 : v = 1 := by omega
    subst hv1
    obtain ⟨y2, S4, q2, h4, s2⟩ := spoil_ev h3 s1 (by omega)
    have sy : Sh 900 y2 := sh_mono s2 (by omega)
    have dd := ldeed_ev (S := S4) sy
    have rr := lread_ev (S := S4) sy
    have lk := like_ev (S := S4) (rd_pl sy) (by omega)
    have fx : fit62 (1 + 1) = true := rfl
    have tn : ((1 : Int) + 1).toNat = 2 := rfl
    refine ⟨some (.val (.str y2)), some (.val (.int 1)), some (.val (deedD y2)), S4, h4, ?_⟩
    have du : mIf (mTst (mBin isND (mVar 6) (mK .non))) (mK (.int 0)) (mVar 6) [some (.val sc), some (.val (.ref 0)), some (.val e2), e3, some (.val (.str y2)), some (.val (.int 1)), some (.val (deedD y2))] S4 = .ok (.val (rdD (deedD y2))) S4 := cmp_due rfl
    simp only [Hm.goS_0, Hm.goS_1, Hm.goS_2, Hm.goS_3, Hm.goS_4, Hm.goS_5, Hm.x_seqS, Hm.goSet_0, Hm.goSet_1, Hm.goSet_2, Hm.x_setS, Hm.goRet_0, Hm.goRet_1, Hm.goRet_2, Hm.x_retS, Hm.goEx_0, Hm.goEx_1, Hm.goEx_2, Hm.x_exprS, Hm.goIf_0, Hm.goIf_1,
    Hm.goIf_2, Hm.goIf_3, Hm.x_ifS, Hm.x_nextS, Hm.x_neverS, Hm.x_retNS, Hm.x_contS, Hm.x_breakS, Hm.goRv_0, Hm.x_retVarS, Hm.goFr_0, Hm.goFr_1, Hm.goFr_2, Hm.x_frzS, Hm.goCel_0, Hm.goCel_1, Hm.goCel_2, Hm.goCel_3, Hm.goCel_4,
    Hm.x_celS, Hm.goV_0, Hm.x_mVar, Hm.x_mK, Hm.goU_0, Hm.goU_1, Hm.goU_2, Hm.x_mUn, Hm.goB2_0, Hm.goB2_1, Hm.goB2_2, Hm.goB_0, Hm.goB_1, Hm.goB_2, Hm.x_mBin, Hm.goT_0, Hm.goT_1, Hm.goT_2, Hm.x_mTst, Hm.goTr2_0, Hm.goTr2_1, Hm.goTr_0,
    Hm.goTr_1, Hm.goTr_2, Hm.x_mTru, Hm.goN_0, Hm.goN_1, Hm.goN_2, Hm.x_mNot, Hm.goAn_0, Hm.goAn_1, Hm.goAn_2, Hm.goAn_3, Hm.goOr_0, Hm.goOr_1, Hm.goOr_2, Hm.goOr_3, Hm.goIe_0, Hm.goIe_1, Hm.goIe_2, Hm.goIe_3, Hm.x_mAnd, Hm.x_mOr,
    Hm.x_mIf, Hm.goNv2_0, Hm.goNv2_1, Hm.goNv_0, Hm.goNv_1, Hm.goNv_2, Hm.x_mNotV, Hm.goOv2_0, Hm.goOv2_1, Hm.goOv2_2, Hm.goOv_0, Hm.goOv_1, Hm.goOv_2, Hm.x_mOrV, Hm.goAv2_0, Hm.goAv2_1, Hm.goAv2_2, Hm.goAv_0, Hm.goAv_1, Hm.goAv_2,
    Hm.x_mAndV, Hm.x_mNil, Hm.goC2_0, Hm.goC2_1, Hm.goC2_2, Hm.goC_0, Hm.goC_1, Hm.goC_2, Hm.x_mCons, Hm.goTp_0, Hm.goTp_1, Hm.goTp_2, Hm.x_mTup, Hm.goLs_0, Hm.goLs_1, Hm.goLs_2, Hm.x_mLst, Hm.x_mNo, Hm.goPt_0, Hm.goPt_1, Hm.goPt_2,
    Hm.x_mPart, Hm.goSl3_0, Hm.goSl3_1, Hm.goSl3_2, Hm.goSl2_0, Hm.goSl2_1, Hm.goSl2_2, Hm.goSl_0, Hm.goSl_1, Hm.goSl_2, Hm.x_mSl, Hm.goCall_0, Hm.goCall_1, Hm.goCall_2, Hm.x_mCall, Hm.goFn_0, Hm.goFn_1, Hm.goFn_2, Hm.x_mF, Hm.goM3_0,
    Hm.goM3_1, Hm.goM3_2, Hm.goM2_0, Hm.goM_0, Hm.goM_1, Hm.goM_2, Hm.x_mM1, Hm.goG2_0, Hm.goG2_1, Hm.goG_0, Hm.goG_1, Hm.goG_2, Hm.x_setG, Hm.x_gN, Hm.x_gNil, Hm.goGs_0, Hm.goGs_1, Hm.x_gCons, Hm.x_gT_tup, Hm.x_gT_lst, Hm.goRs_0,
    Hm.goRs_1, Hm.goRs_2, Hm.x_raiseS, Hm.goW2_0, Hm.goW2_1, Hm.goW_0, Hm.goW_1, Hm.goW_2, Hm.x_mWk, Hm.x_itL, Hm.x_itT, Hm.x_itS, Hm.x_itD, Hm.goMk2_0, Hm.goMk2_1, Hm.goMk_0, Hm.goMk_1, Hm.goMk_2, Hm.x_mMkF, Hm.goRun_0, Hm.goRun_1,
    Hm.goRun_2, Hm.goRun_3, Hm.goRun_4, Hm.goRun_5, Hm.x_runB, Hm.goCh3_0, Hm.goCh3_1, Hm.goCh2_0, Hm.goCh2_1, Hm.goCh2_2, Hm.goCh_0, Hm.goCh_1, Hm.goCh_2, Hm.x_mCh, Hm.goIx_0, Hm.goIx_1, Hm.x_ixl, Hm.x_ixt, Hm.goFor_0, Hm.goFor_1,
    Hm.goFor_2, Hm.goL2_0, Hm.goL2_1, Hm.goL2_2, Hm.goL2_3, Hm.goL2_4, Hm.goL2_5, Hm.goL_0, Hm.goL_1, Hm.x_loopN, Hm.x_loopC, Hm.goR1_0, Hm.goR1_1, Hm.goR1_2, Hm.x_mR1, Hm.goTy_0, Hm.goTy_1, Hm.goTy_2, Hm.goTy_3, Hm.goTy_4, Hm.goTy_5,
    Hm.x_tryS, Hm.goFl_0, Hm.goFl_1, Hm.x_fldH, Hm.x_wipenx, Hm.x_wipert, Hm.x_wipebk, Hm.x_wipect, Hm.x_fzv, Hm.x_fzl, Hm.x_fzd, Hm.x_fine, Hm.x_isNn, Hm.x_isNi, Hm.x_isNs, Hm.x_isNb, Hm.x_isNt, Hm.x_isNl, Hm.x_isNd, Hm.x_swD,
    Hm.x_ewD, slots0, List.map_cons, List.map_nil, List.length_cons, List.length_nil, Nat.reduceSub, Nat.reduceAdd, List.replicate_succ, List.replicate_zero, List.cons_append, List.nil_append, List.append_nil, List.getElem?_cons_zero,
    List.getElem?_cons_succ, List.set_cons_zero, List.set_cons_succ, Bool.false_eq_true, if_true, if_false, ite_true, ite_false, reduceIte, Bool.not_true, Bool.not_false, decide_true, decide_false, Hm.vw_int, Hm.vw_str, Hm.vw_bl,
    Hm.vw_non, Hm.vw_lst, Hm.vw_tup, Hm.vw_dct, Hm.eq_ii, Hm.ne_ii, Hm.eq_bb, Hm.ne_bb, Hm.ln_lst, Hm.ln_tup, Hm.sl_lst, Hm.sl_tup, Hm.ad_ii, Hm.sb_ii, Hm.le_ii, Hm.lt_ii, Hm.gt_ii, Hm.ge_ii, Hm.ng_i, Hm.is_n, Hm.nis_n, Hm.tr_bl,
    Hm.tr_non, Hm.tr_int, Hm.tr_lst, Hm.tr_tup, Hm.tr_dct, Hm.tp_lst, Hm.tp_tup, Hm.in_bl, Hm.at_0, Hm.at_1, Hm.at_2, Hm.at_3, Hm.at_4, Hm.gst_lst, Hm.gst_tup, Hm.sm_0, Hm.sm_1, Hm.sm_2, Hm.sm_3, Hm.sm_4, Hm.sm_5, Hm.sm_6, Hm.sm_7,
    Hm.sm_8, Hm.sm_9, Hm.sm_10, Hm.sm_11, Hm.sm_12, Hm.sm_13, Hm.sm_14, Hm.sm_15, Hm.sm_16, true_and, and_true, Nat.zero_le, Nat.reduceLeDiff, Nat.reduceEqDiff, Nat.reduceLT, List.length_map,
    Hm.x_forS, p1, t1, p2, fx, tn, rng_2, q1, q2, dd, rr, ↓du, lk]
theorem deed_1 : deedD "" = .non := by kernel_rfl
theorem deed_2 : deedD "keep " = .non := by kernel_rfl
theorem deed_3 : deedD "keep" = .tup [.str "keep"] := by kernel_rfl
theorem plain (ns : List Int) (hn : ns.length ≤ 63) : ∃ S, F_law [.scr (ns.map .int)] [] = .ok (.val (.bl true)) S := by
  obtain ⟨cs, s, q1, h0, h1⟩ := open_ok ns
  generalize hsc : D.scr (ns.map .int) = sc at *
  have it : mR1 (mCons (mK (.int 12)) mNil) [some (.val sc), some (.ol [.lst (cs.map .int), .int 0, .int 0, .int s]), none, none, none, none, none] [] = .ok (rngL 0 12) [] := rfl
  obtain ⟨E2, S2, l1, e2, e4, e5, e6, d, h2⟩ : ∃ E2 S2, loopS (gN 2) (seqS (celS 1 (setS 4 (mCall F__law_text 1 (mCons (mCall F__law_any_deed 1 (mCons (mVar 1) mNil)) mNil)))) (seqS (celS 1 (forS (mR1 (mCons (mBin addD (mK (.int 1)) (mCall F__law_pull 2 (mCons (mVar 1) (mCons (mK (.int 2)) mNil)))) mNil)) (gN 5) (celS 1 (frzS 4 (setS 4 (mCall F__law_spoilt 2 (mCons (mVar 1) (mCons (mVar 4) mNil)))))))) (seqS (frzS 4 (setS 6 (mCall F__law_deed_in 1 (mCons (mVar 4) mNil)))) (frzS 4 (ifS (mNot (mTru (mCall (F__law_like 12) 2 (mCons (mCall F__law_read 1 (mCons (mVar 4) mNil)) (mCons (mIf (mTst (mBin isND (mVar 6) (mK .non))) (mK (.int 0)) (mVar 6)) mNil))))) (retS (mK (.bl false))) nextS))))) (rngL 0 12) (rngL 0 12).ds [some (.val sc), some (.ol [.lst (cs.map .int), .int 0, .int 0, .int s]), none, none, none, none, none] [] = .nx E2 S2 ∧
      ∃ e2 e4 e5 e6 x, E2 = [some (.val sc), x, e2, none, e4, e5, e6] := by
    obtain ⟨E2, S2, l1, e1, e2, e4, e5, e6, rfl, _⟩ := loopS_inv (w := (rngL 0 12).ds) (g := gN 2) (b := (seqS (celS 1 (setS 4 (mCall F__law_text 1 (mCons (mCall F__law_any_deed 1 (mCons (mVar 1) mNil)) mNil)))) (seqS (celS 1 (forS (mR1 (mCons (mBin addD (mK (.int 1)) (mCall F__law_pull 2 (mCons (mVar 1) (mCons (mK (.int 2)) mNil)))) mNil)) (gN 5) (celS 1 (frzS 4 (setS 4 (mCall F__law_spoilt 2 (mCons (mVar 1) (mCons (mVar 4) mNil)))))))) (seqS (frzS 4 (setS 6 (mCall F__law_deed_in 1 (mCons (mVar 4) mNil)))) (frzS 4 (ifS (mNot (mTru (mCall (F__law_like 12) 2 (mCons (mCall F__law_read 1 (mCons (mVar 4) mNil)) (mCons (mIf (mTst (mBin isND (mVar 6) (mK .non))) (mK (.int 0)) (mVar 6)) mNil))))) (retS (mK (.bl false))) nextS))))))
      (fun i E S => ∃ e1 e2 e4 e5 e6, E = [some (.val sc), e1, e2, none, e4, e5, e6] ∧ ((e1 = some (.val (.ref 0)) ∧ DrOk S) ∨ (e1 = some (.ol [.lst (cs.map .int), .int 0, .int 0, .int s]) ∧ S = []))) (ds := (rngL 0 12).ds) (i := 0) (E := [some (.val sc), some (.ol [.lst (cs.map .int), .int 0, .int 0, .int s]), none, none, none, none, none]) (S := []) (fun j d hj E S hI => by
      obtain ⟨e1, e2, e4, e5, e6, rfl, ⟨rfl, hS⟩ | ⟨rfl, rfl⟩⟩ := hI
      · obtain ⟨e4', e5', e6', S', hS', q⟩ := turn_ev (sc := sc) (e2 := d) (e3 := none) (e4 := e4) (e5 := e5) (e6 := e6) hS
        exact ⟨[some (.val sc), some (.val (.ref 0)), some (.val d), none, e4, e5, e6], _, S', rfl, .inl q, _, _, _, _, _, rfl, .inl ⟨rfl, hS'⟩⟩
      · obtain ⟨e4', e5', e6', S', hS', q⟩ := turn_ev (sc := sc) (e2 := d) (e3 := none) (e4 := e4) (e5 := e5) (e6 := e6) (S := Dr cs 0 0 s) ⟨cs, 0, 0, s, rfl, by omega, h0, h1⟩
        exact ⟨[some (.val sc), some (.ol [.lst (cs.map .int), .int 0, .int 0, .int s]), some (.val d), none, e4, e5, e6], _, S', rfl, .inl q, _, _, _, _, _, rfl, .inl ⟨rfl, hS'⟩⟩) ⟨_, _, _, _, _, rfl, .inr ⟨rfl, rfl⟩⟩
    exact ⟨_, S2, l1, e2, e4, e5, e6, e1, rfl⟩
  subst h2
  have fo := forS_of (E := [some (.val sc), some (.ol [.lst (cs.map .int), .int 0, .int 0, .int s]), none, none, none, none, none]) it l1
  have r1 := lread_ev (x := "") (S := S2) ⟨by decide +kernel, by decide +kernel⟩
  have r2 := lread_ev (x := "keep ") (S := S2) ⟨by decide +kernel, by decide +kernel⟩
  have r3 := lread_ev (x := "keep") (S := S2) ⟨by decide +kernel, by decide +kernel⟩
  rw [deed_1] at r1
  rw [deed_2] at r2
  rw [deed_3] at r3
  have f1 : List.lookup ("row" : Str) (fsD [("word", .txt "badtext"), ("row", .arg 0)] [.int 0] []) = some (D.int 0) := by kernel_rfl
  have f2 : List.lookup ("row" : Str) (fsD [("word", .txt "badtext"), ("row", .arg 0)] [.int 7] []) = some (D.int 7) := by kernel_rfl
  have lk := like_ev (d := .lst [.int 0, .int 0, .tup [.str "keep"], .int 0, .int 7]) (n := 3) (S := S2) (.lst (fun z hz => by
    simp only [List.mem_cons, List.not_mem_nil, or_false] at hz
    rcases hz with rfl | rfl | rfl | rfl | rfl
    · exact .int
    · exact .int
    · exact .tup (fun z hz => by rw [List.mem_singleton.mp hz]; exact .str (by decide +kernel)) (show 1 ≤ 1000 by decide)
    · exact .int
    · exact .int) (show 5 ≤ 1000 by decide)) (by omega)
  have ad : addD (.lst [.int 0, .int 0, .tup [.str "keep"]]) (.lst [.int 0, .int 7]) S2 = .ok (.ol [.int 0, .int 0, .tup [.str "keep"], .int 0, .int 7]) S2 := Hm.ad_ll (by decide)
  refine ⟨S2, ?_⟩
  have oc : F__law_open [sc] [] = .ok (.ol [.lst (cs.map .int), .int 0, .int 0, .int s]) [] := q1
  simp only [Hm.goS_0, Hm.goS_1, Hm.goS_2, Hm.goS_3, Hm.goS_4, Hm.goS_5, Hm.x_seqS, Hm.goSet_0, Hm.goSet_1, Hm.goSet_2, Hm.x_setS, Hm.goRet_0, Hm.goRet_1, Hm.goRet_2, Hm.x_retS, Hm.goEx_0, Hm.goEx_1, Hm.goEx_2, Hm.x_exprS, Hm.goIf_0, Hm.goIf_1,
    Hm.goIf_2, Hm.goIf_3, Hm.x_ifS, Hm.x_nextS, Hm.x_neverS, Hm.x_retNS, Hm.x_contS, Hm.x_breakS, Hm.goRv_0, Hm.x_retVarS, Hm.goFr_0, Hm.goFr_1, Hm.goFr_2, Hm.x_frzS, Hm.goCel_0, Hm.goCel_1, Hm.goCel_2, Hm.goCel_3, Hm.goCel_4,
    Hm.x_celS, Hm.goV_0, Hm.x_mVar, Hm.x_mK, Hm.goU_0, Hm.goU_1, Hm.goU_2, Hm.x_mUn, Hm.goB2_0, Hm.goB2_1, Hm.goB2_2, Hm.goB_0, Hm.goB_1, Hm.goB_2, Hm.x_mBin, Hm.goT_0, Hm.goT_1, Hm.goT_2, Hm.x_mTst, Hm.goTr2_0, Hm.goTr2_1, Hm.goTr_0,
    Hm.goTr_1, Hm.goTr_2, Hm.x_mTru, Hm.goN_0, Hm.goN_1, Hm.goN_2, Hm.x_mNot, Hm.goAn_0, Hm.goAn_1, Hm.goAn_2, Hm.goAn_3, Hm.goOr_0, Hm.goOr_1, Hm.goOr_2, Hm.goOr_3, Hm.goIe_0, Hm.goIe_1, Hm.goIe_2, Hm.goIe_3, Hm.x_mAnd, Hm.x_mOr,
    Hm.x_mIf, Hm.goNv2_0, Hm.goNv2_1, Hm.goNv_0, Hm.goNv_1, Hm.goNv_2, Hm.x_mNotV, Hm.goOv2_0, Hm.goOv2_1, Hm.goOv2_2, Hm.goOv_0, Hm.goOv_1, Hm.goOv_2, Hm.x_mOrV, Hm.goAv2_0, Hm.goAv2_1, Hm.goAv2_2, Hm.goAv_0, Hm.goAv_1, Hm.goAv_2,
    Hm.x_mAndV, Hm.x_mNil, Hm.goC2_0, Hm.goC2_1, Hm.goC2_2, Hm.goC_0, Hm.goC_1, Hm.goC_2, Hm.x_mCons, Hm.goTp_0, Hm.goTp_1, Hm.goTp_2, Hm.x_mTup, Hm.goLs_0, Hm.goLs_1, Hm.goLs_2, Hm.x_mLst, Hm.x_mNo, Hm.goPt_0, Hm.goPt_1, Hm.goPt_2,
    Hm.x_mPart, Hm.goSl3_0, Hm.goSl3_1, Hm.goSl3_2, Hm.goSl2_0, Hm.goSl2_1, Hm.goSl2_2, Hm.goSl_0, Hm.goSl_1, Hm.goSl_2, Hm.x_mSl, Hm.goCall_0, Hm.goCall_1, Hm.goCall_2, Hm.x_mCall, Hm.goFn_0, Hm.goFn_1, Hm.goFn_2, Hm.x_mF, Hm.goM3_0,
    Hm.goM3_1, Hm.goM3_2, Hm.goM2_0, Hm.goM_0, Hm.goM_1, Hm.goM_2, Hm.x_mM1, Hm.goG2_0, Hm.goG2_1, Hm.goG_0, Hm.goG_1, Hm.goG_2, Hm.x_setG, Hm.x_gN, Hm.x_gNil, Hm.goGs_0, Hm.goGs_1, Hm.x_gCons, Hm.x_gT_tup, Hm.x_gT_lst, Hm.goRs_0,
    Hm.goRs_1, Hm.goRs_2, Hm.x_raiseS, Hm.goW2_0, Hm.goW2_1, Hm.goW_0, Hm.goW_1, Hm.goW_2, Hm.x_mWk, Hm.x_itL, Hm.x_itT, Hm.x_itS, Hm.x_itD, Hm.goMk2_0, Hm.goMk2_1, Hm.goMk_0, Hm.goMk_1, Hm.goMk_2, Hm.x_mMkF, Hm.goRun_0, Hm.goRun_1,
    Hm.goRun_2, Hm.goRun_3, Hm.goRun_4, Hm.goRun_5, Hm.x_runB, Hm.goCh3_0, Hm.goCh3_1, Hm.goCh2_0, Hm.goCh2_1, Hm.goCh2_2, Hm.goCh_0, Hm.goCh_1, Hm.goCh_2, Hm.x_mCh, Hm.goIx_0, Hm.goIx_1, Hm.x_ixl, Hm.x_ixt, Hm.goFor_0, Hm.goFor_1,
    Hm.goFor_2, Hm.goL2_0, Hm.goL2_1, Hm.goL2_2, Hm.goL2_3, Hm.goL2_4, Hm.goL2_5, Hm.goL_0, Hm.goL_1, Hm.x_loopN, Hm.x_loopC, Hm.goR1_0, Hm.goR1_1, Hm.goR1_2, Hm.x_mR1, Hm.goTy_0, Hm.goTy_1, Hm.goTy_2, Hm.goTy_3, Hm.goTy_4, Hm.goTy_5,
    Hm.x_tryS, Hm.goFl_0, Hm.goFl_1, Hm.x_fldH, Hm.x_wipenx, Hm.x_wipert, Hm.x_wipebk, Hm.x_wipect, Hm.x_fzv, Hm.x_fzl, Hm.x_fzd, Hm.x_fine, Hm.x_isNn, Hm.x_isNi, Hm.x_isNs, Hm.x_isNb, Hm.x_isNt, Hm.x_isNl, Hm.x_isNd, Hm.x_swD,
    Hm.x_ewD, slots0, List.map_cons, List.map_nil, List.length_cons, List.length_nil, Nat.reduceSub, Nat.reduceAdd, List.replicate_succ, List.replicate_zero, List.cons_append, List.nil_append, List.append_nil, List.getElem?_cons_zero,
    List.getElem?_cons_succ, List.set_cons_zero, List.set_cons_succ, Bool.false_eq_true, if_true, if_false, ite_true, ite_false, reduceIte, Bool.not_true, Bool.not_false, decide_true, decide_false, Hm.vw_int, Hm.vw_str, Hm.vw_bl,
    Hm.vw_non, Hm.vw_lst, Hm.vw_tup, Hm.vw_dct, Hm.eq_ii, Hm.ne_ii, Hm.eq_bb, Hm.ne_bb, Hm.ln_lst, Hm.ln_tup, Hm.sl_lst, Hm.sl_tup, Hm.ad_ii, Hm.sb_ii, Hm.le_ii, Hm.lt_ii, Hm.gt_ii, Hm.ge_ii, Hm.ng_i, Hm.is_n, Hm.nis_n, Hm.tr_bl,
    Hm.tr_non, Hm.tr_int, Hm.tr_lst, Hm.tr_tup, Hm.tr_dct, Hm.tp_lst, Hm.tp_tup, Hm.in_bl, Hm.at_0, Hm.at_1, Hm.at_2, Hm.at_3, Hm.at_4, Hm.gst_lst, Hm.gst_tup, Hm.sm_0, Hm.sm_1, Hm.sm_2, Hm.sm_3, Hm.sm_4, Hm.sm_5, Hm.sm_6, Hm.sm_7,
    Hm.sm_8, Hm.sm_9, Hm.sm_10, Hm.sm_11, Hm.sm_12, Hm.sm_13, Hm.sm_14, Hm.sm_15, Hm.sm_16, true_and, and_true, Nat.zero_le, Nat.reduceLeDiff, Nat.reduceEqDiff, Nat.reduceLT, List.length_map,
    F_law, m_law, N_law, oc, fo, r1, r2, r3, rdD, f1, f2, ad, lk]
end Wk57
set_option Elab.async false
set_option linter.all false
set_option maxRecDepth 100000
set_option maxHeartbeats 0
namespace Wk57
open PySem PySem.W PySem.Calls PySem.Spec PyProof.Rows L2 Hm
def fn : List He.DefD := [⟨("_law_menu", none), "_law_menu", "_law_menu", defArgs (top 26), defBody (top 26), defScope (top 26), [], []⟩, ⟨("_law_pull", none), "_law_pull", "_law_pull", defArgs (top 22), defBody (top 22), defScope (top 22), [], []⟩, ⟨("_law_any_deed", none), "_law_any_deed", "_law_any_deed", defArgs (top 36), defBody (top 36), defScope (top 36), [], []⟩, ⟨("_law_named", none), "_law_named", "_law_named", defArgs (top 25), defBody (top 25), defScope (top 25), [], []⟩, ⟨("_law_figures", none), "_law_figures", "_law_figures", defArgs (top 29), defBody (top 29), defScope (top 29), [], []⟩, ⟨("_law_number_in", none), "_law_number_in", "_law_number_in", defArgs (top 30), defBody (top 30), defScope (top 30), [], []⟩, ⟨("_law_need_in", none), "_law_need_in", "_law_need_in", defArgs (top 31), defBody (top 31), defScope (top 31), [], []⟩, ⟨("_law_way_in", none), "_law_way_in", "_law_way_in", defArgs (top 32), defBody (top 32), defScope (top 32), [], []⟩, ⟨("_law_thing_in", none), "_law_thing_in", "_law_thing_in", defArgs (top 33), defBody (top 33), defScope (top 33), [], []⟩, ⟨("_law_deed_in", none), "_law_deed_in", "_law_deed_in", defArgs (top 34), defBody (top 34), defScope (top 34), [], []⟩, ⟨("_law_num", none), "_law_num", "_law_num", defArgs (top 23), defBody (top 23), defScope (top 23), [], []⟩, ⟨("_law_like", none), "_law_like", "_law_like", defArgs (top 24), defBody (top 24), defScope (top 24), [], []⟩, ⟨("_law_open", none), "_law_open", "_law_open", defArgs (top 21), defBody (top 21), defScope (top 21), [], []⟩, ⟨("is_name", none), "is_name", "is_name", defArgs (top 6), defBody (top 6), defScope (top 6), [], []⟩, ⟨("name_in", none), "name_in", "name_in", defArgs (top 16), defBody (top 16), defScope (top 16), [], []⟩, ⟨("figures_in", none), "figures_in", "figures_in", defArgs (top 11), defBody (top 11), defScope (top 11), [], []⟩, ⟨("number_in", none), "number_in", "number_in", defArgs (top 12), defBody (top 12), defScope (top 12), [], []⟩, ⟨("need_in", none), "need_in", "need_in", defArgs (top 13), defBody (top 13), defScope (top 13), [], []⟩, ⟨("way_in", none), "way_in", "way_in", defArgs (top 14), defBody (top 14), defScope (top 14), [], []⟩, ⟨("ways_in", none), "ways_in", "ways_in", defArgs (top 15), defBody (top 15), defScope (top 15), [], []⟩, ⟨("thing_in", none), "thing_in", "thing_in", defArgs (top 18), defBody (top 18), defScope (top 18), [], []⟩, ⟨("read_deed", none), "read_deed", "read_deed", defArgs (top 19), defBody (top 19), defScope (top 19), [], []⟩, ⟨("_law_read", none), "_law_read", "_law_read", defArgs (top 37), defBody (top 37), defScope (top 37), [], []⟩, ⟨("_law_spoilt", none), "_law_spoilt", "_law_spoilt", defArgs (top 35), defBody (top 35), defScope (top 35), [], []⟩, ⟨("_law_way_text", none), "_law_way_text", "_law_way_text", defArgs (top 27), defBody (top 27), defScope (top 27), [], []⟩, ⟨("_law_text", none), "_law_text", "_law_text", defArgs (top 28), defBody (top 28), defScope (top 28), [], []⟩, ⟨("law", none), "law", "law", defArgs (top 38), defBody (top 38), defScope (top 38), [], []⟩, ⟨("BadText", some "__init__"), "__init__", "BadText.__init__", defArgs sx_BadText, defBody sx_BadText, defScope sx_BadText, [.int 0], []⟩]
def fa : List He.Fa := [.glo "_law_menu", .glo "_law_pull", .glo "_law_any_deed", .glo "_law_named", .glo "_law_figures", .glo "_law_number_in", .glo "_law_need_in", .glo "_law_way_in", .glo "_law_thing_in", .glo "_law_deed_in", .glo "_law_num", .glo "_law_like", .glo "_law_open", .glo "is_name", .glo "name_in", .glo "figures_in", .glo "number_in", .glo "need_in", .glo "way_in", .glo "ways_in", .glo "thing_in", .glo "read_deed", .glo "_law_read", .glo "_law_spoilt", .glo "_law_way_text", .glo "_law_text", .glo "law", .free "all", .free "bool", .free "int", .free "isinstance", .free "len", .free "list", .free "range", .free "str", .free "tuple", .free "zip", .str "LETTERS" "abcdefghijklmnopqrstuvwxyz", .int "MOST_SIGNS" 8, .str "FIGURES" "0123456789", .int "MOST_FIGURES" 3, .glo "FORMS", .glo "READERS", .glo "BadText"]
def ts : List He.Tab := [(fun K => He.ga K "FORMS", tab_FORMS.map (·.1)), (fun K => He.ga K "READERS", tab_READERS.map (·.1))]
def bs : List (PySem.W.Frag → Bool) := [fun K => tabB K (He.ga K "FORMS") tab_FORMS, fun K => tabB K (He.ga K "READERS") tab_READERS, fun K => xclB K .ve "BadText" ["row", "word"], fun K => emB K xcs xks xsub]
abbrev R : PySem.W.OpenRow := PySem.W.OpenLaw.row PySem.Challenge.rw_hodman_k57_texts_of_no_deed
abbrev hk : PySem.W.Hook := hookX 5 fa fn ts bs
def ob (s : PySem.W.SharedT) : AlX := obsXG 5 fa fn ts bs (HandSHeadRun.getT s)
theorem ob_eq (s : PySem.W.SharedT) : ob s = hk.obs s.abs := obsXG_eq (HandSHeadRun.getT_eq s)
def loose0 : List PySem.Str := ["YardError", "BadText", "LETTERS", "MOST_SIGNS", "is_name", "FIGURES", "MOST_FIGURES", "FORMS", "figures_in", "number_in", "need_in", "way_in", "ways_in", "name_in", "READERS", "thing_in", "read_deed", "_law_open", "_law_pull", "_law_num"]
def loose1 : List PySem.Str := ["_law_like", "_law_named", "_law_menu", "_law_way_text", "_law_text", "_law_figures", "_law_number_in", "_law_need_in", "_law_way_in", "_law_thing_in", "_law_deed_in", "_law_spoilt", "_law_any_deed", "_law_read"]
def loose : List PySem.Str := loose0 ++ loose1
theorem run0 (w : World) : HandSHeadRun.RunEq R (PySem.W.view R.prog [38]) hk ob 2200 loose (w.withFollow "special-get-raises" false) := by
  intro os; kernel_rfl
theorem run1 (w : World) : HandSHeadRun.RunEq R (PySem.W.view R.prog [38]) hk ob 2200 loose (w.withFollow "special-get-raises" true) := by
  intro os; kernel_rfl
theorem run (w : World) : HandSHeadRun.RunEq R (PySem.W.view R.prog [38]) hk ob 2200 loose w :=
  PySem.W.byRow2 "special-get-raises" (P := fun w => HandSHeadRun.RunEq R (PySem.W.view R.prog [38]) hk ob 2200 loose w) run0 run1 w
theorem facts {P : Program} {w : World} {K : PySem.W.Frag} {h : Heap} {mg : Str → Option Value} (X : K.In h) (Y : h.Ns mainGlobals mg) (c : SaysX fa fn ts bs w K) (base : Heap) : Fx ⟨P, w, K, mg, base⟩ where
    g__law_menu := He.glo_ok X Y (c.one.d.fact 0 (f := .glo "_law_menu") rfl)
    g__law_pull := He.glo_ok X Y (c.one.d.fact 1 (f := .glo "_law_pull") rfl)
    g__law_any_deed := He.glo_ok X Y (c.one.d.fact 2 (f := .glo "_law_any_deed") rfl)
    g__law_named := He.glo_ok X Y (c.one.d.fact 3 (f := .glo "_law_named") rfl)
    g__law_figures := He.glo_ok X Y (c.one.d.fact 4 (f := .glo "_law_figures") rfl)
    g__law_number_in := He.glo_ok X Y (c.one.d.fact 5 (f := .glo "_law_number_in") rfl)
    g__law_need_in := He.glo_ok X Y (c.one.d.fact 6 (f := .glo "_law_need_in") rfl)
    g__law_way_in := He.glo_ok X Y (c.one.d.fact 7 (f := .glo "_law_way_in") rfl)
    g__law_thing_in := He.glo_ok X Y (c.one.d.fact 8 (f := .glo "_law_thing_in") rfl)
    g__law_deed_in := He.glo_ok X Y (c.one.d.fact 9 (f := .glo "_law_deed_in") rfl)
    g__law_num := He.glo_ok X Y (c.one.d.fact 10 (f := .glo "_law_num") rfl)
    g__law_like := He.glo_ok X Y (c.one.d.fact 11 (f := .glo "_law_like") rfl)
    g__law_open := He.glo_ok X Y (c.one.d.fact 12 (f := .glo "_law_open") rfl)
    g_is_name := He.glo_ok X Y (c.one.d.fact 13 (f := .glo "is_name") rfl)
    g_name_in := He.glo_ok X Y (c.one.d.fact 14 (f := .glo "name_in") rfl)
    g_figures_in := He.glo_ok X Y (c.one.d.fact 15 (f := .glo "figures_in") rfl)
    g_number_in := He.glo_ok X Y (c.one.d.fact 16 (f := .glo "number_in") rfl)
    g_need_in := He.glo_ok X Y (c.one.d.fact 17 (f := .glo "need_in") rfl)
    g_way_in := He.glo_ok X Y (c.one.d.fact 18 (f := .glo "way_in") rfl)
    g_ways_in := He.glo_ok X Y (c.one.d.fact 19 (f := .glo "ways_in") rfl)
    g_thing_in := He.glo_ok X Y (c.one.d.fact 20 (f := .glo "thing_in") rfl)
    g_read_deed := He.glo_ok X Y (c.one.d.fact 21 (f := .glo "read_deed") rfl)
    g__law_read := He.glo_ok X Y (c.one.d.fact 22 (f := .glo "_law_read") rfl)
    g__law_spoilt := He.glo_ok X Y (c.one.d.fact 23 (f := .glo "_law_spoilt") rfl)
    g__law_way_text := He.glo_ok X Y (c.one.d.fact 24 (f := .glo "_law_way_text") rfl)
    g__law_text := He.glo_ok X Y (c.one.d.fact 25 (f := .glo "_law_text") rfl)
    g_law := He.glo_ok X Y (c.one.d.fact 26 (f := .glo "law") rfl)
    d__law_menu := c.one.d.def_ 0 rfl
    d__law_pull := c.one.d.def_ 1 rfl
    d__law_any_deed := c.one.d.def_ 2 rfl
    d__law_named := c.one.d.def_ 3 rfl
    d__law_figures := c.one.d.def_ 4 rfl
    d__law_number_in := c.one.d.def_ 5 rfl
    d__law_need_in := c.one.d.def_ 6 rfl
    d__law_way_in := c.one.d.def_ 7 rfl
    d__law_thing_in := c.one.d.def_ 8 rfl
    d__law_deed_in := c.one.d.def_ 9 rfl
    d__law_num := c.one.d.def_ 10 rfl
    d__law_like := c.one.d.def_ 11 rfl
    d__law_open := c.one.d.def_ 12 rfl
    d_is_name := c.one.d.def_ 13 rfl
    d_name_in := c.one.d.def_ 14 rfl
    d_figures_in := c.one.d.def_ 15 rfl
    d_number_in := c.one.d.def_ 16 rfl
    d_need_in := c.one.d.def_ 17 rfl
    d_way_in := c.one.d.def_ 18 rfl
    d_ways_in := c.one.d.def_ 19 rfl
    d_thing_in := c.one.d.def_ 20 rfl
    d_read_deed := c.one.d.def_ 21 rfl
    d__law_read := c.one.d.def_ 22 rfl
    d__law_spoilt := c.one.d.def_ 23 rfl
    d__law_way_text := c.one.d.def_ 24 rfl
    d__law_text := c.one.d.def_ 25 rfl
    d_law := c.one.d.def_ 26 rfl
    b_all := He.free_ok X Y (c.one.d.fact 27 (f := .free "all") rfl)
    b_bool := He.free_ok X Y (c.one.d.fact 28 (f := .free "bool") rfl)
    b_int := He.free_ok X Y (c.one.d.fact 29 (f := .free "int") rfl)
    b_isinstance := He.free_ok X Y (c.one.d.fact 30 (f := .free "isinstance") rfl)
    b_len := He.free_ok X Y (c.one.d.fact 31 (f := .free "len") rfl)
    b_list := He.free_ok X Y (c.one.d.fact 32 (f := .free "list") rfl)
    b_range := He.free_ok X Y (c.one.d.fact 33 (f := .free "range") rfl)
    b_str := He.free_ok X Y (c.one.d.fact 34 (f := .free "str") rfl)
    b_tuple := He.free_ok X Y (c.one.d.fact 35 (f := .free "tuple") rfl)
    b_zip := He.free_ok X Y (c.one.d.fact 36 (f := .free "zip") rfl)
    c_LETTERS := by
      obtain ⟨t, e⟩ := He.str_ok X Y (c.one.d.fact 37 (f := .str "LETTERS" "abcdefghijklmnopqrstuvwxyz") rfl)
      exact ⟨_, e, t, rfl⟩
    c_MOST_SIGNS := by
      obtain ⟨t, e⟩ := He.int_ok X Y (c.one.d.fact 38 (f := .int "MOST_SIGNS" 8) rfl)
      exact ⟨_, e, t, rfl⟩
    c_FIGURES := by
      obtain ⟨t, e⟩ := He.str_ok X Y (c.one.d.fact 39 (f := .str "FIGURES" "0123456789") rfl)
      exact ⟨_, e, t, rfl⟩
    c_MOST_FIGURES := by
      obtain ⟨t, e⟩ := He.int_ok X Y (c.one.d.fact 40 (f := .int "MOST_FIGURES" 3) rfl)
      exact ⟨_, e, t, rfl⟩
    t_FORMS := tab_of (He.glo_ok X Y (c.one.d.fact 41 (f := .glo "FORMS") rfl)) (c.one.tab 0 rfl) (c.bool 0 rfl)
    t_READERS := tab_of (He.glo_ok X Y (c.one.d.fact 42 (f := .glo "READERS") rfl)) (c.one.tab 1 rfl) (c.bool 1 rfl)
    gx_BadText := He.glo_ok X Y (c.one.d.fact 43 (f := .glo "BadText") rfl)
    xc_BadText := c.bool 2 rfl
    dx_BadText := c.one.d.def_ 27 rfl
    em := c.bool 3 rfl
end Wk57
open PySem PySem.W PySem.Calls PyProof.Rows
theorem PySem.Challenge.cw_hodman_k57_texts_of_no_deed_holds : PySem.Challenge.rw_hodman_k57_texts_of_no_deed.Holds := by
  w_on; o_law
  refine HandSHeadRun.head_any (r := OpenLaw.row PySem.Challenge.rw_hodman_k57_texts_of_no_deed) (q := view (OpenLaw.row PySem.Challenge.rw_hodman_k57_texts_of_no_deed).prog [38]) (H := Wk57.hk) (ob := Wk57.ob) (M := 2200) (loose := Wk57.loose) (d := HandSHeadRun.topDef (OpenLaw.row PySem.Challenge.rw_hodman_k57_texts_of_no_deed).prog 38) (kwd := []) Wk57.ob_eq
    (by kernel_rfl) (fun s => by kernel_rfl) Wk57.run (by kernel_rfl) (by kernel_rfl) (by kernel_rfl) (by rfl) (by first | assumption | decide +kernel) (by decide +kernel) ⟨rfl, rfl, rfl, rfl, rfl, by decide +kernel⟩ ?hw ?hc
  case hw => w_witness2
  case hc =>
    refine Hm.walkX (l := PySem.Challenge.rw_hodman_k57_texts_of_no_deed) (n := 63) (k := 15) (x := "_law_script") rfl (by decide) (by kernel_rfl) ⟨rfl, by decide, by decide⟩ ?F
    intro w mg fa h Y G hmg0
    obtain ⟨K, KX, c⟩ := Y
    have hmg : mg ("law" : PySem.Str) = some (.ref fa) := by
      have e : (HandSHeadRun.topDef (OpenLaw.row PySem.Challenge.rw_hodman_k57_texts_of_no_deed).prog 38).name = ("law" : PySem.Str) := by kernel_rfl
      rw [← e]
      exact hmg0
    have e := hmg.symm.trans (He.glo_ok KX G (c.one.d.fact 26 (f := .glo "law") rfl))
    cases e
    obtain ⟨fd, Fn⟩ := c.one.d.def_ 26 (d := Wk57.fn[26]) rfl
    exact ⟨K, fd, KX, fun s u => L2.FunD.bindsA (ps := ["_law_script"]) Fn (fun _ _ _ _ _ _ us hl => match us, hl with | [_], _ => rfl) s [u] rfl, Wk57.F_law, fun ns hn => Wk57.plain ns hn, fun base _ _ => Hm.fokFn (G := ⟨_, w, K, mg, base⟩) Fn Wk57.sc_law (Wk57.k_law (Wk57.facts KX G c base))⟩
