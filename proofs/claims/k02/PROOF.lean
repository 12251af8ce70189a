import PyProof.Rows.All
import Wide.All
import OpenK.AllK
import Wide.FinOn
import HandS.ForMost
import HandS.ForExc
import HandS.Wide
import HandS.IsInst
import HandS.More
import HandS.Zip
import HandS.Iter
import HandS.Deep
import HandS.Strs
import HandS.StrMore
import HandS.TupAny
import HandS.TupMul
import HandS.TupLe
import HandS.TupSets
import HandS.SetFor
import HandS.RaiseMore
import HandS.FStr
import HandS.Property
import HandS.ClsMeth
import HandS.Star
import HandS.OwnEq
import HandS.Records
import KE.KUnpackStar
import HandS.Defaults
import HandS.Words
import HandS.Head0
import HandS.Head1
import HandS.Head2
import HandS.HeadEnd
import HandS.HeadHook1
import HandS.HeadHook2
import PySem.Challenge.RW_cartholds_k02_deeds_made
set_option Elab.async false
set_option linter.all false
set_option maxRecDepth 100000
set_option maxHeartbeats 1000000
namespace Dv
open PySem PySem.Spec PyProof.Rows L2

/-- data: what a value is, by value; lists, dicts and instances in it never change any more -/
inductive D where
  | non | bl (b : Bool) | int (i : Int) | str (x : Str) | tup (ds : List D) | lst (ds : List D)
  | dct (kvs : List (D × D)) | ins (c : Str) (fs : List (Str × D)) | ty (t : String) | gl (x : Str) | fl (ds : List D)
  deriving Inhabited
/-- what a name holds: data, or a thing that may change, by its number in the store -/
inductive U where
  | d (x : D) | ref (n : Nat)
  deriving Inhabited
/-- a thing that may change; fz: one that changes no more -/
inductive Cell where
  | lst (ds : List D) | lsu (us : List U) | dct (kvs : List (D × D)) | ins (c : Str) (fs : List (Str × U)) | fz (x : D)
  deriving Inhabited
def Cell.live : Cell → Bool
  | .fz _ => false
  | _ => true

abbrev Store := List Cell
abbrev Env := List (Option U)

/-- where things lie: the store's things; what stays as it is -/
structure Wd where
  ι : List Addr
  C : Hp
structure Le (w w' : Wd) : Prop where
  i : w.ι <+: w'.ι
  c : ∀ a o, w.C a = some o → w'.C a = some o
theorem Le.refl (w : Wd) : Le w w := ⟨List.prefix_refl _, fun _ _ h => h⟩
theorem Le.trans {a b c : Wd} (x : Le a b) (y : Le b c) : Le a c := ⟨x.i.trans y.i, fun p o h => y.c p o (x.c p o h)⟩

/-- a key of a dict -/
def keyD : D → Option Key
  | .int i => some (.inl i)
  | .str x => some (.inr x)
  | _ => none

section
variable (K : PySem.W.Frag) (mg : Str → Option Value) (w : Wd)
/-- a list that is known as an object (the script), or of the written part -/
def SqF (K : PySem.W.Frag) (C : Hp) (a : Addr) (xs : List V) : Prop :=
  (∃ o, C a = some (.frz o (.lst xs))) ∨
    ∃ (o : Obj) (its : Array Value) (n : Nat), K.lookup a = some o ∧ o.cls = .type "list" ∧ o.dict = none ∧ o.data = .seq its n ∧ its.size ≤ sizeLine ∧ Vals xs its.toList
/-- a tuple: tracked, or of the written part -/
def SqU (K : PySem.W.Frag) (C : Hp) (a : Addr) (xs : List V) : Prop :=
  C a = some (.tup xs) ∨
    ∃ (o : Obj) (its : Array Value) (n : Nat), K.lookup a = some o ∧ o.cls = .type "tuple" ∧ o.data = .seq its n ∧ its.size ≤ sizeLine ∧ Vals xs its.toList
mutual
inductive Rep : D → V → Prop
  | non : Rep .non .non
  | bl (b : Bool) : Rep (.bl b) (.bl b)
  | int (i : Int) : Rep (.int i) (.int i)
  | str (x : Str) (h : PyData.strOk x = true) (hl : x.length ≤ sizeLine) : Rep (.str x) (.str x)
  | tup {ds : List D} {a : Addr} {vs : List V} (h : SqU K w.C a vs) (r : Reps ds vs) : Rep (.tup ds) (.ref a)
  | lst {ds : List D} {a : Addr} {vs : List V} (h : w.C a = some (.lst vs)) (r : Reps ds vs) : Rep (.lst ds) (.ref a)
  | fl {ds : List D} {a : Addr} {vs : List V} (h : SqF K w.C a vs) (r : Reps ds vs) : Rep (.fl ds) (.ref a)
  | dct {kvs : List (D × D)} {a : Addr} {ps : List (Key × V)} {o : Obj} (h : w.C a = some (.frz o (.dK ps))) (r : RepK kvs ps) : Rep (.dct kvs) (.ref a)
  | ins {c : Str} {fs : List (Str × D)} {a Ca dx : Addr} {gs : List (Str × V)} (hc : mg c = some (.ref Ca)) (h : w.C a = some (.ins Ca dx gs)) (r : RepF fs gs) : Rep (.ins c fs) (.ref a)
  | ty (t : String) : Rep (.ty t) (.ty t)
  | gl {x : Str} {a : Addr} (h : mg x = some (.ref a)) : Rep (.gl x) (.ref a)
inductive Reps : List D → List V → Prop
  | nil : Reps [] []
  | cons {d : D} {v : V} {ds : List D} {vs : List V} (h : Rep d v) (t : Reps ds vs) : Reps (d :: ds) (v :: vs)
inductive RepK : List (D × D) → List (Key × V) → Prop
  | nil : RepK [] []
  | cons {k d : D} {q : Key} {v : V} {ds : List (D × D)} {vs : List (Key × V)} (hk : keyD k = some q) (kr : Rep k (kV q)) (h : Rep d v) (t : RepK ds vs) : RepK ((k, d) :: ds) ((q, v) :: vs)
inductive RepF : List (Str × D) → List (Str × V) → Prop
  | nil : RepF [] []
  | cons {f : Str} {d : D} {v : V} {fs : List (Str × D)} {gs : List (Str × V)} (h : Rep d v) (t : RepF fs gs) : RepF ((f, d) :: fs) ((f, v) :: gs)
end
/-- what a name holds -/
inductive RepU : U → V → Prop
  | d {x : D} {v : V} (h : Rep K mg w x v) : RepU (.d x) v
  | ref {n : Nat} {a : Addr} (h : w.ι[n]? = some a) : RepU (.ref n) (.ref a)
inductive RepUs : List U → List V → Prop
  | nil : RepUs [] []
  | cons {u : U} {v : V} {us : List U} {vs : List V} (h : RepU K mg w u v) (t : RepUs us vs) : RepUs (u :: us) (v :: vs)
inductive RepUF : List (Str × U) → List (Str × V) → Prop
  | nil : RepUF [] []
  | cons {f : Str} {u : U} {v : V} {fs : List (Str × U)} {gs : List (Str × V)} (h : RepU K mg w u v) (t : RepUF fs gs) : RepUF ((f, u) :: fs) ((f, v) :: gs)
def CellOk (H : Hp) : Cell → Addr → Prop
  | .lst ds, a => ∃ vs, H a = some (.lst vs) ∧ Reps K mg w ds vs
  | .lsu us, a => ∃ vs, H a = some (.lst vs) ∧ RepUs K mg w us vs
  | .dct kvs, a => ∃ ps, H a = some (.dK ps) ∧ RepK K mg w kvs ps
  | .ins c fs, a => ∃ C dx gs, mg c = some (.ref C) ∧ H a = some (.ins C dx gs) ∧ RepUF K mg w fs gs
  | .fz x, a => Rep K mg w x (.ref a)
structure Sto (H : Hp) (S : Store) : Prop where
  len : w.ι.length = S.length
  nd : w.ι.Nodup
  has : ∀ a ∈ w.ι, ∃ o, H a = some o
  cs : ∀ a o, w.C a = some o → H a = some o
  sep : ∀ (n : Nat) (c : Cell) (a : Addr), S[n]? = some c → c.live = true → w.ι[n]? = some a → w.C a = none
  ok : ∀ (n : Nat) (c : Cell) (a : Addr), S[n]? = some c → w.ι[n]? = some a → CellOk K mg w H c a
end

section
variable {K : PySem.W.Frag} {mg : Str → Option Value} {w w' : Wd} {H H' : Hp}
theorem SqU.mono {a : Addr} {xs : List V} (l : Le w w') (h : SqU K w.C a xs) : SqU K w'.C a xs := h.imp_left (l.c _ _)
theorem SqF.mono {a : Addr} {xs : List V} (l : Le w w') (h : SqF K w.C a xs) : SqF K w'.C a xs := by
  rcases h with ⟨o, h⟩ | h
  · exact .inl ⟨o, l.c _ _ h⟩
  · exact .inr h
mutual
theorem Rep.mono (l : Le w w') : ∀ {d : D} {v : V}, Rep K mg w d v → Rep K mg w' d v
  | _, _, .non => .non
  | _, _, .bl b => .bl b
  | _, _, .int i => .int i
  | _, _, .str z h hl => .str z h hl
  | _, _, .tup h r => .tup (h.mono l) (Reps.mono l r)
  | _, _, .lst h r => .lst (l.c _ _ h) (Reps.mono l r)
  | _, _, .fl h r => .fl (h.mono l) (Reps.mono l r)
  | _, _, .dct h r => .dct (l.c _ _ h) (RepK.mono l r)
  | _, _, .ins hc h r => .ins hc (l.c _ _ h) (RepF.mono l r)
  | _, _, .ty t => .ty t
  | _, _, .gl h => .gl h
theorem Reps.mono (l : Le w w') : ∀ {ds : List D} {vs : List V}, Reps K mg w ds vs → Reps K mg w' ds vs
  | _, _, .nil => .nil
  | _, _, .cons h t => .cons (Rep.mono l h) (Reps.mono l t)
theorem RepK.mono (l : Le w w') : ∀ {ds : List (D × D)} {vs : List (Key × V)}, RepK K mg w ds vs → RepK K mg w' ds vs
  | _, _, .nil => .nil
  | _, _, .cons hk kr h t => .cons hk (Rep.mono l kr) (Rep.mono l h) (RepK.mono l t)
theorem RepF.mono (l : Le w w') : ∀ {fs : List (Str × D)} {gs : List (Str × V)}, RepF K mg w fs gs → RepF K mg w' fs gs
  | _, _, .nil => .nil
  | _, _, .cons h t => .cons (Rep.mono l h) (RepF.mono l t)
end
theorem pre_get {ι ι' : List Addr} {n : Nat} {a : Addr} (h : ι <+: ι') (e : ι[n]? = some a) : ι'[n]? = some a := by
  obtain ⟨t, rfl⟩ := h
  rw [List.getElem?_append_left (List.getElem?_eq_some_iff.mp e).1]
  exact e
theorem RepU.mono (l : Le w w') {u : U} {v : V} (h : RepU K mg w u v) : RepU K mg w' u v := by
  cases h with
  | d h => exact .d (h.mono l)
  | ref h => exact .ref (pre_get l.i h)
theorem RepUs.mono (l : Le w w') : ∀ {us : List U} {vs : List V}, RepUs K mg w us vs → RepUs K mg w' us vs
  | _, _, .nil => .nil
  | _, _, .cons h t => .cons (h.mono l) (RepUs.mono l t)
theorem RepUF.mono (l : Le w w') : ∀ {fs : List (Str × U)} {gs : List (Str × V)}, RepUF K mg w fs gs → RepUF K mg w' fs gs
  | _, _, .nil => .nil
  | _, _, .cons h t => .cons (h.mono l) (RepUF.mono l t)
theorem Reps.length : ∀ {ds : List D} {vs : List V}, Reps K mg w ds vs → ds.length = vs.length
  | _, _, .nil => rfl
  | _, _, .cons _ t => congrArg (· + 1) (Reps.length t)
theorem RepK.length : ∀ {ds : List (D × D)} {vs : List (Key × V)}, RepK K mg w ds vs → ds.length = vs.length
  | _, _, .nil => rfl
  | _, _, .cons _ _ _ t => congrArg (· + 1) (RepK.length t)
theorem RepUs.length : ∀ {ds : List U} {vs : List V}, RepUs K mg w ds vs → ds.length = vs.length
  | _, _, .nil => rfl
  | _, _, .cons _ t => congrArg (· + 1) (RepUs.length t)
theorem RepUF.length : ∀ {ds : List (Str × U)} {vs : List (Str × V)}, RepUF K mg w ds vs → ds.length = vs.length
  | _, _, .nil => rfl
  | _, _, .cons _ t => congrArg (· + 1) (RepUF.length t)
theorem Reps.get : ∀ {ds : List D} {vs : List V} {i : Nat} {d : D}, Reps K mg w ds vs → ds[i]? = some d → ∃ v, vs[i]? = some v ∧ Rep K mg w d v
  | _, _, _, _, .nil, e => by simp at e
  | _, _, 0, _, .cons h _, e => by simp at e; subst e; exact ⟨_, rfl, h⟩
  | _, _, i + 1, _, .cons _ t, e => by
    obtain ⟨v, h1, h2⟩ := Reps.get (i := i) t (by simpa using e)
    exact ⟨v, by simpa using h1, h2⟩
theorem RepUs.get : ∀ {ds : List U} {vs : List V} {i : Nat} {d : U}, RepUs K mg w ds vs → ds[i]? = some d → ∃ v, vs[i]? = some v ∧ RepU K mg w d v
  | _, _, _, _, .nil, e => by simp at e
  | _, _, 0, _, .cons h _, e => by simp at e; subst e; exact ⟨_, rfl, h⟩
  | _, _, i + 1, _, .cons _ t, e => by
    obtain ⟨v, h1, h2⟩ := RepUs.get (i := i) t (by simpa using e)
    exact ⟨v, by simpa using h1, h2⟩
theorem Reps.append : ∀ {ds es : List D} {vs ws : List V}, Reps K mg w ds vs → Reps K mg w es ws → Reps K mg w (ds ++ es) (vs ++ ws)
  | _, _, _, _, .nil, s => s
  | _, _, _, _, .cons h t, s => .cons h (Reps.append t s)
theorem RepUs.append : ∀ {ds es : List U} {vs ws : List V}, RepUs K mg w ds vs → RepUs K mg w es ws → RepUs K mg w (ds ++ es) (vs ++ ws)
  | _, _, _, _, .nil, s => s
  | _, _, _, _, .cons h t, s => .cons h (RepUs.append t s)
theorem Reps.set {d : D} {v : V} (r : Rep K mg w d v) : ∀ {ds : List D} {vs : List V} (i : Nat), Reps K mg w ds vs → Reps K mg w (ds.set i d) (vs.set i v)
  | _, _, _, .nil => .nil
  | _, _, 0, .cons _ t => .cons r t
  | _, _, i + 1, .cons h t => .cons h (Reps.set r i t)
theorem RepUs.set {d : U} {v : V} (r : RepU K mg w d v) : ∀ {ds : List U} {vs : List V} (i : Nat), RepUs K mg w ds vs → RepUs K mg w (ds.set i d) (vs.set i v)
  | _, _, _, .nil => .nil
  | _, _, 0, .cons _ t => .cons r t
  | _, _, i + 1, .cons h t => .cons h (RepUs.set r i t)
theorem Reps.take : ∀ {ds : List D} {vs : List V} (n : Nat), Reps K mg w ds vs → Reps K mg w (ds.take n) (vs.take n)
  | _, _, 0, _ => .nil
  | _, _, _ + 1, .nil => .nil
  | _, _, n + 1, .cons h t => .cons h (Reps.take n t)
theorem Reps.drop : ∀ {ds : List D} {vs : List V} (n : Nat), Reps K mg w ds vs → Reps K mg w (ds.drop n) (vs.drop n)
  | _, _, 0, r => r
  | _, _, _ + 1, .nil => .nil
  | _, _, n + 1, .cons _ t => Reps.drop n t
theorem Reps.us : ∀ {ds : List D} {vs : List V}, Reps K mg w ds vs → RepUs K mg w (ds.map U.d) vs
  | _, _, .nil => .nil
  | _, _, .cons h t => .cons (.d h) (Reps.us t)
theorem CellOk.mono (l : Le w w') {c : Cell} {a : Addr} (h : CellOk K mg w H c a) (e : ∀ o, H a = some o → H' a = some o) : CellOk K mg w' H' c a := by
  cases c with
  | lst ds => obtain ⟨vs, h1, h2⟩ := h; exact ⟨vs, e _ h1, h2.mono l⟩
  | lsu ds => obtain ⟨vs, h1, h2⟩ := h; exact ⟨vs, e _ h1, h2.mono l⟩
  | dct ds => obtain ⟨vs, h1, h2⟩ := h; exact ⟨vs, e _ h1, h2.mono l⟩
  | ins c fs => obtain ⟨C, dx, gs, h0, h1, h2⟩ := h; exact ⟨C, dx, gs, h0, e _ h1, h2.mono l⟩
  | fz x => exact Rep.mono l h
variable {S : Store}
theorem Sto.at (s : Sto K mg w H S) {n : Nat} {c : Cell} (e : S[n]? = some c) : ∃ a, w.ι[n]? = some a ∧ CellOk K mg w H c a := by
  have hn : n < S.length := (List.getElem?_eq_some_iff.mp e).1
  have hi : n < w.ι.length := by rw [s.len]; exact hn
  exact ⟨w.ι[n], by simp [hi], s.ok n c _ e (by simp [hi])⟩
theorem Sto.notin (s : Sto K mg w H S) {p : Addr} (hp : H p = none) : p ∉ w.ι := fun hm => by
  obtain ⟨o, e⟩ := s.has p hm
  rw [hp] at e; cases e
theorem Sto.noC (s : Sto K mg w H S) {p : Addr} (hp : H p = none) : w.C p = none := by
  cases h : w.C p with
  | none => rfl
  | some o => rw [s.cs p o h] at hp; cases hp
/-- a new thing that stays -/
def Wd.put (w : Wd) (p : Addr) (o : HO) : Wd := ⟨w.ι, upd w.C p o⟩
/-- a new thing that may change -/
def Wd.push (w : Wd) (p : Addr) : Wd := ⟨w.ι ++ [p], w.C⟩
theorem Le.put {p : Addr} {o : HO} (hp : w.C p = none) : Le w (w.put p o) := ⟨List.prefix_refl _, fun a u h => by
  show upd w.C p o a = _
  rw [upd_ne (ne_of_none h hp)]; exact h⟩
theorem Le.push {p : Addr} : Le w (w.push p) := ⟨List.prefix_append _ _, fun _ _ h => h⟩
theorem put_at {p : Addr} {o : HO} : (w.put p o).C p = some o := upd_same
/-- a new object that never changes -/
theorem Sto.put (s : Sto K mg w H S) {p : Addr} {o : HO} (hp : H p = none) : Sto K mg (w.put p o) (upd H p o) S := by
  refine ⟨s.len, s.nd, fun a ha => ?_, fun a u h => ?_, fun n c a e el ea => ?_, fun n c a e ea => ?_⟩
  · obtain ⟨u, e⟩ := s.has a ha
    exact ⟨u, by rw [upd_ne (ne_of_none e hp)]; exact e⟩
  · by_cases ha : a = p
    · subst ha
      have h' : upd w.C a o a = some u := h
      rw [upd_same] at h' ⊢; exact h'
    · have h' : upd w.C p o a = some u := h
      rw [upd_ne ha] at h' ⊢
      exact s.cs a u h'
  · have hne : a ≠ p := fun q => s.notin hp (q ▸ List.mem_of_getElem? ea)
    show upd w.C p o a = none
    rw [upd_ne hne]
    exact s.sep n c a e el ea
  · refine (s.ok n c a e ea).mono (Le.put (s.noC hp)) fun u hu => ?_
    rw [upd_ne (ne_of_none hu hp)]; exact hu
/-- a new object, not told of -/
theorem Sto.beside (s : Sto K mg w H S) {p : Addr} {o : HO} (hp : H p = none) : Sto K mg w (upd H p o) S := by
  refine ⟨s.len, s.nd, fun a ha => ?_, fun a u h => ?_, s.sep, fun n c a e ea => ?_⟩
  · obtain ⟨u, e⟩ := s.has a ha
    exact ⟨u, by rw [upd_ne (ne_of_none e hp)]; exact e⟩
  · have h1 := s.cs a u h
    rw [upd_ne (ne_of_none h1 hp)]; exact h1
  · refine (s.ok n c a e ea).mono (Le.refl _) fun u hu => ?_
    rw [upd_ne (ne_of_none hu hp)]; exact hu
/-- a new object of the store -/
theorem Sto.push (s : Sto K mg w H S) {p : Addr} {o : HO} {c : Cell} (hp : H p = none) (h : CellOk K mg (w.push p) (upd H p o) c p) : Sto K mg (w.push p) (upd H p o) (S ++ [c]) := by
  have hold : ∀ {n : Nat} {d : Cell} {a : Addr}, (S ++ [c])[n]? = some d → (w.push p).ι[n]? = some a → (S[n]? = some d ∧ w.ι[n]? = some a) ∨ (d = c ∧ a = p) := by
    intro n d a e ea
    have ea' : (w.ι ++ [p])[n]? = some a := ea
    by_cases hn : n < S.length
    · rw [List.getElem?_append_left hn] at e
      rw [List.getElem?_append_left (by rw [s.len]; exact hn)] at ea'
      exact .inl ⟨e, ea'⟩
    · have hl : n = S.length := by
        have := (List.getElem?_eq_some_iff.mp e).1
        simp at this; omega
      subst hl
      simp at e
      rw [← s.len] at ea'
      simp at ea'
      exact .inr ⟨e.symm, ea'.symm⟩
  refine ⟨by show (w.ι ++ [p]).length = _; simp [s.len], ?_, fun a ha => ?_, fun a u h1 => ?_, fun n d a e el ea => ?_, fun n d a e ea => ?_⟩
  · show (w.ι ++ [p]).Nodup
    rw [List.nodup_append]
    refine ⟨s.nd, by simp, fun x hx y hy => ?_⟩
    have : y = p := by simpa using hy
    subst this
    exact fun e => s.notin hp (e ▸ hx)
  · rcases List.mem_append.mp ha with ha | ha
    · obtain ⟨u, e⟩ := s.has a ha
      exact ⟨u, by rw [upd_ne (ne_of_none e hp)]; exact e⟩
    · have : a = p := by simpa using ha
      subst this
      exact ⟨o, upd_same⟩
  · have h2 := s.cs a u h1
    rw [upd_ne (ne_of_none h2 hp)]; exact h2
  · rcases hold e ea with ⟨e, ea⟩ | ⟨rfl, rfl⟩
    · exact s.sep n d a e el ea
    · exact s.noC hp
  · rcases hold e ea with ⟨e, ea⟩ | ⟨rfl, rfl⟩
    · exact (s.ok n d a e ea).mono Le.push fun u hu => by rw [upd_ne (ne_of_none hu hp)]; exact hu
    · exact h
theorem push_at (s : Sto K mg w H S) {p : Addr} : (w.push p).ι[S.length]? = some p := by
  show (w.ι ++ [p])[S.length]? = _
  rw [← s.len]; simp
theorem nodup_get {l : List Addr} (h : l.Nodup) {i j : Nat} {a : Addr} (e1 : l[i]? = some a) (e2 : l[j]? = some a) : i = j := by
  obtain ⟨h1, q1⟩ := List.getElem?_eq_some_iff.mp e1
  obtain ⟨h2, q2⟩ := List.getElem?_eq_some_iff.mp e2
  exact (List.getElem_inj h).mp (q1.trans q2.symm)
/-- an object of the store is changed -/
theorem Sto.set (s : Sto K mg w H S) {n : Nat} {c c' : Cell} {a : Addr} {o : HO} (e : S[n]? = some c) (el : c.live = true) (ea : w.ι[n]? = some a) (h : CellOk K mg w (upd H a o) c' a) : Sto K mg w (upd H a o) (S.set n c') := by
  have hC := s.sep n c a e el ea
  have hn : n < S.length := (List.getElem?_eq_some_iff.mp e).1
  refine ⟨by rw [List.length_set]; exact s.len, s.nd, fun b hb => ?_, fun b u h1 => ?_, fun m d b em el' eb => ?_, fun m d b em eb => ?_⟩
  · by_cases hab : b = a
    · subst hab; exact ⟨o, upd_same⟩
    · rw [upd_ne hab]; exact s.has b hb
  · have hab : b ≠ a := fun q => by subst q; rw [hC] at h1; cases h1
    rw [upd_ne hab]; exact s.cs b u h1
  · by_cases hm : n = m
    · subst hm
      rw [ea] at eb; cases eb
      exact hC
    · rw [List.getElem?_set_ne hm] at em
      exact s.sep m d b em el' eb
  · by_cases hm : n = m
    · subst hm
      rw [List.getElem?_set_self hn] at em
      cases em
      rw [ea] at eb; cases eb
      exact h
    · rw [List.getElem?_set_ne hm] at em
      have hab : b ≠ a := fun q => hm (nodup_get s.nd ea (q ▸ eb))
      have h1 := s.ok m d b em eb
      cases d with
      | fz x => exact h1
      | _ => exact h1.mono (Le.refl _) fun v hv => by rw [upd_ne hab]; exact hv
end

/-- the slots -/
def EnvOk (K : PySem.W.Frag) (mg : Str → Option Value) (w : Wd) (ρ : Env) (σ : L2.St) : Prop :=
  ρ.length = σ.length ∧ ∀ (i : Nat) (d : U), ρ[i]? = some (some d) → ∃ v, σ[i]? = some (some v) ∧ RepU K mg w d v
section
variable {K : PySem.W.Frag} {mg : Str → Option Value} {w w' : Wd} {ρ : Env} {σ : L2.St}
theorem EnvOk.mono (l : Le w w') (h : EnvOk K mg w ρ σ) : EnvOk K mg w' ρ σ :=
  ⟨h.1, fun i d e => let ⟨v, h1, h2⟩ := h.2 i d e; ⟨v, h1, h2.mono l⟩⟩
theorem EnvOk.set {d : U} {v : V} (h : EnvOk K mg w ρ σ) (r : RepU K mg w d v) (i : Nat) : EnvOk K mg w (ρ.set i (some d)) (σ.set i (some v)) := by
  refine ⟨by simp [h.1], fun j e q => ?_⟩
  by_cases hj : i = j
  · subst hj
    have hl : i < ρ.length := by
      have := (List.getElem?_eq_some_iff.mp q).1
      simpa using this
    rw [List.getElem?_set_self hl] at q
    cases q
    exact ⟨v, by rw [List.getElem?_set_self (by rw [← h.1]; exact hl)], r⟩
  · rw [List.getElem?_set_ne hj] at q
    obtain ⟨w, h1, h2⟩ := h.2 j e q
    exact ⟨w, by rw [List.getElem?_set_ne hj]; exact h1, h2⟩
theorem EnvOk.start {ds : List U} {vs : List V} {n : Nat} (r : RepUs K mg w ds vs) : EnvOk K mg w (ds.map some ++ List.replicate n none) (vs.map some ++ List.replicate n none) := by
  refine ⟨by simp [r.length], fun i d e => ?_⟩
  by_cases hi : i < ds.length
  · rw [List.getElem?_append_left (by simpa using hi), List.getElem?_map] at e
    have hv : i < vs.length := by rw [← r.length]; exact hi
    obtain ⟨v, h1, h2⟩ := r.get (i := i) (d := d) (by
      cases q : ds[i]? with
      | none => rw [q] at e; simp at e
      | some z => rw [q] at e; simp at e; rw [e])
    exact ⟨v, by rw [List.getElem?_append_left (by simpa using hv), List.getElem?_map, h1]; rfl, h2⟩
  · rw [List.getElem?_append_right (by simpa using hi), List.getElem?_replicate] at e
    split at e <;> cases e
end
end Dv
set_option maxRecDepth 100000
set_option maxHeartbeats 1000000
namespace Dv
open PySem PySem.Spec PyProof.Rows L2

/-- how an evaluation ends -/
inductive R (α : Type) where
  | ok (a : α) (S : Store)
  | exc (c : Str) (fs : List (Str × D)) (S : Store)
  | bad
namespace R
def bind {α β : Type} (m : R α) (f : α → Store → R β) : R β := match m with
  | .ok a S => f a S
  | .exc c fs S => .exc c fs S
  | .bad => .bad
@[simp] theorem bind_ok {α β : Type} (a : α) (S : Store) (f : α → Store → R β) : (R.ok a S).bind f = f a S := rfl
@[simp] theorem bind_exc {α β : Type} (c : Str) (fs : List (Str × D)) (S : Store) (f : α → Store → R β) : (R.exc c fs S : R α).bind f = .exc c fs S := rfl
@[simp] theorem bind_bad {α β : Type} (f : α → Store → R β) : (R.bad : R α).bind f = .bad := rfl
end R

section
variable (K : PySem.W.Frag) (mg : Str → Option Value)
/-- a made exception -/
def RepX (w : Wd) (c : Str) (fs : List (Str × D)) (cls : Value) (dd : Option Addr) : Prop :=
  ∃ C d gs, mg c = some (.ref C) ∧ cls = .ref C ∧ dd = some d ∧ w.C d = some (.xd gs) ∧ RepF K mg w fs gs
/-- what is wanted behind an evaluation -/
def Out {α β : Type} (P : Wd → α → β → Prop) (W : WX) (σ : L2.St) (w : Wd) (H : Hp) (r : R α) (Q : β → Hp → Prop) : Prop :=
  match r with
  | .ok d S' => ∀ w' H' v, Le w w' → Sto K mg w' H' S' → P w' d v → Q v H'
  | .exc c fs S' => ∀ w' H' cls dd, Le w w' → Sto K mg w' H' S' → RepX K mg w' c fs cls dd → W cls dd σ H'
  | .bad => False
/-- a denotation as a reading -/
def tG {α β : Type} (P : Wd → α → β → Prop) (W : WX) (g : Env → Store → R α) : L2.St → Hp → (β → Hp → Prop) → Prop := fun σ H Q =>
  ∃ w S ρ, Sto K mg w H S ∧ EnvOk K mg w ρ σ ∧ Out K mg P W σ w H (g ρ S) Q
end
abbrev G := Env → Store → R U
abbrev GD := Env → Store → R D
abbrev GA := Env → Store → R (List U)
abbrev GAD := Env → Store → R (List D)
abbrev GT := Env → Store → R Bool
abbrev tI (K : PySem.W.Frag) (mg : Str → Option Value) (W : WX) (g : G) : TE := tG K mg (RepU K mg) W g
abbrev tID (K : PySem.W.Frag) (mg : Str → Option Value) (W : WX) (g : GD) : TE := tG K mg (Rep K mg) W g
abbrev tIA (K : PySem.W.Frag) (mg : Str → Option Value) (W : WX) (g : GA) : TA := tG K mg (RepUs K mg) W g
abbrev tIAD (K : PySem.W.Frag) (mg : Str → Option Value) (W : WX) (g : GAD) : TA := tG K mg (Reps K mg) W g
abbrev PB : Wd → Bool → Bool → Prop := fun _ b c => b = c
abbrev tIT (K : PySem.W.Frag) (mg : Str → Option Value) (W : WX) (g : GT) : TT := tG K mg PB W g

section
variable {K : PySem.W.Frag} {mg : Str → Option Value} {w w' : Wd} {H H' : Hp} {W : WX} {σ : L2.St} {ρ : Env} {S : Store}
theorem RepX.mono (l : Le w w') {c : Str} {fs : List (Str × D)} {cls : Value} {dd : Option Addr} (h : RepX K mg w c fs cls dd) : RepX K mg w' c fs cls dd := by
  obtain ⟨C, d, gs, h1, h2, h3, h4, h5⟩ := h
  exact ⟨C, d, gs, h1, h2, h3, l.c _ _ h4, h5.mono l⟩
theorem Out.mono {α β : Type} {P : Wd → α → β → Prop} {r : R α} {Q : β → Hp → Prop} (h : Out K mg P W σ w H r Q) (l : Le w w') : Out K mg P W σ w' H' r Q := by
  cases r with
  | ok d S' => exact fun w2 H2 v l2 s2 p2 => h w2 H2 v (l.trans l2) s2 p2
  | exc c fs S' => exact fun w2 H2 cls dd l2 s2 p2 => h w2 H2 cls dd (l.trans l2) s2 p2
  | bad => exact h
theorem Out.imp {α β : Type} {P : Wd → α → β → Prop} {r : R α} {Q Q' : β → Hp → Prop} (h : Out K mg P W σ w H r Q) (hq : ∀ v H', Q v H' → Q' v H') : Out K mg P W σ w H r Q' := by
  cases r with
  | ok d S' => exact fun w2 H2 v l2 s2 p2 => hq _ _ (h w2 H2 v l2 s2 p2)
  | exc c fs S' => exact h
  | bad => exact h
/-- a part is evaluated first -/
theorem tG_then {α α' β β' : Type} {P : Wd → α → β → Prop} {P' : Wd → α' → β' → Prop} {ga : Env → Store → R α} {k : α → Store → R α'} {Q : β' → Hp → Prop} {Q' : β → Hp → Prop}
    (s : Sto K mg w H S) (e : EnvOk K mg w ρ σ) (o : Out K mg P' W σ w H ((ga ρ S).bind k) Q)
    (hQ : ∀ w1 H1 S1 d v, Le w w1 → Sto K mg w1 H1 S1 → P w1 d v → EnvOk K mg w1 ρ σ → Out K mg P' W σ w1 H1 (k d S1) Q → Q' v H1) : tG K mg P W ga σ H Q' := by
  refine ⟨w, S, ρ, s, e, ?_⟩
  cases q : ga ρ S with
  | ok d S1 =>
    rw [q] at o
    exact fun w1 H1 v l1 s1 p1 => hQ w1 H1 S1 d v l1 s1 p1 (e.mono l1) (Out.mono o l1)
  | exc c fs S1 =>
    rw [q] at o
    exact o
  | bad =>
    rw [q] at o
    exact o
end

section
variable {X : Cx} {e : Expr}
theorem PE_imp {t t' : TE} (h : PE X e t) (w : ∀ σ H Q, t' σ H Q → t σ H Q) : PE X e t' := ⟨fun pins s σ H Q I q => h.run pins s σ H Q I (w _ _ _ q)⟩
theorem PT_imp {t t' : TT} (h : PT X e t) (w : ∀ σ H Q, t' σ H Q → t σ H Q) : PT X e t' := ⟨fun pins s σ H Q I q => h.run pins s σ H Q I (w _ _ _ q)⟩
theorem PW_imp {t t' : TT} (h : PW X e t) (w : ∀ σ H Q, t' σ H Q → t σ H Q) : PW X e t' := ⟨fun wh pins s σ H Q I q => h.run wh pins s σ H Q I (w _ _ _ q)⟩
theorem PA_imp {es : List Expr} {t t' : TA} (h : PA X es t) (w : ∀ σ H Q, t' σ H Q → t σ H Q) : PA X es t' := ⟨fun pos pins s σ H Q I q => h.run pos pins s σ H Q I (w _ _ _ q)⟩
theorem PS_imp {st : Stmt} {t t' : TS} (h : PS X st t) (w : ∀ D σ H, t' D σ H → t D σ H) : PS X st t' := ⟨fun pins s σ H D I q => h.run pins s σ H D I (w _ _ _ q)⟩
theorem PSs_imp {st : List Stmt} {t t' : TS} (h : PSs X st t) (w : ∀ D σ H, t' D σ H → t D σ H) : PSs X st t' := ⟨fun pins s σ H D I q => h.run pins s σ H D I (w _ _ _ q)⟩
end

/-! ### looking at a thing; making it one that stays -/
/-- what a value is now, as data -/
def vw (S : Store) : U → Option D
  | .d x => some x
  | .ref n => match S[n]? with
    | some (.lst ds) => some (.lst ds)
    | some (.dct kvs) => some (.dct kvs)
    | some (.fz x) => some x
    | _ => none
/-- from here on it stays as it is -/
def fr (S : Store) : U → Option (D × Store)
  | .d x => some (x, S)
  | .ref n => match S[n]? with
    | some (.lst ds) => some (.lst ds, S.set n (.fz (.lst ds)))
    | some (.fz x) => some (x, S)
    | _ => none
/-- data that can be read at a heap -/
inductive RepH (K : PySem.W.Frag) (mg : Str → Option Value) (w : Wd) (H : Hp) : D → V → Prop
  | of {d : D} {v : V} (h : Rep K mg w d v) : RepH K mg w H d v
  | lst {ds : List D} {a : Addr} {vs : List V} (h : H a = some (.lst vs)) (r : Reps K mg w ds vs) : RepH K mg w H (.lst ds) (.ref a)
  | dct {kvs : List (D × D)} {a : Addr} {ps : List (Key × V)} (h : H a = some (.dK ps)) (r : RepK K mg w kvs ps) : RepH K mg w H (.dct kvs) (.ref a)
section
variable {K : PySem.W.Frag} {mg : Str → Option Value} {w w' : Wd} {H H' : Hp} {S : Store}
theorem vw_ok (s : Sto K mg w H S) {u : U} {v : V} {x : D} (r : RepU K mg w u v) (h : vw S u = some x) : RepH K mg w H x v := by
  cases r with
  | d r => cases h; exact .of r
  | @ref n a ha =>
    have h' : (match S[n]? with
      | some (.lst ds) => some (D.lst ds)
      | some (.dct kvs) => some (.dct kvs)
      | some (.fz x) => some x
      | _ => none) = some x := h
    split at h'
    · rename_i ds e
      cases h'
      obtain ⟨vs, h1, h2⟩ := s.ok n _ a e ha
      exact .lst h1 h2
    · rename_i ds e
      cases h'
      obtain ⟨vs, h1, h2⟩ := s.ok n _ a e ha
      exact .dct h1 h2
    · rename_i x e
      cases h'
      exact .of (s.ok n _ a e ha)
    · cases h'
/-- an object of the store is one that stays from here on -/
theorem Sto.fix (s : Sto K mg w H S) {n : Nat} {c : Cell} {a : Addr} {o : HO} {x : D} (e : S[n]? = some c) (el : c.live = true) (ea : w.ι[n]? = some a) (ho : H a = some o) (h : Rep K mg (w.put a o) x (.ref a)) :
    Le w (w.put a o) ∧ Sto K mg (w.put a o) H (S.set n (.fz x)) := by
  have hC := s.sep n c a e el ea
  have hn : n < S.length := (List.getElem?_eq_some_iff.mp e).1
  have l : Le w (w.put a o) := Le.put hC
  refine ⟨l, by rw [List.length_set]; exact s.len, s.nd, s.has, fun b u h1 => ?_, fun m d b em el' eb => ?_, fun m d b em eb => ?_⟩
  · by_cases hab : b = a
    · subst hab
      have h' : upd w.C b o b = some u := h1
      rw [upd_same] at h'; cases h'
      exact ho
    · have h' : upd w.C a o b = some u := h1
      rw [upd_ne hab] at h'
      exact s.cs b u h'
  · by_cases hm : n = m
    · subst hm
      rw [List.getElem?_set_self hn] at em
      cases em; cases el'
    · rw [List.getElem?_set_ne hm] at em
      have hab : b ≠ a := fun q => hm (nodup_get s.nd ea (q ▸ eb))
      show upd w.C a o b = none
      rw [upd_ne hab]
      exact s.sep m d b em el' eb
  · by_cases hm : n = m
    · subst hm
      rw [List.getElem?_set_self hn] at em
      cases em
      have eb' : w.ι[n]? = some b := eb
      rw [ea] at eb'; cases eb'
      exact h
    · rw [List.getElem?_set_ne hm] at em
      exact (s.ok m d b em eb).mono l fun _ h => h
theorem fr_ok (s : Sto K mg w H S) {u : U} {v : V} {p : D × Store} (r : RepU K mg w u v) (h : fr S u = some p) : ∃ w1, Le w w1 ∧ Sto K mg w1 H p.2 ∧ Rep K mg w1 p.1 v := by
  cases r with
  | d r => cases h; exact ⟨w, Le.refl _, s, r⟩
  | @ref n a ha =>
    have h' : (match S[n]? with
      | some (.lst ds) => some (D.lst ds, S.set n (.fz (.lst ds)))
      | some (.fz x) => some (x, S)
      | _ => none) = some p := h
    split at h'
    · rename_i ds e
      cases h'
      obtain ⟨vs, h1, h2⟩ := s.ok n _ a e ha
      have hC := s.sep n _ a e rfl ha
      have r' : Rep K mg (w.put a (.lst vs)) (.lst ds) (.ref a) := .lst upd_same (h2.mono (Le.put hC))
      obtain ⟨l, s'⟩ := s.fix e rfl ha h1 r'
      exact ⟨_, l, s', r'⟩
    · rename_i x e
      cases h'
      exact ⟨w, Le.refl _, s, s.ok n _ a e ha⟩
    · cases h'
theorem SqF.l (s : Sto K mg w H S) {a : Addr} {xs : List V} (h : SqF K w.C a xs) : SqL K H a xs := by
  rcases h with ⟨o, h⟩ | h
  · exact .inl (.inr ⟨o, s.cs _ _ h⟩)
  · exact .inr h
theorem SqU.t (s : Sto K mg w H S) {a : Addr} {xs : List V} (h : SqU K w.C a xs) : SqT K H a xs := by
  rcases h with h | h
  · exact .inl (.inl (s.cs _ _ h))
  · exact .inr h
theorem RepH.ls (s : Sto K mg w H S) {ds : List D} {v : V} (h : RepH K mg w H (.lst ds) v) : ∃ a vs, v = .ref a ∧ H a = some (.lst vs) ∧ Reps K mg w ds vs := by
  cases h with
  | of h => cases h with
    | lst h r => exact ⟨_, _, rfl, s.cs _ _ h, r⟩
  | lst h r => exact ⟨_, _, rfl, h, r⟩
theorem RepH.sq (s : Sto K mg w H S) {ds : List D} {v : V} (h : RepH K mg w H (.lst ds) v) : ∃ a vs, v = .ref a ∧ SqL K H a vs ∧ Reps K mg w ds vs := by
  obtain ⟨a, vs, h1, h2, h3⟩ := h.ls s
  exact ⟨a, vs, h1, SqL.of h2, h3⟩
theorem RepH.sf (s : Sto K mg w H S) {ds : List D} {v : V} (h : RepH K mg w H (.fl ds) v) : ∃ a vs, v = .ref a ∧ SqL K H a vs ∧ Reps K mg w ds vs := by
  cases h with
  | of h => cases h with
    | fl h r => exact ⟨_, _, rfl, h.l s, r⟩
theorem RepH.tp (s : Sto K mg w H S) {ds : List D} {v : V} (h : RepH K mg w H (.tup ds) v) : ∃ a vs, v = .ref a ∧ SqT K H a vs ∧ Reps K mg w ds vs := by
  cases h with
  | of h => cases h with
    | tup h r => exact ⟨_, _, rfl, h.t s, r⟩
theorem RepH.dc (s : Sto K mg w H S) {ds : List (D × D)} {v : V} (h : RepH K mg w H (.dct ds) v) : ∃ a vs, v = .ref a ∧ Rd H a (.dK vs) ∧ RepK K mg w ds vs := by
  cases h with
  | of h => cases h with
    | dct h r => exact ⟨_, _, rfl, .inr ⟨_, s.cs _ _ h⟩, r⟩
  | dct h r => exact ⟨_, _, rfl, .inl h, r⟩
/-- .. or once the new object is locked -/
def GU (Q : VK) : VK := fun v H => Q v H ∨ ∃ d u, v = .ref d ∧ H d = some u ∧ Mut (some u) ∧ ∀ od, Q v (upd H d (.frz od u))
end

theorem PE_gu {X : Cx} {e : Expr} {t : TE} (h : PE X e t) : PE X e (fun σ H Q => t σ H (GU Q)) := ⟨fun pins s σ H Q I q => thn (h.run pins s σ H _ I q) fun u s1 ⟨v, H1, I1, r, q1⟩ => by
  rcases q1 with q1 | ⟨d, o, rfl, hd, mu, q1⟩
  · exact ⟨v, H1, I1, r, q1⟩
  · obtain ⟨od, I2⟩ := I1.lock hd mu
    exact ⟨.ref d, _, I2, r, q1 od⟩⟩
/-! ### the denotations' parts -/
def gBad : G := fun _ _ => .bad
def gBadT : GT := fun _ _ => .bad
def gC (d : D) : G := fun _ S => .ok (.d d) S
def gV (i : Nat) : G := fun ρ S => match ρ[i]? with
  | some (some d) => .ok d S
  | _ => .bad
def upF (o : Option (D × Store)) : R D := match o with
  | some (x, S) => .ok x S
  | none => .bad
/-- its value, made one that stays -/
def gFr (a : G) : GD := fun ρ S => (a ρ S).bind fun u S1 => upF (fr S1 u)
def gNil : GA := fun _ S => .ok [] S
def gCons (a : G) (r : GA) : GA := fun ρ S => (a ρ S).bind fun x S1 => (r ρ S1).bind fun xs S2 => .ok (x :: xs) S2
def dNil : GAD := fun _ S => .ok [] S
def dCons (a : G) (r : GAD) : GAD := fun ρ S => (a ρ S).bind fun u S1 => (upF (fr S1 u)).bind fun x S2 => (r ρ S2).bind fun xs S3 => .ok (x :: xs) S3
def gIf (t : GT) (a b : G) : G := fun ρ S => (t ρ S).bind fun c S1 => if c = true then a ρ S1 else b ρ S1
def uBl : U → Option Bool
  | .d (.bl b) => some b
  | _ => none
def gAnd (a b : G) : G := fun ρ S => (a ρ S).bind fun x S1 => match uBl x with
  | some true => b ρ S1
  | some false => .ok (.d (.bl false)) S1
  | none => .bad
def gOr (a b : G) : G := fun ρ S => (a ρ S).bind fun x S1 => match uBl x with
  | some true => .ok (.d (.bl true)) S1
  | some false => b ρ S1
  | none => .bad
def gNot (a : G) : G := fun ρ S => (a ρ S).bind fun x S1 => match uBl x with
  | some c => .ok (.d (.bl (!c))) S1
  | none => .bad
def gtAnd (a b : GT) : GT := fun ρ S => (a ρ S).bind fun c S1 => if c = true then b ρ S1 else .ok false S1
def gtOr (a b : GT) : GT := fun ρ S => (a ρ S).bind fun c S1 => if c = true then .ok true S1 else b ρ S1
def gtNot (a : GT) : GT := fun ρ S => (a ρ S).bind fun c S1 => .ok (!c) S1
def gtB (a : G) : GT := fun ρ S => (a ρ S).bind fun x S1 => match uBl x with
  | some c => .ok c S1
  | none => .bad
/-- truth -/
def dTru : D → Option Bool
  | .non => some false
  | .bl b => some b
  | .int i => some (decide (i ≠ 0))
  | .str x => some (decide (x.length ≠ 0))
  | .tup ds => some (!ds.isEmpty)
  | .lst ds => some (!ds.isEmpty)
  | _ => none
def gtTru (a : G) : GT := fun ρ S => (a ρ S).bind fun x S1 => match (vw S1 x).bind dTru with
  | some c => .ok c S1
  | none => .bad
section
variable {X : Cx} {W : WX} {e a b c : Expr} {es : List Expr} {ga gb gc : G} {gr : GA} {gd : GAD} {ta tb : GT} {pos : Pos}
theorem E_bad : PE X e (tI X.K X.mg W gBad) := ⟨fun _ _ _ _ _ _ ⟨_, _, _, _, _, o⟩ => o.elim⟩
theorem T_bad : PT X e (tIT X.K X.mg W gBadT) := ⟨fun _ _ _ _ _ _ ⟨_, _, _, _, _, o⟩ => o.elim⟩
theorem E_const {v : V} {d : D} (h : PE X e (tC v)) (r : ∀ w, Rep X.K X.mg w d v) : PE X e (tI X.K X.mg W (gC d)) :=
  PE_imp h fun σ H Q ⟨w, S, ρ, s, _, o⟩ => o w H v (Le.refl _) s (.d (r w))
theorem E_var {i : Nat} (h : PE X e (tVar i)) : PE X e (tI X.K X.mg W (gV i)) := PE_imp h fun σ H Q ⟨w, S, ρ, s, en, o⟩ => by
  cases q : ρ[i]? with
  | none => simp [gV, q, Out] at o
  | some z =>
    cases z with
    | none => simp [gV, q, Out] at o
    | some d =>
      have o' : Out X.K X.mg (RepU X.K X.mg) W σ w H (.ok d S) Q := by
        have e : gV i ρ S = .ok d S := by simp [gV, q]
        rw [← e]; exact o
      obtain ⟨v, h1, h2⟩ := en.2 i d q
      exact ⟨v, h1, o' w H v (Le.refl _) s h2⟩
theorem upF_out {W : WX} {σ : L2.St} {w : Wd} {H : Hp} {S : Store} {u : U} {v : V} {Q : V → Hp → Prop} (s : Sto X.K X.mg w H S) (r : RepU X.K X.mg w u v) (o : Out X.K X.mg (Rep X.K X.mg) W σ w H (upF (fr S u)) Q) : Q v H := by
  cases q : fr S u with
  | none => rw [q] at o; exact o.elim
  | some p =>
    rw [q] at o
    obtain ⟨w1, l, s1, r1⟩ := fr_ok s r q
    exact o w1 H v l s1 r1
theorem E_fr (h : PE X e (tI X.K X.mg W ga)) : PE X e (tID X.K X.mg W (gFr ga)) := PE_imp h fun σ H Q ⟨w, S, ρ, s, en, o⟩ => tG_then s en o fun w1 H1 S1 d v l1 s1 p1 en1 o1 => upF_out s1 p1 o1
theorem E_if {t : GT} (hc : PT X c (tIT X.K X.mg W t)) (ha : PE X a (tI X.K X.mg W ga)) (hb : PE X b (tI X.K X.mg W gb)) : PE X (.IfExp c a b pos) (tI X.K X.mg W (gIf t ga gb)) :=
  PE_imp (pe_ifExp hc ha hb) fun σ H Q ⟨w, S, ρ, s, en, o⟩ => tG_then s en o fun w1 H1 S1 d v l1 s1 p1 en1 o1 => by
    have e : d = v := p1
    subst e
    cases d with
    | true => exact iteT ⟨w1, S1, ρ, s1, en1, o1⟩
    | false => exact iteF ⟨w1, S1, ρ, s1, en1, o1⟩
theorem E_one {op} (h : PE X a (tI X.K X.mg W ga)) : PE X (.BoolOp op [a] pos) (tI X.K X.mg W ga) := pe_one h
theorem rep_bl {K : PySem.W.Frag} {mg : Str → Option Value} {w : Wd} {c : Bool} {u : U} {v : V} (q : uBl u = some c) (h : RepU K mg w u v) : v = .bl c := by
  cases h with
  | d h =>
    rename_i x
    cases x <;> first | (cases q; cases h; rfl) | cases q
  | ref h => cases q
theorem E_and {rest : List Expr} (ha : PE X a (tI X.K X.mg W ga)) (hb : PE X (.BoolOp .And (b :: rest) pos) (tI X.K X.mg W gb)) : PE X (.BoolOp .And (a :: b :: rest) pos) (tI X.K X.mg W (gAnd ga gb)) :=
  PE_imp (pe_and ha hb) fun σ H Q ⟨w, S, ρ, s, en, o⟩ => tG_then s en o fun w1 H1 S1 d v l1 s1 p1 en1 o1 => by
    cases q : uBl d with
    | none => rw [q] at o1; exact o1.elim
    | some k =>
      rw [q] at o1
      refine ⟨k, rep_bl q p1, ?_⟩
      cases k with
      | true => exact iteT ⟨w1, S1, ρ, s1, en1, o1⟩
      | false => exact iteF (o1 w1 H1 _ (Le.refl _) s1 (.d (.bl false)))
theorem E_or {rest : List Expr} (ha : PE X a (tI X.K X.mg W ga)) (hb : PE X (.BoolOp .Or (b :: rest) pos) (tI X.K X.mg W gb)) : PE X (.BoolOp .Or (a :: b :: rest) pos) (tI X.K X.mg W (gOr ga gb)) :=
  PE_imp (pe_or ha hb) fun σ H Q ⟨w, S, ρ, s, en, o⟩ => tG_then s en o fun w1 H1 S1 d v l1 s1 p1 en1 o1 => by
    cases q : uBl d with
    | none => rw [q] at o1; exact o1.elim
    | some k =>
      rw [q] at o1
      refine ⟨k, rep_bl q p1, ?_⟩
      cases k with
      | true => exact iteT (o1 w1 H1 _ (Le.refl _) s1 (.d (.bl true)))
      | false => exact iteF ⟨w1, S1, ρ, s1, en1, o1⟩
theorem E_not (ha : PE X a (tI X.K X.mg W ga)) : PE X (.UnaryOp .Not a pos) (tI X.K X.mg W (gNot ga)) :=
  PE_imp (pe_not ha) fun σ H Q ⟨w, S, ρ, s, en, o⟩ => tG_then s en o fun w1 H1 S1 d v l1 s1 p1 en1 o1 => by
    cases q : uBl d with
    | none => rw [q] at o1; exact o1.elim
    | some k =>
      rw [q] at o1
      exact ⟨k, rep_bl q p1, o1 w1 H1 _ (Le.refl _) s1 (.d (.bl _))⟩
/-! tests -/
theorem T_val (ha : PE X a (tI X.K X.mg W ga)) (he : ∀ whole, isTrue a X.env whole = (do let v ← whole; standAt a.pos; holding [v] (truthy v))) : PT X a (tIT X.K X.mg W (gtB ga)) :=
  PT_imp (pt_val ha he) fun σ H Q ⟨w, S, ρ, s, en, o⟩ => tG_then s en o fun w1 H1 S1 d v l1 s1 p1 en1 o1 => by
    cases q : uBl d with
    | none => rw [q] at o1; exact o1.elim
    | some k =>
      rw [q] at o1
      exact ⟨k, rep_bl q p1, o1 w1 H1 _ (Le.refl _) s1 rfl⟩
theorem tru_V {w : Wd} {H : Hp} {S : Store} {x : D} {v : V} {k : Bool} (s1 : Sto X.K X.mg w H S) (r : RepH X.K X.mg w H x v) (qt : dTru x = some k) : TruV X.K v H k := by
  cases x with
  | non => cases qt; cases r with | of r => cases r; rfl
  | bl c => cases qt; cases r with | of r => cases r; rfl
  | int i =>
    cases qt
    cases r with
    | of r =>
      cases r
      show decide (i ≠ 0) = (i != 0)
      by_cases h : i = 0 <;> simp [h]
  | str z =>
    cases r with
    | of r =>
      cases r with
      | str _ _ hl =>
        cases qt
        refine ⟨hl, ?_⟩
        by_cases h : z.length = 0 <;> simp [h]
  | tup ds =>
    cases qt
    obtain ⟨p, vs, rfl, h, r⟩ := r.tp s1
    refine .inr (.inl ⟨vs, h, ?_⟩)
    have := r.length
    cases ds <;> cases vs <;> first | rfl | simp at this
  | lst ds =>
    cases qt
    obtain ⟨p, vs, rfl, h, r⟩ := r.sq s1
    refine .inl ⟨vs, h, ?_⟩
    have := r.length
    cases ds <;> cases vs <;> first | rfl | simp at this
  | dct kvs => cases qt
  | ins c fs => cases qt
  | ty t => cases qt
  | gl x => cases qt
  | fl x => cases qt
theorem T_truth (ha : PE X a (tI X.K X.mg W ga)) (he : ∀ whole, isTrue a X.env whole = (do let v ← whole; standAt a.pos; holding [v] (truthy v))) : PT X a (tIT X.K X.mg W (gtTru ga)) :=
  PT_imp (pt_truth ha he) fun σ H Q ⟨w, S, ρ, s, en, o⟩ => tG_then s en o fun w1 H1 S1 d v l1 s1 p1 en1 o1 => by
    cases q : (vw S1 d).bind dTru with
    | none => rw [q] at o1; exact o1.elim
    | some k =>
      rw [q] at o1
      obtain ⟨x, qx, qt⟩ := Option.bind_eq_some_iff.mp q
      exact ⟨k, tru_V s1 (vw_ok s1 p1 qx) qt, o1 w1 H1 k (Le.refl _) s1 rfl⟩
theorem W_and1 (ha : PT X a (tIT X.K X.mg W ta)) : PW X (.BoolOp .And [a] pos) (tIT X.K X.mg W ta) := pw_and1 ha
theorem W_or1 (ha : PT X a (tIT X.K X.mg W ta)) : PW X (.BoolOp .Or [a] pos) (tIT X.K X.mg W ta) := pw_or1 ha
theorem W_and {rest : List Expr} (ha : PT X a (tIT X.K X.mg W ta)) (hb : PW X (.BoolOp .And (b :: rest) pos) (tIT X.K X.mg W tb)) : PW X (.BoolOp .And (a :: b :: rest) pos) (tIT X.K X.mg W (gtAnd ta tb)) :=
  PW_imp (pw_and ha hb) fun σ H Q ⟨w, S, ρ, s, en, o⟩ => tG_then s en o fun w1 H1 S1 d v l1 s1 p1 en1 o1 => by
    have e : d = v := p1
    subst e
    cases d with
    | true => exact iteT ⟨w1, S1, ρ, s1, en1, o1⟩
    | false => exact iteF (o1 w1 H1 _ (Le.refl _) s1 rfl)
theorem W_or {rest : List Expr} (ha : PT X a (tIT X.K X.mg W ta)) (hb : PW X (.BoolOp .Or (b :: rest) pos) (tIT X.K X.mg W tb)) : PW X (.BoolOp .Or (a :: b :: rest) pos) (tIT X.K X.mg W (gtOr ta tb)) :=
  PW_imp (pw_or ha hb) fun σ H Q ⟨w, S, ρ, s, en, o⟩ => tG_then s en o fun w1 H1 S1 d v l1 s1 p1 en1 o1 => by
    have e : d = v := p1
    subst e
    cases d with
    | true => exact iteT (o1 w1 H1 _ (Le.refl _) s1 rfl)
    | false => exact iteF ⟨w1, S1, ρ, s1, en1, o1⟩
theorem T_not (ha : PT X a (tIT X.K X.mg W ta)) : PT X (.UnaryOp .Not a pos) (tIT X.K X.mg W (gtNot ta)) :=
  PT_imp (pt_not ha) fun σ H Q ⟨w, S, ρ, s, en, o⟩ => tG_then s en o fun w1 H1 S1 d v l1 s1 p1 en1 o1 => by
    have e : d = v := p1
    subst e
    exact o1 w1 H1 _ (Le.refl _) s1 rfl
/-! arguments -/
theorem A_nil : PA X [] (tIA X.K X.mg W gNil) := PA_imp pa_nil fun σ H Q ⟨w, S, ρ, s, en, o⟩ => o w H [] (Le.refl _) s .nil
theorem A_cons (ha : PE X e (tI X.K X.mg W ga)) (hr : PA X es (tIA X.K X.mg W gr)) (hs : starEach (e :: es) X.env = (false, eval e X.env) :: starEach es X.env) : PA X (e :: es) (tIA X.K X.mg W (gCons ga gr)) :=
  PA_imp (pa_cons ha hr hs) fun σ H Q ⟨w, S, ρ, s, en, o⟩ => tG_then s en o fun w1 H1 S1 d v l1 s1 p1 en1 o1 => tG_then (P := RepUs X.K X.mg) s1 en1 o1 fun w2 H2 S2 ds vs l2 s2 p2 en2 o2 =>
    o2 w2 H2 _ (Le.refl _) s2 (.cons (p1.mono l2) p2)
theorem AD_nil : PA X [] (tIAD X.K X.mg W dNil) := PA_imp pa_nil fun σ H Q ⟨w, S, ρ, s, en, o⟩ => o w H [] (Le.refl _) s .nil
theorem AD_cons (ha : PE X e (tI X.K X.mg W ga)) (hr : PA X es (tIAD X.K X.mg W gd)) (hs : starEach (e :: es) X.env = (false, eval e X.env) :: starEach es X.env) : PA X (e :: es) (tIAD X.K X.mg W (dCons ga gd)) :=
  PA_imp (pa_cons ha hr hs) fun σ H Q ⟨w, S, ρ, s, en, o⟩ => tG_then s en o fun w1 H1 S1 d v l1 s1 p1 en1 o1 => by
    cases q : fr S1 d with
    | none => rw [q] at o1; exact o1.elim
    | some p =>
      rw [q] at o1
      obtain ⟨w2, l2, s2, r2⟩ := fr_ok s1 p1 q
      refine tG_then (P := Reps X.K X.mg) (k := fun xs S3 => R.ok (p.1 :: xs) S3) s2 (en1.mono l2) (Out.mono o1 l2) fun w3 H3 S3 ds vs l3 s3 p3 en3 o3 => ?_
      exact o3 w3 H3 _ (Le.refl _) s3 (.cons (r2.mono l3) p3)
theorem star1 (e : Expr) (es : List Expr) (env : PySem.Env) (h : (match e with | .Starred _ _ => false | _ => true) = true) : starEach (e :: es) env = (false, eval e env) :: starEach es env := by
  cases e <;> first | rfl | cases h
end

/-! ### what an operation makes -/
/-- a new list or dict: one that may change (mu), or data -/
def mkU (mu : Bool) (z : D) (S : Store) : U × Store := match mu, z with
  | true, .lst ds => (.ref S.length, S ++ [.lst ds])
  | true, .dct kvs => (.ref S.length, S ++ [.dct kvs])
  | _, z => (.d z, S)
abbrev F1 := D → Option D
abbrev F2 := D → D → Option D
abbrev FA := List D → Option D
def up (mu : Bool) (S : Store) (o : Option D) : R U := match o with
  | some z => .ok (mkU mu z S).1 (mkU mu z S).2
  | none => .bad
def vws (S : Store) (us : List U) : Option (List D) := us.mapM (vw S)
def f1 (f : F1) (S : Store) (a : U) : Option D := (vw S a).bind f
def f2 (f : F2) (S : Store) (a b : U) : Option D := (vw S a).bind fun x => (vw S b).bind fun y => f x y
def fA (f : FA) (S : Store) (as : List U) : Option D := (vws S as).bind f
def gO1 (mu : Bool) (f : F1) (a : G) : G := fun ρ S => (a ρ S).bind fun x S1 => up mu S1 (f1 f S1 x)
def gO2 (mu : Bool) (f : F2) (a b : G) : G := fun ρ S => (a ρ S).bind fun x S1 => (b ρ S1).bind fun y S2 => up mu S2 (f2 f S2 x y)
def gOA (mu : Bool) (f : FA) (a : GA) : G := fun ρ S => (a ρ S).bind fun xs S1 => up mu S1 (fA f S1 xs)
/-- a < b < c -/
def gChain (f f' : F2) (a b c : G) : G := fun ρ S => (a ρ S).bind fun x S1 => (b ρ S1).bind fun y S2 => match f2 f S2 x y with
  | some (.bl true) => (c ρ S2).bind fun w S4 => up false S4 (f2 f' S4 y w)
  | some (.bl false) => .ok (.d (.bl false)) S2
  | _ => .bad
section
variable (K : PySem.W.Frag) (mg : Str → Option Value)
def Kont (w : Wd) (H : Hp) (z : U) (S' : Store) (Q : VK) : Prop := ∀ w' H' v, Le w w' → Sto K mg w' H' S' → RepU K mg w' z v → Q v H'
/-- what an operation is to give: z, made anew if it is a list or a dict -/
def KontM (w : Wd) (H : Hp) (S : Store) (z : D) (Q : VK) : Prop := ∃ mu, Kont K mg w H (mkU mu z S).1 (mkU mu z S).2 Q
def r1 (f : F1) : V → Hp → VK → Prop := fun x H Q => ∃ w S d z, Sto K mg w H S ∧ RepH K mg w H d x ∧ f d = some z ∧ KontM K mg w H S z Q
def r2 (f : F2) : R2 := fun x y H Q => ∃ w S d e z, Sto K mg w H S ∧ RepH K mg w H d x ∧ RepH K mg w H e y ∧ f d e = some z ∧ KontM K mg w H S z Q
inductive RepHs (w : Wd) (H : Hp) : List D → List V → Prop
  | nil : RepHs w H [] []
  | cons {d : D} {v : V} {ds : List D} {vs : List V} (h : RepH K mg w H d v) (t : RepHs w H ds vs) : RepHs w H (d :: ds) (v :: vs)
def rA (f : FA) : List V → Hp → VK → Prop := fun xs H Q => ∃ w S ds z, Sto K mg w H S ∧ RepHs K mg w H ds xs ∧ f ds = some z ∧ KontM K mg w H S z Q
end
section
variable {K : PySem.W.Frag} {mg : Str → Option Value} {w : Wd} {H : Hp} {S S' : Store} {W : WX} {σ : L2.St} {z : D} {Q : VK} {o : Option D}
theorem vws_ok (s : Sto K mg w H S) : ∀ {us : List U} {vs : List V} {ds : List D}, RepUs K mg w us vs → vws S us = some ds → RepHs K mg w H ds vs
  | [], _, ds, .nil, h => by
    have : some ([] : List D) = some ds := h
    cases this; exact .nil
  | u :: us, _, ds, .cons r t, h => by
    have h' : (u :: us).mapM (vw S) = some ds := h
    rw [List.mapM_cons] at h'
    cases e : vw S u with
    | none => rw [e] at h'; cases h'
    | some y =>
      rw [e] at h'
      cases e2 : us.mapM (vw S) with
      | none => rw [e2] at h'; cases h'
      | some zs =>
        rw [e2] at h'
        have : some (y :: zs) = some ds := h'
        cases this
        exact .cons (vw_ok s r e) (vws_ok s t e2)
theorem up_out {mu : Bool} (h : Out K mg (RepU K mg) W σ w H (up mu S o) Q) : ∃ z, o = some z ∧ KontM K mg w H S z Q := by
  cases o with
  | none => exact h.elim
  | some p => exact ⟨p, rfl, mu, h⟩
theorem Kont.here {u : U} {v : V} (k : Kont K mg w H u S Q) (s : Sto K mg w H S) (r : RepU K mg w u v) : Q v H := k w H v (Le.refl _) s r
def notBox : D → Bool
  | .lst _ => false
  | .dct _ => false
  | _ => true
theorem mk_plain {mu : Bool} (h : notBox z = true) : mkU mu z S = (.d z, S) := by
  cases z <;> cases mu <;> first | rfl | cases h
theorem KontM.here {v : V} (k : KontM K mg w H S z Q) (s : Sto K mg w H S) (r : Rep K mg w z v) (h : notBox z = true := by rfl) : Q v H := by
  obtain ⟨mu, k⟩ := k
  rw [mk_plain h] at k
  exact k.here s (.d r)
theorem KontM.lst {ds : List D} {vs : List V} (k : KontM K mg w H S (.lst ds) Q) (s : Sto K mg w H S) (r : Reps K mg w ds vs) : ∀ p, H p = none → Q (.ref p) (upd H p (.lst vs)) := fun p hp => by
  obtain ⟨mu, k⟩ := k
  cases mu with
  | true => exact k _ _ _ Le.push (s.push (c := .lst ds) hp ⟨vs, upd_same, r.mono Le.push⟩) (.ref (push_at s))
  | false =>
    have l : Le w (w.put p (.lst vs)) := Le.put (s.noC hp)
    exact k _ _ _ l (s.put hp) (.d (.lst put_at (r.mono l)))
theorem KontM.dct {ds : List (D × D)} {vs : List (Key × V)} (k : KontM K mg w H S (.dct ds) Q) (s : Sto K mg w H S) (r : RepK K mg w ds vs) : ∀ p, H p = none → GU Q (.ref p) (upd H p (.dK vs)) := fun p hp => by
  obtain ⟨mu, k⟩ := k
  cases mu with
  | true => exact .inl (k _ _ _ Le.push (s.push (c := .dct ds) hp ⟨vs, upd_same, r.mono Le.push⟩) (.ref (push_at s)))
  | false =>
    refine .inr ⟨p, _, rfl, upd_same, trivial, fun od => ?_⟩
    rw [upd_upd]
    have l : Le w (w.put p (.frz od (.dK vs))) := Le.put (s.noC hp)
    exact k _ _ _ l (s.put hp) (.d (.dct put_at (r.mono l)))
theorem KontM.tup {ds : List D} {vs : List V} (k : KontM K mg w H S (.tup ds) Q) (s : Sto K mg w H S) (r : Reps K mg w ds vs) : ∀ p, H p = none → Q (.ref p) (upd H p (.tup vs)) := fun p hp => by
  obtain ⟨mu, k⟩ := k
  rw [mk_plain rfl] at k
  have l : Le w (w.put p (.tup vs)) := Le.put (s.noC hp)
  exact k _ _ _ l (s.put hp) (.d (.tup (.inl put_at) (r.mono l)))
end
section
variable {X : Cx} {W : WX} {e a b c : Expr} {es : List Expr} {ga gb gc : G} {gr : GA} {pos : Pos} {mu : Bool}
theorem R_1 {f : F1} {σ : L2.St} {H : Hp} {Q : VK} (h : tI X.K X.mg W (gO1 mu f ga) σ H Q) : tI X.K X.mg W ga σ H fun x H1 => r1 X.K X.mg f x H1 Q := by
  obtain ⟨w, S, ρ, s, en, o⟩ := h
  refine tG_then s en o fun w1 H1 S1 d v l1 s1 p1 en1 o1 => ?_
  obtain ⟨z, hz, k⟩ := up_out o1
  obtain ⟨x, hx, hf⟩ := Option.bind_eq_some_iff.mp hz
  exact ⟨w1, S1, x, z, s1, vw_ok s1 p1 hx, hf, k⟩
theorem R_2 {f : F2} {σ : L2.St} {H : Hp} {Q : VK} (h : tI X.K X.mg W (gO2 mu f ga gb) σ H Q) : tI X.K X.mg W ga σ H fun x H1 => tI X.K X.mg W gb σ H1 fun y H2 => r2 X.K X.mg f x y H2 Q := by
  obtain ⟨w, S, ρ, s, en, o⟩ := h
  refine tG_then s en o fun w1 H1 S1 d v l1 s1 p1 en1 o1 => tG_then s1 en1 o1 fun w2 H2 S2 e w l2 s2 p2 en2 o2 => ?_
  obtain ⟨z, hz, k⟩ := up_out o2
  obtain ⟨x, hx, hf⟩ := Option.bind_eq_some_iff.mp hz
  obtain ⟨y, hy, hf⟩ := Option.bind_eq_some_iff.mp hf
  exact ⟨w2, S2, x, y, z, s2, vw_ok s2 (p1.mono l2) hx, vw_ok s2 p2 hy, hf, k⟩
theorem R_A {f : FA} {σ : L2.St} {H : Hp} {Q : VK} (h : tI X.K X.mg W (gOA mu f gr) σ H Q) : tIA X.K X.mg W gr σ H fun xs H1 => rA X.K X.mg f xs H1 Q := by
  obtain ⟨w, S, ρ, s, en, o⟩ := h
  refine tG_then (P := RepUs X.K X.mg) s en o fun w1 H1 S1 d v l1 s1 p1 en1 o1 => ?_
  obtain ⟨z, hz, k⟩ := up_out o1
  obtain ⟨x, hx, hf⟩ := Option.bind_eq_some_iff.mp hz
  exact ⟨w1, S1, x, z, s1, vws_ok s1 p1 hx, hf, k⟩
theorem E_op {op : Operator} {f : F2} (ho : OpR X (binaryOp op) (r2 X.K X.mg f)) (ha : PE X a (tI X.K X.mg W ga)) (hb : PE X b (tI X.K X.mg W gb)) : PE X (.BinOp a op b pos) (tI X.K X.mg W (gO2 mu f ga gb)) := PE_imp (pe_op ho ha hb) fun _ _ _ => R_2
theorem E_cmp {op : CmpOp} {f : F2} (ho : OpR X (compareOp op) (r2 X.K X.mg f)) (ha : PE X a (tI X.K X.mg W ga)) (hb : PE X b (tI X.K X.mg W gb)) (hm : behindInMarks op b = false) : PE X (.Compare a [op] [b] pos) (tI X.K X.mg W (gO2 mu f ga gb)) := PE_imp (pe_cmpR ho ha hb hm) fun _ _ _ => R_2
theorem gtB_read {g : G} {σ : L2.St} {H : Hp} {Q : Bool → Hp → Prop} : tIT X.K X.mg W (gtB g) σ H Q → tI X.K X.mg W g σ H fun x H' => ∃ k, x = .bl k ∧ Q k H' := fun ⟨w, S, ρ, s, en, o⟩ => tG_then s en o fun w1 H1 S1 d v l1 s1 p1 en1 o1 => by
  cases q : uBl d with
  | none => rw [q] at o1; exact o1.elim
  | some k =>
    rw [q] at o1
    exact ⟨k, rep_bl q p1, o1 w1 H1 _ (Le.refl _) s1 rfl⟩
theorem T_cmp {op : CmpOp} {f : F2} (ho : OpR X (compareOp op) (r2 X.K X.mg f)) (ha : PE X a (tI X.K X.mg W ga)) (hb : PE X b (tI X.K X.mg W gb)) (hm : behindInMarks op b = false) : PT X (.Compare a [op] [b] pos) (tIT X.K X.mg W (gtB (gO2 mu f ga gb))) :=
  PT_imp (pt_cmpR ho ha hb hm) fun σ H Q h => R_2 (gtB_read h)
theorem chain_read {f f' : F2} {ga gb gc : G} {σ : L2.St} {H : Hp} {Q : VK} : tI X.K X.mg W (gChain f f' ga gb gc) σ H Q → tChain (r2 X.K X.mg f) (r2 X.K X.mg f') (tI X.K X.mg W ga) (tI X.K X.mg W gb) (tI X.K X.mg W gc) σ H Q :=
  fun ⟨w, S, ρ, s, en, o⟩ => tG_then s en o fun w1 H1 S1 d v l1 s1 p1 en1 o1 => tG_then s1 en1 o1 fun w2 H2 S2 e w l2 s2 p2 en2 o2 => by
    cases hz : f2 f S2 d e with
    | none => rw [hz] at o2; exact o2.elim
    | some z =>
      rw [hz] at o2
      obtain ⟨x, hx, hf⟩ := Option.bind_eq_some_iff.mp hz
      obtain ⟨y, hy, hf⟩ := Option.bind_eq_some_iff.mp hf
      cases z with
      | bl k =>
        refine ⟨w2, S2, x, y, .bl k, s2, vw_ok s2 (p1.mono l2) hx, vw_ok s2 p2 hy, hf, false, fun w3 H3 v3 l3 s3 p3 => ?_⟩
        cases p3 with
        | d p3 =>
          cases p3
          refine ⟨k, rfl, ?_⟩
          cases k with
          | false => exact iteF (o2 w3 H3 _ l3 s3 (.d (.bl false)))
          | true =>
            refine iteT (tG_then s3 (en2.mono l3) (o2.mono l3) fun w4 H4 S4 u v4 l4 s4 p4 en4 o4 => ?_)
            obtain ⟨z', hz', k'⟩ := up_out o4
            obtain ⟨x', hx', hf'⟩ := Option.bind_eq_some_iff.mp hz'
            obtain ⟨y', hy', hf'⟩ := Option.bind_eq_some_iff.mp hf'
            exact ⟨w4, S4, x', y', z', s4, vw_ok s4 ((p2.mono l3).mono l4) hx', vw_ok s4 p4 hy', hf', k'⟩
      | _ => exact o2.elim
theorem E_chain {op op' : CmpOp} {f f' : F2} (ho : OpR X (compareOp op) (r2 X.K X.mg f)) (ho' : OpR X (compareOp op') (r2 X.K X.mg f')) (ha : PE X a (tI X.K X.mg W ga)) (hb : PE X b (tI X.K X.mg W gb)) (hc : PE X c (tI X.K X.mg W gc)) (hm : lastMarks [op, op'] [b, c] = false) :
    PE X (.Compare a [op, op'] [b, c] pos) (tI X.K X.mg W (gChain f f' ga gb gc)) := PE_imp (pe_chain ho ho' ha hb hc hm) fun σ H Q => chain_read
theorem T_chain {op op' : CmpOp} {f f' : F2} (ho : OpR X (compareOp op) (r2 X.K X.mg f)) (ho' : OpR X (compareOp op') (r2 X.K X.mg f')) (ha : PE X a (tI X.K X.mg W ga)) (hb : PE X b (tI X.K X.mg W gb)) (hc : PE X c (tI X.K X.mg W gc)) (hm : lastMarks [op, op'] [b, c] = false) :
    PT X (.Compare a [op, op'] [b, c] pos) (tIT X.K X.mg W (gtB (gChain f f' ga gb gc))) := PT_imp (pt_chain ho ho' ha hb hc hm) fun σ H Q h => chain_read (gtB_read h)
end
end Dv
set_option maxRecDepth 100000
set_option maxHeartbeats 1000000
namespace Dv
open PySem PySem.Spec PyProof.Rows L2

section
variable {K : PySem.W.Frag} {mg : Str → Option Value} {w : Wd} {H : Hp}
theorem RepH.int {i : Int} {v : V} (h : RepH K mg w H (.int i) v) : v = .int i := by cases h with | of h => cases h; rfl
theorem RepH.bl {i : Bool} {v : V} (h : RepH K mg w H (.bl i) v) : v = .bl i := by cases h with | of h => cases h; rfl
theorem RepH.non {v : V} (h : RepH K mg w H .non v) : v = .non := by cases h with | of h => cases h; rfl
theorem RepH.str {x : Str} {v : V} (h : RepH K mg w H (.str x) v) : v = .str x ∧ PyData.strOk x = true ∧ x.length ≤ sizeLine := by cases h with | of h => cases h with | str _ h hl => exact ⟨rfl, h, hl⟩
theorem RepH.rep {d : D} {v : V} (h : RepH K mg w H d v) (n : notBox d = true) : Rep K mg w d v := by
  cases h with
  | of h => exact h
  | lst _ _ => cases n
  | dct _ _ => cases n
end
/-! ### texts stay texts -/
theorem strOk_iff {x : Str} : PyData.strOk x = true ↔ ∀ c ∈ x.cps, c < 0x110000 := by
  unfold PyData.strOk
  rw [Array.all_eq_true_iff_forall_mem]
  simp
theorem strOk_add {x y : Str} (h : PyData.strOk x = true) (k : PyData.strOk y = true) : PyData.strOk (x ++ y) = true := by
  rw [strOk_iff] at *
  intro c hc
  have hc' : c ∈ x.cps ++ y.cps := hc
  rcases Array.mem_append.mp hc' with q | q
  · exact h c q
  · exact k c q
theorem strOk_mul {x : Str} {n : Int} (h : PyData.strOk x = true) : PyData.strOk (Txt.mul x n) = true := by
  unfold Txt.mul
  split
  · decide +kernel
  · split
    · exact h
    · rw [strOk_iff] at *
      have aux : ∀ (m : Nat) (acc : Array Nat), (∀ c ∈ acc, c < 0x110000) → ∀ c ∈ (List.replicate m x.cps).foldl (· ++ ·) acc, c < 0x110000 := by
        intro m
        induction m with
        | zero => intro acc ha c hc; exact ha c hc
        | succ m ih =>
          intro acc ha c hc
          rw [List.replicate_succ, List.foldl_cons] at hc
          refine ih _ (fun c hc => ?_) c hc
          rcases Array.mem_append.mp hc with q | q
          · exact ha c q
          · exact h c q
      exact aux _ #[] (fun c hc => by simp at hc)
theorem strOk_one {x : Str} {c : Nat} (h : PyData.strOk x = true) (hc : c ∈ x.cps) : PyData.strOk ⟨#[c]⟩ = true := by
  rw [strOk_iff] at *
  intro d hd
  have : d = c := by simpa using hd
  subst this
  exact h _ hc

/-! ### operators -/
def oAdd : F2
  | .int i, .int j => some (.int (i + j))
  | .str x, .str y => if x.length + y.length ≤ sizeLine then some (.str (x ++ y)) else none
  | .tup a, .tup b => if a.length + b.length ≤ sizeLine ∧ a ≠ [] then some (.tup (a ++ b)) else none
  | .lst a, .lst b => if a.length + b.length ≤ sizeLine then some (.lst (a ++ b)) else none
  | _, _ => none
def oSub : F2
  | .int i, .int j => some (.int (i - j))
  | _, _ => none
def oMul : F2
  | .int i, .int j => if i.natAbs.log2 + j.natAbs.log2 < 1000000 then some (.int (i * j)) else none
  | .str x, .int n => if 0 ≤ n ∧ n < 1000 ∧ x.length < 1000 then some (.str (Txt.mul x n)) else none
  | .lst a, .int n => if 0 ≤ n ∧ n < 1000000 ∧ a.length * n.toNat ≤ sizeLine then some (.lst (List.replicate n.toNat a).flatten) else none
  | .tup a, .int n => if 2 ≤ n ∧ n ≤ 1000 ∧ a.length ≤ 1000 ∧ a ≠ [] then some (.tup (List.replicate n.toNat a).flatten) else none
  | _, _ => none
def oMod : F2
  | .int i, .int j => if j ≠ 0 then some (.int (i.fmod j)) else none
  | _, _ => none
def oFdiv : F2
  | .int i, .int j => if 0 < j ∧ j.natAbs.log2 < 9000 then some (.int (i / j)) else none
  | _, _ => none
def oPow : F2
  | .int i, .int j => if 0 ≤ j ∧ j ≤ 1000000 ∧ i.natAbs < 2 ^ 64 then some (.int (i ^ j.toNat)) else none
  | _, _ => none
def oCmpI (p : Int → Int → Bool) : F2
  | .int i, .int j => some (.bl (p i j))
  | _, _ => none
/-! equality of plain data -/
mutual
def nrm : D → D
  | .bl b => .int (if b then 1 else 0)
  | .tup ds => .tup (nrmL ds)
  | .lst ds => .lst (nrmL ds)
  | .fl ds => .lst (nrmL ds)
  | .non => .non
  | .int i => .int i
  | .str x => .str x
  | .dct kvs => .dct kvs
  | .ins c fs => .ins c fs
  | .ty t => .ty t
  | .gl x => .gl x
def nrmL : List D → List D
  | [] => []
  | d :: ds => nrm d :: nrmL ds
end
theorem nrmL_map : ∀ ds, nrmL ds = ds.map nrm
  | [] => rfl
  | d :: ds => by rw [nrmL, nrmL_map ds]; rfl
mutual
def toP : D → PyData
  | .bl b => .bool b
  | .tup ds => .tuple (toPs ds)
  | .lst ds => .list (toPs ds)
  | .fl ds => .list (toPs ds)
  | .int i => .int i
  | .str x => .str x
  | .non => .none
  | .dct _ => .none
  | .ins _ _ => .none
  | .ty _ => .none
  | .gl _ => .none
def toPs : List D → List PyData
  | [] => []
  | d :: ds => toP d :: toPs ds
end
theorem toPs_map : ∀ ds, toPs ds = ds.map toP
  | [] => rfl
  | d :: ds => by rw [toPs, toPs_map ds]; rfl
/-- plain data, not too deep -/
def okD : Nat → D → Bool
  | _, .non => true
  | _, .bl _ => true
  | _, .int _ => true
  | _, .str _ => true
  | n + 1, .tup ds => ds.all (okD n)
  | n + 1, .lst ds => ds.all (okD n)
  | n + 1, .fl ds => ds.all (okD n)
  | _, _ => false
noncomputable section
open Classical in
/-- equal by == -/
def eqB (d e : D) : Bool := decide (nrm d = nrm e)
open Classical in
def memB (d : D) (ds : List D) : Bool := decide (nrm d ∈ ds.map nrm)
theorem eqB_iff {d e : D} : eqB d e = true ↔ nrm d = nrm e := by unfold eqB; simp
theorem memB_iff {d : D} {ds : List D} : memB d ds = true ↔ nrm d ∈ ds.map nrm := by unfold memB; simp
mutual
theorem eqv_nrm : ∀ {n m : Nat} (d e : D), okD n d = true → okD m e = true → (PyData.eqv (toP d) (toP e) = true ↔ nrm d = nrm e)
  | n, m, .non, e, _, h => by cases e <;> first | (simp [toP, nrm, PyData.eqv]; done) | (cases m <;> cases h)
  | n, m, .bl b, e, _, h => by cases e <;> first | (cases b <;> simp [toP, nrm, PyData.eqv]; done) | (rename_i c; cases b <;> cases c <;> simp [toP, nrm, PyData.eqv]; done) | (cases m <;> cases h)
  | n, m, .int b, e, _, h => by cases e <;> first | (simp [toP, nrm, PyData.eqv]; done) | (cases m <;> cases h)
  | n, m, .str b, e, _, h => by cases e <;> first | (simp [toP, nrm, PyData.eqv]; done) | (cases m <;> cases h)
  | 0, m, .tup ds, e, h, _ => by cases h
  | n + 1, m, .tup ds, e, hd, h => by
    cases e with
    | tup es =>
      cases m with
      | zero => cases h
      | succ m =>
        simp only [toP, nrm, PyData.eqv, D.tup.injEq]
        exact eqvAll_nrm ds es hd h
    | _ => first | (simp [toP, nrm, PyData.eqv]; done) | (cases m <;> cases h)
  | 0, m, .lst ds, e, h, _ => by cases h
  | n + 1, m, .lst ds, e, hd, h => by
    cases e with
    | lst es =>
      cases m with
      | zero => cases h
      | succ m =>
        simp only [toP, nrm, PyData.eqv, D.lst.injEq]
        exact eqvAll_nrm ds es hd h
    | fl es =>
      cases m with
      | zero => cases h
      | succ m =>
        simp only [toP, nrm, PyData.eqv, D.lst.injEq]
        exact eqvAll_nrm ds es hd h
    | _ => first | (simp [toP, nrm, PyData.eqv]; done) | (cases m <;> cases h)
  | 0, m, .fl ds, e, h, _ => by cases h
  | n + 1, m, .fl ds, e, hd, h => by
    cases e with
    | lst es =>
      cases m with
      | zero => cases h
      | succ m =>
        simp only [toP, nrm, PyData.eqv, D.lst.injEq]
        exact eqvAll_nrm ds es hd h
    | fl es =>
      cases m with
      | zero => cases h
      | succ m =>
        simp only [toP, nrm, PyData.eqv, D.lst.injEq]
        exact eqvAll_nrm ds es hd h
    | _ => first | (simp [toP, nrm, PyData.eqv]; done) | (cases m <;> cases h)
  | n, m, .dct _, e, h, _ => by cases n <;> cases h
  | n, m, .ins _ _, e, h, _ => by cases n <;> cases h
  | n, m, .ty _, e, h, _ => by cases n <;> cases h
  | n, m, .gl _, e, h, _ => by cases n <;> cases h
theorem eqvAll_nrm : ∀ {n m : Nat} (ds es : List D), ds.all (okD n) = true → es.all (okD m) = true → (PyData.eqvAll (toPs ds) (toPs es) = true ↔ nrmL ds = nrmL es)
  | n, m, [], [], _, _ => by simp [toPs, nrmL, PyData.eqvAll]
  | n, m, [], _ :: _, _, _ => by simp [toPs, nrmL, PyData.eqvAll]
  | n, m, _ :: _, [], _, _ => by simp [toPs, nrmL, PyData.eqvAll]
  | n, m, d :: ds, e :: es, h, k => by
    rw [List.all_cons, Bool.and_eq_true] at h k
    simp only [toPs, nrmL, PyData.eqvAll, Bool.and_eq_true, List.cons.injEq]
    rw [eqv_nrm d e h.1 k.1, eqvAll_nrm ds es h.2 k.2]
end
theorem eqv_eqB {n m : Nat} {d e : D} (h : okD n d = true) (k : okD m e = true) : PyData.eqv (toP d) (toP e) = eqB d e := by
  rw [Bool.eq_iff_iff, eqv_nrm d e h k, eqB_iff]
theorem any_memB {n m : Nat} {d : D} {ds : List D} (h : okD n d = true) (k : ds.all (okD m) = true) : ((toPs ds).any fun z => PyData.eqv z (toP d)) = memB d ds := by
  rw [Bool.eq_iff_iff, memB_iff, List.any_eq_true, toPs_map]
  constructor
  · rintro ⟨z, hz, q⟩
    obtain ⟨e, he, rfl⟩ := List.mem_map.mp hz
    rw [eqv_nrm e d (List.all_eq_true.mp k e he) h] at q
    rw [← q]
    exact List.mem_map.mpr ⟨e, he, rfl⟩
  · intro q
    obtain ⟨e, he, q⟩ := List.mem_map.mp q
    exact ⟨toP e, List.mem_map.mpr ⟨e, he, rfl⟩, (eqv_nrm e d (List.all_eq_true.mp k e he) h).mpr q⟩
def oEq : F2
  | .str x, .str y => some (.bl (decide (x = y)))
  | .int x, .int y => some (.bl (decide (x = y)))
  | d, e => if okD 60 d && okD 60 e then some (.bl (eqB d e)) else none
def oNe : F2
  | .str x, .str y => some (.bl (!decide (x = y)))
  | .int x, .int y => some (.bl (!decide (x = y)))
  | d, e => if okD 60 d && okD 60 e then some (.bl (!eqB d e)) else none
def strIn (x y : Str) : Bool := !(Builtin.Str.occurrences y x 0 y.length 1).isEmpty
def inP (d e : D) : Option Bool := match e with
  | .str y => match d with
    | .str x => some (strIn x y)
    | _ => none
  | .tup ds => if okD 60 d && ds.all (okD 59) then some (memB d ds) else none
  | .lst ds => if okD 60 d && ds.all (okD 59) then some (memB d ds) else none
  | _ => none
def oIn : F2 := fun d e => (inP d e).map fun b => .bl b
def oNotIn : F2 := fun d e => (inP d e).map fun b => .bl (!b)
def isNonD : D → Bool
  | .non => true
  | _ => false
def oIs : F2 := fun d e => match e with
  | .non => some (.bl (isNonD d))
  | _ => none
def oIsNot : F2 := fun d e => match e with
  | .non => some (.bl (!isNonD d))
  | _ => none

section
variable {K : PySem.W.Frag} {mg : Str → Option Value} {w : Wd} {H : Hp} {S : Store}
theorem depthAll_le {n : Nat} : ∀ {ps : List PyData}, (∀ p ∈ ps, p.depth ≤ n) → PyData.depthAll ps ≤ n
  | [], _ => Nat.zero_le _
  | p :: ps, h => Nat.max_le.mpr ⟨h p List.mem_cons_self, depthAll_le fun q hq => h q (List.mem_cons_of_mem _ hq)⟩
theorem canLayAll_of : ∀ {ps : List PyData}, (∀ p ∈ ps, p.canLay0 = true) → PyData.canLayAll0 ps = true
  | [], _ => rfl
  | p :: ps, h => by
    show (PyData.canLay0 p && PyData.canLayAll0 ps) = true
    rw [h p List.mem_cons_self, canLayAll_of fun q hq => h q (List.mem_cons_of_mem _ hq)]
    rfl
theorem toPs_ok (s : Sto K mg w H S) {n : Nat} (ih : ∀ {d : D} {v : V}, Rep K mg w d v → okD n d = true → Dp K H v (toP d) ∧ (toP d).canLay0 = true ∧ (toP d).depth ≤ n) :
    ∀ {ds : List D} {vs : List V}, Reps K mg w ds vs → ds.all (okD n) = true → DpAll K H vs (toPs ds) ∧ ∀ p ∈ toPs ds, p.canLay0 = true ∧ p.depth ≤ n
  | _, _, .nil, h => ⟨.nil, fun p hp => by cases hp⟩
  | _, _, .cons r t, h => by
    rw [List.all_cons, Bool.and_eq_true] at h
    obtain ⟨a, b⟩ := toPs_ok s ih t h.2
    obtain ⟨c, d, e⟩ := ih r h.1
    refine ⟨.cons c a, fun p hp => ?_⟩
    rcases List.mem_cons.mp hp with rfl | hp
    · exact ⟨d, e⟩
    · exact b p hp
theorem toP_ok (s : Sto K mg w H S) : ∀ {n : Nat} {d : D} {v : V}, Rep K mg w d v → okD n d = true → Dp K H v (toP d) ∧ (toP d).canLay0 = true ∧ (toP d).depth ≤ n
  | n, _, _, .non, h => ⟨.non, rfl, Nat.zero_le _⟩
  | n, _, _, .bl b, h => ⟨.bl b, rfl, Nat.zero_le _⟩
  | n, _, _, .int i, h => ⟨.int i, rfl, Nat.zero_le _⟩
  | n, _, _, .str x k _, h => ⟨.str x, k, Nat.zero_le _⟩
  | 0, _, _, .tup _ _, h => by cases h
  | n + 1, .tup ds, _, .tup q r, h => by
    obtain ⟨a, b⟩ := toPs_ok s (fun r' h' => toP_ok s (n := n) r' h') r h
    exact ⟨.tup (q.t s) a, canLayAll_of fun p hp => (b p hp).1, Nat.succ_le_succ (depthAll_le fun p hp => (b p hp).2)⟩
  | 0, _, _, .fl _ _, h => by cases h
  | n + 1, .fl ds, _, .fl q r, h => by
    obtain ⟨a, b⟩ := toPs_ok s (fun r' h' => toP_ok s (n := n) r' h') r h
    exact ⟨.lst (q.l s) a, canLayAll_of fun p hp => (b p hp).1, Nat.succ_le_succ (depthAll_le fun p hp => (b p hp).2)⟩
  | 0, _, _, .lst _ _, h => by cases h
  | n + 1, .lst ds, _, .lst q r, h => by
    obtain ⟨a, b⟩ := toPs_ok s (fun r' h' => toP_ok s (n := n) r' h') r h
    exact ⟨.lst (SqL.of (s.cs _ _ q)) a, canLayAll_of fun p hp => (b p hp).1, Nat.succ_le_succ (depthAll_le fun p hp => (b p hp).2)⟩
  | n, _, _, .dct _ _, h => by cases n <;> cases h
  | n, _, _, .ins _ _ _, h => by cases n <;> cases h
  | n, _, _, .ty t, h => by cases n <;> cases h
  | n, _, _, .gl _, h => by cases n <;> cases h
theorem toPH_ok (s : Sto K mg w H S) {n : Nat} {d : D} {v : V} (r : RepH K mg w H d v) (h : okD n d = true) : Dp K H v (toP d) ∧ (toP d).canLay0 = true ∧ (toP d).depth ≤ n := by
  cases r with
  | of r => exact toP_ok s r h
  | lst ha r =>
    cases n with
    | zero => cases h
    | succ n =>
      obtain ⟨a, b⟩ := toPs_ok s (fun r' h' => toP_ok s (n := n) r' h') r h
      exact ⟨.lst (SqL.of ha) a, canLayAll_of fun p hp => (b p hp).1, Nat.succ_le_succ (depthAll_le fun p hp => (b p hp).2)⟩
  | dct ha r => cases n <;> cases h
theorem shaped_of {p : PyData} {n : Nat} (h : p.canLay0 = true ∧ p.depth ≤ n) (hn : n ≤ 64) : SeqAt.shaped p = true := by
  show (p.canLay0 && decide (p.depth ≤ 64)) = true
  rw [h.1, decide_eq_true (Nat.le_trans h.2 hn)]
  rfl
end

section
variable {X : Cx}
theorem reps_rep {K : PySem.W.Frag} {mg : Str → Option Value} {w : Wd} {ds : List D} {vs : List V} (r : Reps K mg w ds vs) : ∀ m : Nat, Reps K mg w (List.replicate m ds).flatten (List.replicate m vs).flatten
  | 0 => .nil
  | m + 1 => by rw [List.replicate_succ, List.replicate_succ, List.flatten_cons, List.flatten_cons]; exact r.append (reps_rep r m)
theorem o_add : OpR X (binaryOp .Add) (r2 X.K X.mg oAdd) := by
  intro pins s σ H x y v u Q I rx ry ⟨w, S, d, e, z, st, pd, pe, hf, k⟩
  unfold oAdd at hf
  split at hf
  · rename_i i j
    cases hf
    obtain rfl := pd.int; obtain rfl := pe.int
    exact op_add pins s σ H _ _ v u Q I rx ry ⟨i, j, rfl, rfl, k.here st (.int _)⟩
  · rename_i a b
    obtain ⟨rfl, o1, n1⟩ := pd.str; obtain ⟨rfl, o2, n2⟩ := pe.str
    split at hf
    · rename_i hl
      cases hf
      refine op_add_str pins s σ H _ _ v u Q I rx ry ⟨a, b, rfl, rfl, hl, k.here st (.str _ (strOk_add o1 o2) ?_)⟩
      have : (a ++ b).length = a.length + b.length := by
        show (a.cps ++ b.cps).size = _
        rw [Array.size_append]; rfl
      omega
    · cases hf
  · rename_i ds es
    split at hf
    · rename_i hl
      cases hf
      have pd' := pd.rep rfl; have pe' := pe.rep rfl
      cases pd' with
      | @tup ds p vs hp rp =>
        cases pe' with
        | @tup es q ws hq rq =>
          refine op_catT pins s σ H _ _ v u Q I rx ry ⟨p, q, vs, ws, rfl, rfl, hp.t st, hq.t st, fun e => ?_, by rw [← rp.length, ← rq.length]; exact hl.1, fun e => ?_, fun _ => k.tup st (rp.append rq)⟩
          · subst e; exact hl.2 (List.eq_nil_of_length_eq_zero rp.length)
          · subst e
            have : es = [] := List.eq_nil_of_length_eq_zero rq.length
            subst this
            exact k.here st (.tup hp (by rw [List.append_nil]; exact rp))
    · cases hf
  · rename_i ds es
    split at hf
    · rename_i hl
      cases hf
      obtain ⟨p, vs, rfl, hp, rp⟩ := pd.ls st
      obtain ⟨q, ws, rfl, hq, rq⟩ := pe.ls st
      exact op_cat pins s σ H _ _ v u Q I rx ry ⟨p, q, vs, ws, rfl, rfl, hp, hq, by rw [← rp.length, ← rq.length]; exact hl, k.lst st (rp.append rq)⟩
    · cases hf
  · cases hf
theorem o_sub : OpR X (binaryOp .Sub) (r2 X.K X.mg oSub) := by
  intro pins s σ H x y v u Q I rx ry ⟨w, S, d, e, z, st, pd, pe, hf, k⟩
  unfold oSub at hf
  split at hf
  · rename_i i j
    cases hf
    obtain rfl := pd.int; obtain rfl := pe.int
    exact op_sub pins s σ H _ _ v u Q I rx ry ⟨i, j, rfl, rfl, k.here st (.int _)⟩
  · cases hf
theorem o_mod : OpR X (binaryOp .Mod) (r2 X.K X.mg oMod) := by
  intro pins s σ H x y v u Q I rx ry ⟨w, S, d, e, z, st, pd, pe, hf, k⟩
  unfold oMod at hf
  split at hf
  · rename_i i j
    obtain rfl := pd.int; obtain rfl := pe.int
    split at hf
    · rename_i hj
      cases hf
      exact op_modN pins s σ H _ _ v u Q I rx ry ⟨i, j, rfl, rfl, hj, k.here st (.int _)⟩
    · cases hf
  · cases hf
theorem o_fdiv : OpR X (binaryOp .FloorDiv) (r2 X.K X.mg oFdiv) := by
  intro pins s σ H x y v u Q I rx ry ⟨w, S, d, e, z, st, pd, pe, hf, k⟩
  unfold oFdiv at hf
  split at hf
  · rename_i i j
    obtain rfl := pd.int; obtain rfl := pe.int
    split at hf
    · rename_i hj
      cases hf
      exact op_fdivW pins s σ H _ _ v u Q I rx ry ⟨i, j, rfl, rfl, hj, k.here st (.int _)⟩
    · cases hf
  · cases hf
theorem o_pow : OpR X (binaryOp .Pow) (r2 X.K X.mg oPow) := by
  intro pins s σ H x y v u Q I rx ry ⟨w, S, d, e, z, st, pd, pe, hf, k⟩
  unfold oPow at hf
  split at hf
  · rename_i i j
    obtain rfl := pd.int; obtain rfl := pe.int
    split at hf
    · rename_i hj
      cases hf
      exact op_pow pins s σ H _ _ v u Q I rx ry ⟨i, j, rfl, rfl, hj, k.here st (.int _)⟩
    · cases hf
  · cases hf
theorem mulOk_small {x : Str} {n : Int} (h0 : 0 ≤ n) (h1 : n < 1000) (h2 : x.length < 1000) : MulOk x n := by
  have small : ∀ m : Nat, m < 1000000 → Builtin.Str.tooLong m = false := fun m hm => by
    unfold Builtin.Str.tooLong; have hs := sizeLine_eq
    simp only [decide_eq_false_iff_not, gt_iff_lt, Nat.not_lt, ge_iff_le]
    omega
  refine ⟨?_, fun h _ => ?_, fun h _ => ?_⟩
  · have a : ¬ n < -(2 ^ 63 : Int) := by omega
    have b : ¬ n ≥ 2 ^ 63 := by omega
    rw [decide_eq_false a, decide_eq_false b]; rfl
  · have : (2 ^ 63 - 1 : Int) / n ≥ (2 ^ 63 - 1 : Int) / 1000 := by
      have hn : 0 < n := by omega
      rw [ge_iff_le, Int.le_ediv_iff_mul_le hn]
      have : (2 ^ 63 - 1 : Int) / 1000 * n ≤ (2 ^ 63 - 1 : Int) / 1000 * 1000 := Int.mul_le_mul_of_nonneg_left (by omega) (by decide)
      exact Int.le_trans this (by decide)
    have : (2 ^ 63 - 1 : Int) / 1000 = 9223372036854775 := by decide
    omega
  · refine small _ ?_
    have : n.toNat < 1000 := by omega
    exact Nat.lt_of_lt_of_le (Nat.mul_lt_mul'' h2 this) (by decide)
theorem mul_len {x : Str} {n : Int} (h0 : 0 ≤ n) (h1 : n < 1000) (h2 : x.length < 1000) : (Txt.mul x n).length ≤ sizeLine := by
  have hs := sizeLine_eq
  unfold Txt.mul
  split
  · exact Nat.zero_le _
  · split
    · have := h2; omega
    · have aux : ∀ (m : Nat) (acc : Array Nat), ((List.replicate m x.cps).foldl (· ++ ·) acc).size = acc.size + m * x.length := by
        intro m
        induction m with
        | zero => intro acc; simp
        | succ m ih =>
          intro acc
          rw [List.replicate_succ, List.foldl_cons, ih, Array.size_append]
          have : x.cps.size = x.length := rfl
          rw [this, Nat.succ_mul]; omega
      show ((List.replicate n.toNat x.cps).foldl (· ++ ·) #[]).size ≤ _
      rw [aux]
      have : n.toNat * x.length ≤ 1000 * 1000 := Nat.mul_le_mul (by omega) (by omega)
      simp; omega
theorem o_mul : OpR X (binaryOp .Mult) (r2 X.K X.mg oMul) := by
  intro pins s σ H x y v u Q I rx ry ⟨w, S, d, e, z, st, pd, pe, hf, k⟩
  unfold oMul at hf
  split at hf
  · rename_i i j
    obtain rfl := pd.int; obtain rfl := pe.int
    split at hf
    · rename_i hj
      cases hf
      exact op_mulW pins s σ H _ _ v u Q I rx ry ⟨i, j, rfl, rfl, hj, k.here st (.int _)⟩
    · cases hf
  · rename_i a n
    obtain ⟨rfl, o1, n1⟩ := pd.str; obtain rfl := pe.int
    split at hf
    · rename_i hj
      cases hf
      obtain ⟨t, rfl⟩ := rx
      obtain ⟨t', rfl⟩ := ry
      exact SB.mul (mulOk_small hj.1 hj.2.1 hj.2.2) fun t2 k2 => ⟨.str _, H, I.tok _, ⟨_, rfl⟩, k.here st (.str _ (strOk_mul o1) (mul_len hj.1 hj.2.1 hj.2.2))⟩
    · cases hf
  · rename_i ds n
    obtain rfl := pe.int
    split at hf
    · rename_i hj
      cases hf
      obtain ⟨p, vs, rfl, hp, rp⟩ := pd.ls st
      exact op_rep pins s σ H _ _ v u Q I rx ry ⟨p, n, vs, rfl, rfl, hp, by omega, by omega, by rw [← rp.length]; exact hj.2.2, k.lst st (reps_rep rp _)⟩
    · cases hf
  · rename_i ds n
    obtain rfl := pe.int
    split at hf
    · rename_i hj
      cases hf
      obtain ⟨p, vs, rfl, hp, rp⟩ := pd.tp st
      refine op_repT pins s σ H _ _ v u Q I rx ry ⟨p, n, vs, rfl, rfl, hp, fun e => ?_, hj.1, hj.2.1, by rw [← rp.length]; exact hj.2.2.1, k.tup st (reps_rep rp _)⟩
      subst e
      exact hj.2.2.2 (List.eq_nil_of_length_eq_zero rp.length)
    · cases hf
  · cases hf
theorem o_cmpI {op : CmpOp} {p : Int → Int → Bool} (ho : OpR X (compareOp op) (rI0 fun i j => .bl (p i j))) : OpR X (compareOp op) (r2 X.K X.mg (oCmpI p)) := by
  intro pins s σ H x y v u Q I rx ry ⟨w, S, d, e, z, st, pd, pe, hf, k⟩
  unfold oCmpI at hf
  split at hf
  · rename_i i j
    cases hf
    obtain rfl := pd.int; obtain rfl := pe.int
    exact ho pins s σ H _ _ v u Q I rx ry ⟨i, j, rfl, rfl, k.here st (.bl _)⟩
  · cases hf
theorem isNon_rep {K : PySem.W.Frag} {mg : Str → Option Value} {w : Wd} {H : Hp} {d : D} {x : V} (h : RepH K mg w H d x) : decide (x = .non) = isNonD d := by
  cases h with
  | of h => cases h <;> rfl
  | lst _ _ => rfl
  | dct _ _ => rfl
theorem o_is : OpR X (compareOp .Is) (r2 X.K X.mg oIs) := by
  intro pins s σ H x y v u Q I rx ry ⟨w, S, d, e, z, st, pd, pe, hf, k⟩
  unfold oIs at hf
  split at hf
  · cases hf
    obtain rfl := pe.non
    refine op_isN pins s σ H _ _ v u Q I rx ry ⟨rfl, ?_⟩
    rw [isNon_rep pd]
    exact k.here st (.bl _)
  · cases hf
theorem o_isnot : OpR X (compareOp .IsNot) (r2 X.K X.mg oIsNot) := by
  intro pins s σ H x y v u Q I rx ry ⟨w, S, d, e, z, st, pd, pe, hf, k⟩
  unfold oIsNot at hf
  split at hf
  · cases hf
    obtain rfl := pe.non
    refine op_notN pins s σ H _ _ v u Q I rx ry ⟨rfl, ?_⟩
    rw [isNon_rep pd]
    exact k.here st (.bl _)
  · cases hf
theorem o_eq (hu : X.A.units + 64 < cLine) : OpR X (compareOp .Eq) (r2 X.K X.mg oEq) := by
  intro pins s σ H x y v u Q I rx ry ⟨w, S, d, e, z, st, pd, pe, hf, k⟩
  unfold oEq at hf
  split at hf
  · rename_i a b
    cases hf
    obtain ⟨rfl, o1, n1⟩ := pd.str; obtain ⟨rfl, o2, n2⟩ := pe.str
    exact op_eq pins s σ H _ _ v u Q I rx ry ⟨rfl, by
      have : decide (V.str a = V.str b) = decide (a = b) := by simp
      rw [this]; exact k.here st (.bl _)⟩
  · rename_i a b
    cases hf
    obtain rfl := pd.int; obtain rfl := pe.int
    exact op_eq pins s σ H _ _ v u Q I rx ry ⟨rfl, by
      have : decide (V.int a = V.int b) = decide (a = b) := by simp
      rw [this]; exact k.here st (.bl _)⟩
  · split at hf
    · rename_i hc
      cases hf
      rw [Bool.and_eq_true] at hc
      obtain ⟨a1, a2⟩ := toPH_ok st pd hc.1
      obtain ⟨b1, b2⟩ := toPH_ok st pe hc.2
      refine op_eqD hu pins s σ H _ _ v u Q I rx ry ⟨_, _, a1, b1, shaped_of a2 (by decide), shaped_of b2 (by decide), ?_⟩
      rw [eqv_eqB hc.1 hc.2]
      exact k.here st (.bl _)
    · cases hf
theorem o_ne (hu : X.A.units + 64 < cLine) : OpR X (compareOp .NotEq) (r2 X.K X.mg oNe) := by
  intro pins s σ H x y v u Q I rx ry ⟨w, S, d, e, z, st, pd, pe, hf, k⟩
  unfold oNe at hf
  split at hf
  · rename_i a b
    cases hf
    obtain ⟨rfl, o1, n1⟩ := pd.str; obtain ⟨rfl, o2, n2⟩ := pe.str
    exact op_ne pins s σ H _ _ v u Q I rx ry ⟨rfl, by
      have : decide (V.str a = V.str b) = decide (a = b) := by simp
      rw [this]; exact k.here st (.bl _)⟩
  · rename_i a b
    cases hf
    obtain rfl := pd.int; obtain rfl := pe.int
    exact op_ne pins s σ H _ _ v u Q I rx ry ⟨rfl, by
      have : decide (V.int a = V.int b) = decide (a = b) := by simp
      rw [this]; exact k.here st (.bl _)⟩
  · split at hf
    · rename_i hc
      cases hf
      rw [Bool.and_eq_true] at hc
      obtain ⟨a1, a2⟩ := toPH_ok st pd hc.1
      obtain ⟨b1, b2⟩ := toPH_ok st pe hc.2
      refine op_neD hu pins s σ H _ _ v u Q I rx ry ⟨_, _, a1, b1, shaped_of a2 (by decide), shaped_of b2 (by decide), ?_⟩
      rw [eqv_eqB hc.1 hc.2]
      exact k.here st (.bl _)
    · cases hf
theorem roomIn {A : Around} {n : Nat} {p : PyData} {qs : List PyData} (hu : A.units + 65 < cLine) (hp : p.depth ≤ n) (hn : n ≤ 60) : A.units + 1 + min (PyData.depthAll qs) p.depth < cLine := by
  have : min (PyData.depthAll qs) p.depth ≤ p.depth := Nat.min_le_right _ _
  omega
theorem inP_ok (hu : X.A.units + 65 < cLine) {pins : List (Addr × Obj)} {s : Shared} {σ : L2.St} {H : Hp} {x y : V} {v u : Value} {w : Wd} {S : Store} {d e : D} {b : Bool} {op : CmpOp} {neg : Bool}
    (hop : (op = .In ∧ neg = false) ∨ (op = .NotIn ∧ neg = true))
    (I : Inv X pins σ H s) (rx : RelV x v) (ry : RelV y u) (st : Sto X.K X.mg w H S) (pd : RepH X.K X.mg w H d x) (pe : RepH X.K X.mg w H e y) (h : inP d e = some b) {Q : Value → Shared → Prop} (hQ : Q (.bool (if neg then !b else b)) s) :
    wpAny (model X.prog X.w) X.A (compareOp op v u) Q X.xe s := by
  unfold inP at h
  split at h
  · split at h
    · obtain ⟨rfl, _⟩ := pd.str; obtain ⟨rfl, _⟩ := pe.str
      obtain ⟨t, rfl⟩ := rx
      obtain ⟨t', rfl⟩ := ry
      cases h
      rcases hop with ⟨rfl, rfl⟩ | ⟨rfl, rfl⟩
      · exact PySem.P.in_str hQ
      · exact PySem.P.notIn_str hQ
    · cases h
  · rename_i ds
    split at h
    · rename_i hc
      rw [Bool.and_eq_true] at hc
      cases h
      obtain ⟨a, vs, rfl, ha, ra⟩ := pe.tp st
      cases ry
      obtain ⟨a1, a2, a3⟩ := toPH_ok st pd hc.1
      obtain ⟨b1, b2⟩ := toPs_ok st (fun r h => toP_ok st (n := 59) r h) ra hc.2
      obtain ⟨as, r1⟩ := Dp.reads I _ x v a1 rx
      obtain ⟨bs, r2⟩ := Dp.reads I (.tuple _) (.ref a) (.ref a) (.tup ha b1) rfl
      rw [← any_memB hc.1 hc.2] at hQ
      rcases hop with ⟨rfl, rfl⟩ | ⟨rfl, rfl⟩
      · exact SeqAt.in_tuple_reads r2 r1 (canLayAll_of fun p hp => (b2 p hp).1) a2 (roomIn hu a3 (by decide)) hQ
      · exact SeqAt.notIn_tuple_reads r2 r1 (canLayAll_of fun p hp => (b2 p hp).1) a2 (roomIn hu a3 (by decide)) hQ
    · cases h
  · rename_i ds
    split at h
    · rename_i hc
      rw [Bool.and_eq_true] at hc
      cases h
      obtain ⟨a, vs, rfl, ha, ra⟩ := pe.sq st
      cases ry
      obtain ⟨a1, a2, a3⟩ := toPH_ok st pd hc.1
      obtain ⟨b1, b2⟩ := toPs_ok st (fun r h => toP_ok st (n := 59) r h) ra hc.2
      obtain ⟨as, r1⟩ := Dp.reads I _ x v a1 rx
      obtain ⟨bs, r2⟩ := Dp.reads I (.list _) (.ref a) (.ref a) (.lst ha b1) rfl
      rw [← any_memB hc.1 hc.2] at hQ
      rcases hop with ⟨rfl, rfl⟩ | ⟨rfl, rfl⟩
      · exact SeqAt.in_list_reads r2 r1 (canLayAll_of fun p hp => (b2 p hp).1) a2 (roomIn hu a3 (by decide)) hQ
      · exact SeqAt.notIn_list_reads r2 r1 (canLayAll_of fun p hp => (b2 p hp).1) a2 (roomIn hu a3 (by decide)) hQ
    · cases h
  · cases h
theorem o_in (hu : X.A.units + 65 < cLine) : OpR X (compareOp .In) (r2 X.K X.mg oIn) := by
  intro pins s σ H x y v u Q I rx ry ⟨w, S, d, e, z, st, pd, pe, hf, k⟩
  obtain ⟨b, hb, e2⟩ := Option.map_eq_some_iff.mp hf
  cases e2
  exact inP_ok (neg := false) hu (.inl ⟨rfl, rfl⟩) I rx ry st pd pe hb ⟨.bl b, H, I, rfl, k.here st (.bl _)⟩
theorem o_notin (hu : X.A.units + 65 < cLine) : OpR X (compareOp .NotIn) (r2 X.K X.mg oNotIn) := by
  intro pins s σ H x y v u Q I rx ry ⟨w, S, d, e, z, st, pd, pe, hf, k⟩
  obtain ⟨b, hb, e2⟩ := Option.map_eq_some_iff.mp hf
  cases e2
  exact inP_ok (neg := true) hu (.inr ⟨rfl, rfl⟩) I rx ry st pd pe hb ⟨.bl (!b), H, I, rfl, k.here st (.bl _)⟩
end
end
end Dv
set_option maxRecDepth 100000
set_option maxHeartbeats 1000000
namespace Dv
open PySem PySem.Spec PyProof.Rows L2
/-! ### dicts as data -/
def lookD (kvs : List (D × D)) (k : D) : Option D := (kvs.find? fun p => decide (keyD p.1 = keyD k)).map (·.2)
def isKey (k : D) : Bool := (keyD k).isSome
section
variable {K : PySem.W.Frag} {mg : Str → Option Value} {w : Wd} {H : Hp}
theorem key_rep {k : D} {v : V} {q : Key} (h : keyD k = some q) (r : Rep K mg w k v) : v = kV q := by
  cases r <;> cases h <;> rfl
theorem key_repH {k : D} {v : V} {q : Key} (h : keyD k = some q) (r : RepH K mg w H k v) : v = kV q := by
  cases r with
  | of r => exact key_rep h r
  | lst _ _ => cases h
  | dct _ _ => cases h
theorem look_rep {k : D} {q : Key} (hk : keyD k = some q) : ∀ {kvs : List (D × D)} {ps : List (Key × V)}, RepK K mg w kvs ps → (∀ d, lookD kvs k = some d → ∃ v, valV ps q = some v ∧ Rep K mg w d v) ∧ (lookD kvs k = none → valV ps q = none)
  | _, _, .nil => ⟨fun d h => by simp [lookD] at h, fun _ => rfl⟩
  | _, _, .cons (k := k') (d := d') (q := q') hk' _ r t => by
    obtain ⟨h1, h2⟩ := look_rep hk t
    by_cases e : q' = q
    · subst e
      have : ∀ l, lookD ((k', d') :: l) k = some d' := fun l => by
        unfold lookD
        rw [List.find?_cons_of_pos (by rw [hk, hk']; simp)]
        rfl
      rw [this, valV_pos rfl]
      exact ⟨fun d h => by cases h; exact ⟨_, rfl, r⟩, fun h => by cases h⟩
    · have : ∀ l, lookD ((k', d') :: l) k = lookD l k := fun l => by
        unfold lookD
        rw [List.find?_cons_of_neg (by rw [hk, hk']; simpa using e)]
      rw [this, valV_neg e]
      exact ⟨h1, h2⟩
end
/-! ### items, slices -/
def dIx : F2
  | .tup ds, .int i => atI ds i
  | .lst ds, .int i => atI ds i
  | .fl ds, .int i => atI ds i
  | .str x, .int i => (atI x.cps.toList i).map fun c => .str ⟨#[c]⟩
  | .dct kvs, k => if isKey k then lookD kvs k else none
  | _, _ => none
def ixU (S : Store) (a b : U) : Option U := match a with
  | .ref n => (match S[n]? with
    | some (.lsu us) => (match b with
      | .d (.int i) => atI us i
      | _ => none)
    | _ => (f2 dIx S a b).map .d)
  | a => (f2 dIx S a b).map .d
def upU (S : Store) (o : Option U) : R U := match o with
  | some z => .ok z S
  | none => .bad
def gIx (a b : G) : G := fun ρ S => (a ρ S).bind fun x S1 => (b ρ S1).bind fun y S2 => upU S2 (ixU S2 x y)
section
variable {K : PySem.W.Frag} {mg : Str → Option Value} {w : Wd} {H : Hp}
theorem reps_atI {ds : List D} {vs : List V} (r : Reps K mg w ds vs) {i : Int} {d : D} (h : atI ds i = some d) : ∃ v, atI vs i = some v ∧ Rep K mg w d v := by
  unfold atI at h ⊢
  rw [← r.length]
  obtain ⟨j, h1, h2⟩ := Option.bind_eq_some_iff.mp h
  obtain ⟨v, h3, h4⟩ := r.get h2
  exact ⟨v, by rw [h1]; exact h3, h4⟩
theorem repUs_atI {ds : List U} {vs : List V} (r : RepUs K mg w ds vs) {i : Int} {d : U} (h : atI ds i = some d) : ∃ v, atI vs i = some v ∧ RepU K mg w d v := by
  unfold atI at h ⊢
  rw [← r.length]
  obtain ⟨j, h1, h2⟩ := Option.bind_eq_some_iff.mp h
  obtain ⟨v, h3, h4⟩ := r.get h2
  exact ⟨v, by rw [h1]; exact h3, h4⟩
def rIx (K : PySem.W.Frag) (mg : Str → Option Value) : R2 := fun x y H Q => ∃ w S a b z, Sto K mg w H S ∧ RepU K mg w a x ∧ RepU K mg w b y ∧ ixU S a b = some z ∧ Kont K mg w H z S Q
end
section
variable {X : Cx}
theorem i_data (hu : X.A.units + 1 < cLine) {value slice : Expr} {pins : List (Addr × Obj)} {s : Shared} {σ : L2.St} {H : Hp} {x y : V} {v u : Value} {Q : VK} {w : Wd} {S : Store} {d e z : D}
    (I : Inv X pins σ H s) (rx : RelV x v) (ry : RelV y u) (st : Sto X.K X.mg w H S) (pd : RepH X.K X.mg w H d x) (pe : RepH X.K X.mg w H e y) (hf : dIx d e = some z) (k : ∀ v, Rep X.K X.mg w z v → Q v H)
    (hs : subscripted slice false v u = operate [v, u] (getItem v u)) : wpAny (model X.prog X.w) X.A (subscriptTail value slice v u) (EP X pins σ Q) X.xe s := by
  unfold dIx at hf
  split at hf
  · obtain rfl := pe.int
    obtain ⟨a, vs, rfl, ha, ra⟩ := pd.tp st
    obtain ⟨v', h3, h4⟩ := reps_atI ra hf
    exact ix_tup value slice pins s σ H _ _ v u Q I rx ry ⟨a, vs, _, v', rfl, rfl, ha, h3, k _ h4⟩ hs
  · obtain rfl := pe.int
    obtain ⟨a, vs, rfl, ha, ra⟩ := pd.sq st
    obtain ⟨v', h3, h4⟩ := reps_atI ra hf
    exact ix_list value slice pins s σ H _ _ v u Q I rx ry ⟨a, vs, _, v', rfl, rfl, ha, h3, k _ h4⟩ hs
  · obtain rfl := pe.int
    obtain ⟨a, vs, rfl, ha, ra⟩ := pd.sf st
    obtain ⟨v', h3, h4⟩ := reps_atI ra hf
    exact ix_list value slice pins s σ H _ _ v u Q I rx ry ⟨a, vs, _, v', rfl, rfl, ha, h3, k _ h4⟩ hs
  · rename_i t i
    obtain rfl := pe.int
    obtain ⟨rfl, o1, n1⟩ := pd.str
    obtain ⟨c, h1, h2⟩ := Option.map_eq_some_iff.mp hf
    subst h2
    refine ix_str value slice pins s σ H _ _ v u Q I rx ry ⟨t, _, c, rfl, rfl, n1, h1, k _ (.str _ (strOk_one o1 ?_) ?_)⟩ hs
    · unfold atI at h1
      obtain ⟨j, _, h3⟩ := Option.bind_eq_some_iff.mp h1
      exact Array.mem_def.mpr (List.mem_of_getElem? h3)
    · rw [sizeLine_eq]; show 1 ≤ _; omega
  · rename_i kvs key
    split at hf
    · rename_i hk
      obtain ⟨q, hq⟩ := Option.isSome_iff_exists.mp hk
      obtain ⟨a, ps, rfl, ha, ra⟩ := pd.dc st
      obtain rfl := key_repH hq pe
      obtain ⟨v', h1, h2⟩ := (look_rep hq ra).1 _ hf
      obtain rfl : v = Value.ref a := rx
      have g : DGet H a (kV q) (some v') := by rw [← h1]; exact .inl ⟨ps, q, ha, rfl, rfl⟩
      exact tail_any (ops := [Value.ref a, u]) (dict_typeIs I g) PySem.F.slot_dict_getitem.lookup (d_getItem hu I g ry fun w' s3 I3 rw' => ⟨v', H, I3, rw', k _ h2⟩) hs
    · cases hf
  · cases hf
theorem i_ix (hu : X.A.units + 1 < cLine) : IxR X (rIx X.K X.mg) := by
  intro value slice pins s σ H x y v u Q I rx ry ⟨w, S, a, b, z, st, pa, pb, hf, k⟩ hs
  have gen : (f2 dIx S a b).map U.d = some z → wpAny (model X.prog X.w) X.A (subscriptTail value slice v u) (EP X pins σ Q) X.xe s := fun h => by
    obtain ⟨d, h1, rfl⟩ := Option.map_eq_some_iff.mp h
    obtain ⟨x', hx, hf⟩ := Option.bind_eq_some_iff.mp h1
    obtain ⟨y', hy, hf⟩ := Option.bind_eq_some_iff.mp hf
    exact i_data hu I rx ry st (vw_ok st pa hx) (vw_ok st pb hy) hf (fun v r => k.here st (.d r)) hs
  unfold ixU at hf
  split at hf
  · rename_i n
    split at hf
    · rename_i us e1
      split at hf
      · rename_i i
        cases pa with
        | @ref _ p ha =>
          cases pb with
          | d pb =>
            cases pb
            obtain ⟨vs, h1, h2⟩ := st.ok n _ p e1 ha
            obtain ⟨v', h3, h4⟩ := repUs_atI h2 hf
            exact ix_list value slice pins s σ H _ _ v u Q I rx ry ⟨p, vs, _, v', rfl, rfl, SqL.of h1, h3, k.here st h4⟩ hs
      · cases hf
    · exact gen hf
  · exact gen hf
theorem E_ix {W : WX} {a b : Expr} {ga gb : G} {pos : Pos} (hu : X.A.units + 1 < cLine) (ha : PE X a (tI X.K X.mg W ga)) (hb : PE X b (tI X.K X.mg W gb)) (hs : PlainIx b) : PE X (.Subscript a b pos) (tI X.K X.mg W (gIx ga gb)) := PE_imp (pe_ix (i_ix hu) ha hb hs) fun σ H Q h => by
  obtain ⟨w, S, ρ, s, en, o⟩ := h
  refine tG_then s en o fun w1 H1 S1 d v l1 s1 p1 en1 o1 => tG_then s1 en1 o1 fun w2 H2 S2 e w l2 s2 p2 en2 o2 => ?_
  cases q : ixU S2 d e with
  | none => rw [q] at o2; exact o2.elim
  | some z => rw [q] at o2; exact ⟨w2, S2, d, e, z, s2, p1.mono l2, p2, q, o2⟩
def isSlice : Expr → Bool
  | .Slice _ _ _ _ => true
  | .Tuple _ _ _ => true
  | _ => false
theorem plainIx (b : Expr) (h : isSlice b = false) : PlainIx b := by
  cases b <;> first | (intro _ _; rfl) | cases h
/-- slices -/
def cutD (ds : List D) (lo hi : Option Int) : List D := (ds.drop (HT.sIx ds.length 0 lo)).take (HT.sIx ds.length ds.length hi - HT.sIx ds.length 0 lo)
def dSl (lo hi : Option Int) : F1
  | .tup ds => some (.tup (cutD ds lo hi))
  | .fl ds => some (.lst (cutD ds lo hi))
  | .lst ds => some (.lst (cutD ds lo hi))
  | .str x => some (.str (cutS x lo hi))
  | _ => none
theorem reps_cut {K : PySem.W.Frag} {mg : Str → Option Value} {w : Wd} {ds : List D} {vs : List V} (r : Reps K mg w ds vs) (lo hi : Option Int) : Reps K mg w (cutD ds lo hi) (cutV vs lo hi) := by
  unfold cutD cutV
  rw [r.length]
  exact (r.drop _).take _
theorem cut_whole {ds : List D} {lo hi : Option Int} (h : HT.sIx ds.length 0 lo = 0 ∧ HT.sIx ds.length ds.length hi = ds.length) : cutD ds lo hi = ds := by
  unfold cutD
  rw [h.1, h.2]
  simp
theorem cutS_ok {x : Str} {lo hi : Option Int} (h : PyData.strOk x = true) (hl : x.length ≤ sizeLine) : PyData.strOk (cutS x lo hi) = true ∧ (cutS x lo hi).length ≤ sizeLine := by
  refine ⟨?_, Nat.le_trans (cutS_length x lo hi) hl⟩
  rw [strOk_iff] at *
  intro c hc
  unfold cutS at hc
  have hc' : c ∈ (x.cps.toList.drop (HT.sIx x.length 0 lo)).take (HT.sIx x.length x.length hi - HT.sIx x.length 0 lo) := by simpa using hc
  exact h c (Array.mem_def.mpr (List.mem_of_mem_drop (List.mem_of_mem_take hc')))
def rSl (K : PySem.W.Frag) (mg : Str → Option Value) : V → Option Int → Option Int → Hp → VK → Prop := fun x lo hi H Q => ∃ w S d z, Sto K mg w H S ∧ RepH K mg w H d x ∧ dSl lo hi d = some z ∧ KontM K mg w H S z Q
theorem s_sl : SlR X (rSl X.K X.mg) := by
  intro pins s σ H x v vl vu lo hi sl Q I rx hsl pl pu ⟨w, S, d, z, st, pd, hf, k⟩
  unfold dSl at hf
  split at hf
  · rename_i ds
    cases hf
    have pd' := pd.rep rfl
    cases pd' with
    | @tup _ a vs ha ra =>
      refine sl_tupA pins s σ H _ v vl vu lo hi sl Q I rx hsl pl pu ⟨a, vs, rfl, ha.t st, fun h => ?_, fun _ => k.tup st (reps_cut ra lo hi)⟩
      rw [← ra.length] at h
      rw [cut_whole h] at k
      exact k.here st (.tup ha ra)
  · cases hf
    obtain ⟨a, vs, rfl, ha, ra⟩ := pd.sf st
    exact sl_list pins s σ H _ v vl vu lo hi sl Q I rx hsl pl pu ⟨a, vs, rfl, ha, k.lst st (reps_cut ra lo hi)⟩
  · cases hf
    obtain ⟨a, vs, rfl, ha, ra⟩ := pd.sq st
    exact sl_list pins s σ H _ v vl vu lo hi sl Q I rx hsl pl pu ⟨a, vs, rfl, ha, k.lst st (reps_cut ra lo hi)⟩
  · rename_i t
    cases hf
    obtain ⟨rfl, o1, n1⟩ := pd.str
    obtain ⟨q1, q2⟩ := cutS_ok (lo := lo) (hi := hi) o1 n1
    exact sl_str pins s σ H _ v vl vu lo hi sl Q I rx hsl pl pu ⟨t, rfl, n1, k.here st (.str _ q1 q2)⟩
  · cases hf
abbrev GO := Env → Store → R (Option Int)
def goN : GO := fun _ S => .ok none S
def uInt : U → Option Int
  | .d (.int i) => some i
  | _ => none
def goS (a : G) : GO := fun ρ S => (a ρ S).bind fun x S1 => match uInt x with
  | some i => .ok (some i) S1
  | none => .bad
def gSl (mu : Bool) (a : G) (lo hi : GO) : G := fun ρ S => (a ρ S).bind fun x S1 => (lo ρ S1).bind fun l S2 => (hi ρ S2).bind fun h S3 => up mu S3 (f1 (dSl l h) S3 x)
abbrev PO' : Wd → Option Int → Option Int → Prop := fun _ a b => a = b
variable {W : WX} {a b : Expr} {ga gb : G} {pos p2 : Pos} {mu : Bool}
theorem rep_int {K : PySem.W.Frag} {mg : Str → Option Value} {w : Wd} {c : Int} {u : U} {v : V} (q : uInt u = some c) (h : RepU K mg w u v) : v = .int c := by
  cases h with
  | d h =>
    rename_i x
    cases x <;> first | (cases q; cases h; rfl) | cases q
  | ref h => cases q
theorem O_none : PO X none (tG X.K X.mg PO' W goN) := ⟨fun pins s σ H Q I ⟨w, S, ρ, st, en, o⟩ => po_none.run pins s σ H Q I (o w H none (Le.refl _) st rfl)⟩
theorem O_some (ha : PE X a (tI X.K X.mg W ga)) : PO X (some a) (tG X.K X.mg PO' W (goS ga)) := ⟨fun pins s σ H Q I ⟨w, S, ρ, st, en, o⟩ => (po_some ha).run pins s σ H Q I (by
  refine tG_then st en o fun w1 H1 S1 d v l1 s1 p1 en1 o1 => ?_
  cases q : uInt d with
  | none => rw [q] at o1; exact o1.elim
  | some i =>
    rw [q] at o1
    exact ⟨i, rep_int q p1, o1 w1 H1 _ (Le.refl _) s1 rfl⟩)⟩
theorem E_sl {lo hi : Option Expr} {gl gh : GO} (ha : PE X a (tI X.K X.mg W ga)) (hl : PO X lo (tG X.K X.mg PO' W gl)) (hh : PO X hi (tG X.K X.mg PO' W gh)) : PE X (.Subscript a (.Slice lo hi none p2) pos) (tI X.K X.mg W (gSl mu ga gl gh)) :=
  PE_imp (pe_slice s_sl ha hl hh) fun σ H Q ⟨w, S, ρ, s, en, o⟩ => tG_then s en o fun w1 H1 S1 d v l1 s1 p1 en1 o1 => tG_then (P := PO') s1 en1 o1 fun w2 H2 S2 l l' l2 s2 p2 en2 o2 =>
    tG_then (P := PO') s2 en2 o2 fun w3 H3 S3 h h' l3 s3 p3 en3 o3 => by
      have e1 : l = l' := p2
      have e2 : h = h' := p3
      subst e1 e2
      obtain ⟨z, hz, k⟩ := up_out o3
      obtain ⟨x, hx, hf⟩ := Option.bind_eq_some_iff.mp hz
      exact ⟨w3, S3, x, z, s3, vw_ok s3 ((p1.mono l2).mono l3) hx, hf, k⟩
end
end Dv
set_option maxRecDepth 100000
set_option maxHeartbeats 1000000
namespace Dv
open PySem PySem.Spec PyProof.Rows L2
/-! ### sorting texts -/
def leS (x y : Str) : Bool := !ltCps y.cps.toList x.cps.toList
def insS (x : Str) : List Str → List Str
  | [] => [x]
  | y :: r => if leS x y = true then x :: y :: r else y :: insS x r
def sortS : List Str → List Str
  | [] => []
  | x :: r => insS x (sortS r)
theorem leS_iff (x y : Str) : leS x y = true ↔ ¬ (y.cps.toList < x.cps.toList) := by
  unfold leS
  rw [ltCps_eq]
  simp
theorem leS_total (x y : Str) : leS x y = true ∨ leS y x = true := by
  rw [leS_iff, leS_iff]
  by_cases h : y.cps.toList < x.cps.toList
  · exact .inr fun h2 => absurd (List.lt_trans h h2) (List.lt_irrefl _)
  · exact .inl h
theorem leS_trans {x y z : Str} (a : leS x y = true) (b : leS y z = true) : leS x z = true := by
  rw [leS_iff] at *
  have a' : x.cps.toList ≤ y.cps.toList := List.not_lt.mp a
  have b' : y.cps.toList ≤ z.cps.toList := List.not_lt.mp b
  exact List.not_lt.mpr (List.le_trans a' b')
theorem leS_antisymm {x y : Str} (a : leS x y = true) (b : leS y x = true) : x = y := by
  rw [leS_iff] at *
  have a' : x.cps.toList ≤ y.cps.toList := List.not_lt.mp a
  have b' : y.cps.toList ≤ x.cps.toList := List.not_lt.mp b
  have e := List.le_antisymm a' b'
  cases x; cases y
  simp at e
  rw [e]
theorem insS_perm (x : Str) : ∀ l, (insS x l).Perm (x :: l)
  | [] => .refl _
  | y :: r => by
    unfold insS
    split
    · exact .refl _
    · exact ((insS_perm x r).cons y).trans (.swap x y r)
theorem sortS_perm : ∀ l, (sortS l).Perm l
  | [] => .refl _
  | x :: r => (insS_perm x _).trans ((sortS_perm r).cons x)
theorem insS_pw (x : Str) : ∀ l, l.Pairwise (fun a b => leS a b = true) → (insS x l).Pairwise (fun a b => leS a b = true)
  | [], _ => by simp [insS]
  | y :: r, h => by
    unfold insS
    obtain ⟨h1, h2⟩ := List.pairwise_cons.mp h
    by_cases c : leS x y = true
    · rw [if_pos c]
      refine List.pairwise_cons.mpr ⟨fun z hz => ?_, h⟩
      rcases List.mem_cons.mp hz with rfl | hz
      · exact c
      · exact leS_trans c (h1 z hz)
    · rw [if_neg c]
      refine List.pairwise_cons.mpr ⟨fun z hz => ?_, insS_pw x r h2⟩
      rcases List.mem_cons.mp ((insS_perm x r).mem_iff.mp hz) with rfl | hz
      · exact (leS_total y z).resolve_right fun q => c q
      · exact h1 z hz
theorem sortS_pw : ∀ l, (sortS l).Pairwise (fun a b => leS a b = true)
  | [] => .nil
  | x :: r => insS_pw x _ (sortS_pw r)
theorem pw_of_sortedS : ∀ l, sortedS l = true → l.Pairwise (fun a b => leS a b = true) := by
  have aux : ∀ (l : List Str) (p : Str), risingS p l = true → (p :: l).Pairwise (fun a b => leS a b = true) := by
    intro l
    induction l with
    | nil => intro p _; simp
    | cons x r ih =>
      intro p h
      have h' : (!ltCps x.cps.toList p.cps.toList && risingS x r) = true := h
      rw [Bool.and_eq_true] at h'
      have q := ih x h'.2
      refine List.pairwise_cons.mpr ⟨fun z hz => ?_, q⟩
      have hpx : leS p x = true := h'.1
      rcases List.mem_cons.mp hz with rfl | hz
      · exact hpx
      · exact leS_trans hpx ((List.pairwise_cons.mp q).1 z hz)
  intro l h
  cases l with
  | nil => exact .nil
  | cons x r => exact aux r x h
theorem sorted_uniq : ∀ {l m : List Str}, l.Perm m → l.Pairwise (fun a b => leS a b = true) → m.Pairwise (fun a b => leS a b = true) → l = m
  | [], m, p, _, _ => (List.nil_perm.mp p).symm ▸ rfl
  | x :: l, [], p, _, _ => by have := p.length_eq; simp at this
  | x :: l, y :: m, p, h1, h2 => by
    obtain ⟨a1, a2⟩ := List.pairwise_cons.mp h1
    obtain ⟨b1, b2⟩ := List.pairwise_cons.mp h2
    have exy : x = y := by
      have hx : x ∈ y :: m := p.mem_iff.mp List.mem_cons_self
      have hy : y ∈ x :: l := p.mem_iff.mpr List.mem_cons_self
      rcases List.mem_cons.mp hx with e | hx
      · exact e
      · rcases List.mem_cons.mp hy with e | hy
        · exact e.symm
        · exact leS_antisymm (a1 y hy) (b1 x hx)
    subst exy
    rw [sorted_uniq (List.perm_cons x |>.mp p) a2 b2]
theorem sorted_is {ys xs : List Str} (p : ys.Perm xs) (s : sortedS ys = true) : ys = sortS xs := sorted_uniq (p.trans (sortS_perm xs).symm) (pw_of_sortedS _ s) (sortS_pw xs)

/-! ### lists of texts, of bools -/
def strsD : List D → Option (List Str)
  | [] => some []
  | .str x :: r => (strsD r).map (x :: ·)
  | _ :: _ => none
def blsD : List D → Option (List Bool)
  | [] => some []
  | .bl x :: r => (blsD r).map (x :: ·)
  | _ :: _ => none
section
variable {K : PySem.W.Frag} {mg : Str → Option Value} {w : Wd} {H : Hp}
theorem strs_rep : ∀ {ds : List D} {vs : List V} {xs : List Str}, Reps K mg w ds vs → strsD ds = some xs → vs = xs.map V.str ∧ ∀ x ∈ xs, PyData.strOk x = true ∧ x.length ≤ sizeLine
  | [], _, _, .nil, h => by cases h; exact ⟨rfl, fun x hx => by cases hx⟩
  | d :: ds, _, _, .cons r t, h => by
    cases d with
    | str x =>
      have h' : (strsD ds).map (x :: ·) = some _ := h
      obtain ⟨ys, h1, rfl⟩ := Option.map_eq_some_iff.mp h'
      obtain ⟨q1, q2⟩ := strs_rep t h1
      cases r with
      | str _ o l =>
        refine ⟨by rw [q1]; rfl, fun y hy => ?_⟩
        rcases List.mem_cons.mp hy with rfl | hy
        · exact ⟨o, l⟩
        · exact q2 y hy
    | _ => cases h
theorem bls_rep : ∀ {ds : List D} {vs : List V} {xs : List Bool}, Reps K mg w ds vs → blsD ds = some xs → vs = xs.map V.bl
  | [], _, _, .nil, h => by cases h; rfl
  | d :: ds, _, _, .cons r t, h => by
    cases d with
    | bl x =>
      have h' : (blsD ds).map (x :: ·) = some _ := h
      obtain ⟨ys, h1, rfl⟩ := Option.map_eq_some_iff.mp h'
      cases r
      rw [bls_rep t h1]; rfl
    | _ => cases h
theorem reps_strs : ∀ xs : List Str, (∀ x ∈ xs, PyData.strOk x = true ∧ x.length ≤ sizeLine) → Reps K mg w (xs.map D.str) (xs.map V.str)
  | [], _ => .nil
  | x :: r, h => .cons (.str x (h x List.mem_cons_self).1 (h x List.mem_cons_self).2) (reps_strs r fun y hy => h y (List.mem_cons_of_mem _ hy))
theorem strsD_map : ∀ xs : List Str, strsD (xs.map D.str) = some xs
  | [] => rfl
  | x :: r => by
    show (strsD (r.map D.str)).map (x :: ·) = _
    rw [strsD_map r]; rfl
theorem blsD_map : ∀ xs : List Bool, blsD (xs.map D.bl) = some xs
  | [] => rfl
  | x :: r => by
    show (blsD (r.map D.bl)).map (x :: ·) = _
    rw [blsD_map r]; rfl
/-- the items of a list or a tuple -/
def itemsD : D → Option (List D)
  | .tup ds => some ds
  | .lst ds => some ds
  | .fl ds => some ds
  | _ => none
theorem items_rep {S : Store} (st : Sto K mg w H S) {d : D} {v : V} {ds : List D} (r : RepH K mg w H d v) (h : itemsD d = some ds) : ∃ a vs, v = .ref a ∧ Reps K mg w ds vs ∧ (SqL K H a vs ∨ (SqT K H a vs ∧ d = .tup ds)) := by
  cases d with
  | tup es => cases h; obtain ⟨a, vs, rfl, ha, ra⟩ := r.tp st; exact ⟨a, vs, rfl, ra, .inr ⟨ha, rfl⟩⟩
  | lst es => cases h; obtain ⟨a, vs, rfl, ha, ra⟩ := r.sq st; exact ⟨a, vs, rfl, ra, .inl ha⟩
  | fl es => cases h; obtain ⟨a, vs, rfl, ha, ra⟩ := r.sf st; exact ⟨a, vs, rfl, ra, .inl ha⟩
  | _ => cases h
end
/-! ### calls of built-ins -/
def cLen : FA
  | [.str x] => some (.int x.length)
  | [.dct kvs] => some (.int kvs.length)
  | [d] => (itemsD d).map fun ds => .int ds.length
  | _ => none
def cAll : FA
  | [.lst ds] => (blsD ds).map fun bs => .bl (bs.all id)
  | _ => none
def cAny : FA
  | [.lst ds] => (blsD ds).map fun bs => .bl (bs.any id)
  | _ => none
def cInt : FA
  | [.int i] => some (.int i)
  | [.bl b] => some (.int (if b then 1 else 0))
  | _ => none
def cTuple : FA
  | [d] => (itemsD d).map fun ds => .tup ds
  | _ => none
def cList : FA
  | [.str x] => some (.lst (x.cps.toList.map fun c => .str ⟨#[c]⟩))
  | [d] => (itemsD d).map fun ds => .lst ds
  | _ => none
def cSorted : FA
  | [d] => (itemsD d).bind fun ds => (strsD ds).bind fun xs => if xs.length < 64 then some (.lst ((sortS xs).map D.str)) else none
  | _ => none
section
variable {X : Cx}
theorem one_of {K : PySem.W.Frag} {mg : Str → Option Value} {w : Wd} {H : Hp} {f : FA} {ds : List D} {xs : List V} {p : D} (hf : f ds = some p) (h0 : f [] = none) (h2 : ∀ a b r, f (a :: b :: r) = none) (r : RepHs K mg w H ds xs) :
    ∃ d v, ds = [d] ∧ xs = [v] ∧ RepH K mg w H d v := by
  cases r with
  | nil => rw [h0] at hf; cases hf
  | cons h t =>
    cases t with
    | nil => exact ⟨_, _, rfl, rfl, h⟩
    | cons _ _ => rw [h2] at hf; cases hf
theorem call_bools {id : String} {g : List Bool → Bool} {f : FA} (hg : CallR X (.builtin id) (fun vs H Q => ∃ (a : Addr) (bs : List Bool), vs = [V.ref a] ∧ SqL X.K H a (bs.map V.bl) ∧ Q (.bl (g bs)) H))
    (hf : ∀ ds p, f ds = some p → ∃ es bs, ds = [.lst es] ∧ blsD es = some bs ∧ p = .bl (g bs)) : CallR X (.builtin id) (rA X.K X.mg f) := by
  intro pins s σ H xs us Q I r ⟨w, S, ds, z, st, rs, h, k⟩
  obtain ⟨es, bs, rfl, h4, e⟩ := hf _ _ h
  cases e
  cases rs with
  | cons rd rt =>
    cases rt
    obtain ⟨a, ws, rfl, hq, ra⟩ := rd.sq st
    have e := bls_rep ra h4
    subst e
    exact hg pins s σ H _ us Q I r ⟨a, bs, rfl, hq, k.here st (.bl _)⟩
theorem bools_of {g : List Bool → Bool} {f : FA} (h1 : ∀ ds, f [.lst ds] = (blsD ds).map fun bs => .bl (g bs)) (h2 : ∀ ds, (∀ es, ds ≠ [.lst es]) → f ds = none) :
    ∀ ds p, f ds = some p → ∃ es bs, ds = [.lst es] ∧ blsD es = some bs ∧ p = .bl (g bs) := by
  intro ds p h
  by_cases hd : ∃ es, ds = [.lst es]
  · obtain ⟨es, rfl⟩ := hd
    rw [h1] at h
    obtain ⟨bs, a, b⟩ := Option.map_eq_some_iff.mp h
    exact ⟨es, bs, rfl, a, b.symm⟩
  · rw [h2 ds fun es e => hd ⟨es, e⟩] at h; cases h
theorem not_lst1 {f : FA} (h0 : f [] = none) (h1 : ∀ d, (∀ es, d ≠ .lst es) → f [d] = none) (h2 : ∀ a b r, f (a :: b :: r) = none) : ∀ ds, (∀ es, ds ≠ [.lst es]) → f ds = none
  | [], _ => h0
  | [d], h => h1 d fun es e => h es (by rw [e])
  | a :: b :: r, _ => h2 a b r
theorem call_all' (hc : X.calm = true) : CallR X (.builtin "all") (rA X.K X.mg cAll) := call_bools (cr_all hc) (bools_of (g := fun bs => bs.all id) (fun _ => rfl) (not_lst1 rfl (fun d h => by cases d <;> first | rfl | exact absurd rfl (h _)) fun a _ _ => by cases a <;> rfl))
theorem call_any' (hc : X.calm = true) : CallR X (.builtin "any") (rA X.K X.mg cAny) := call_bools (cr_any hc) (bools_of (g := fun bs => bs.any id) (fun _ => rfl) (not_lst1 rfl (fun d h => by cases d <;> first | rfl | exact absurd rfl (h _)) fun a _ _ => by cases a <;> rfl))
theorem call_len' : CallR X (.builtin "len") (rA X.K X.mg cLen) := by
  intro pins s σ H xs us Q I r ⟨w, S, ds, z, st, rs, h, k⟩
  obtain ⟨d, v, rfl, rfl, rd⟩ := one_of h rfl (fun a _ _ => by cases a <;> rfl) rs
  have seq : (itemsD d).map (fun ds => D.int ds.length) = some z → wpAny (model X.prog X.w) X.A (call (.builtin "len") us) (EP X pins σ Q) X.xe s := fun h => by
    obtain ⟨es, h1, h2⟩ := Option.map_eq_some_iff.mp h
    cases h2
    obtain ⟨a, ws, rfl, ra, hq⟩ := items_rep st rd h1
    refine call_len pins s σ H _ us Q I r ⟨.ref a, es.length, rfl, ?_, k.here st (.int _)⟩
    rcases hq with hq | hq
    · exact .inl ⟨ws, hq, ra.length⟩
    · exact .inr ⟨ws, hq.1, ra.length⟩
  cases d with
  | str x =>
    obtain ⟨rfl, _, hl⟩ := rd.str
    cases h
    exact call_len pins s σ H _ us Q I r ⟨.str x, _, rfl, ⟨hl, rfl⟩, k.here st (.int _)⟩
  | dct kvs =>
    cases h
    obtain ⟨a, ps, rfl, ha, ra⟩ := rd.dc st
    obtain ⟨u, rfl, ru⟩ := vals1 r
    cases ru
    refine d_len I ha fun t s' I' => ⟨.int ps.length, _, I', ⟨t, rfl⟩, ?_⟩
    rw [← ra.length]
    exact k.here st (.int _)
  | _ => exact seq h
theorem call_int' : CallR X (.type "int") (rA X.K X.mg cInt) := by
  intro pins s σ H xs us Q I r ⟨w, S, ds, z, st, rs, h, k⟩
  obtain ⟨d, v, rfl, rfl, rd⟩ := one_of h rfl (fun a _ _ => by cases a <;> rfl) rs
  cases d with
  | int i => cases h; obtain rfl := rd.int; exact call_int1 pins s σ H _ us Q I r (.inl ⟨i, rfl, k.here st (.int _)⟩)
  | bl b => cases h; obtain rfl := rd.bl; exact call_int1 pins s σ H _ us Q I r (.inr ⟨b, rfl, k.here st (.int _)⟩)
  | _ => cases h
theorem call_tuple' : CallR X (.type "tuple") (rA X.K X.mg cTuple) := by
  intro pins s σ H xs us Q I r ⟨w, S, ds, z, st, rs, h, k⟩
  obtain ⟨d, v, rfl, rfl, rd⟩ := one_of h rfl (fun a _ _ => by cases a <;> rfl) rs
  have h' : (itemsD d).map (fun ds => D.tup ds) = some z := h
  obtain ⟨es, h1, h2⟩ := Option.map_eq_some_iff.mp h'
  cases h2
  obtain ⟨a, ws, rfl, ra, hq⟩ := items_rep st rd h1
  rcases hq with hq | ⟨hq, rfl⟩
  · exact call_tuple_of pins s σ H _ us Q I r ⟨a, ws, rfl, .inl ⟨hq, k.tup st ra⟩⟩
  · exact call_tuple_of pins s σ H _ us Q I r ⟨a, ws, rfl, .inr ⟨hq, k.here st (rd.rep rfl)⟩⟩
theorem call_list' (hc : X.calm = true) : CallR X (.type "list") (rA X.K X.mg cList) := by
  intro pins s σ H xs us Q I r ⟨w, S, ds, z, st, rs, h, k⟩
  obtain ⟨d, v, rfl, rfl, rd⟩ := one_of h rfl (fun a _ _ => by cases a <;> rfl) rs
  by_cases hs : ∃ x, d = .str x
  · obtain ⟨x, rfl⟩ := hs
    obtain ⟨rfl, ho, hl⟩ := rd.str
    cases h
    obtain ⟨u, rfl, ⟨t, rfl⟩⟩ := vals1 r
    refine call_list_str (I.ok.hd hc) x t (hn := hl) fun h' tk acc' c' hk hS' hacc => ?_
    have hv : Vals (x.cps.toList.map fun c => V.str ⟨#[c]⟩) acc'.toList := by
      have hlen : acc'.toList.length = x.cps.toList.length := by rw [Array.length_toList, hacc.1, Array.length_toList]
      have hat : ∀ (j : Nat) (v : Value), acc'.toList[j]? = some v → ∃ c u, x.cps.toList[j]? = some c ∧ v = .str ⟨#[c]⟩ u := fun j v e => by
        obtain ⟨c, u, h1, h2⟩ := hacc.2 j v (by rw [← Array.getElem?_toList]; exact e)
        exact ⟨c, u, by rw [Array.getElem?_toList]; exact h1, h2⟩
      generalize acc'.toList = l at hlen hat
      generalize x.cps.toList = m at hlen hat
      clear hacc hS' hk
      induction m generalizing l with
      | nil =>
        have : l = [] := List.eq_nil_of_length_eq_zero hlen
        subst this; exact .nil
      | cons c m ih =>
        cases l with
        | nil => simp at hlen
        | cons v l =>
          obtain ⟨c', u, h1, h2⟩ := hat 0 v rfl
          have : c = c' := Option.some.inj h1
          subst this
          exact .cons ⟨u, h2⟩ (ih l (by simpa using hlen) fun j v e => by simpa using hat (j + 1) v (by simpa using e))
    have hz : (x.cps.toList.map fun c => V.str ⟨#[c]⟩).length ≤ sizeLine := by rw [List.length_map, Array.length_toList]; exact hl
    refine ⟨.ref _, upd H s.heap.objs.size (.lst (x.cps.toList.map fun c => V.str ⟨#[c]⟩)), I.laid (t' := tk) hk (Nat.le_refl _) ⟨hz, acc'.toList, c', hv, by simpa using hS'⟩, rfl, k.lst st ?_ _ (I.hok.fresh (Nat.le_refl _))⟩
    have := reps_strs (K := X.K) (mg := X.mg) (w := w) (x.cps.toList.map fun c => (⟨#[c]⟩ : Str)) (fun y hy => by
      obtain ⟨c, hc, rfl⟩ := List.mem_map.mp hy
      exact ⟨strOk_one ho (Array.mem_def.mpr hc), by rw [sizeLine_eq]; show 1 ≤ _; omega⟩)
    rw [List.map_map, List.map_map] at this
    exact this
  · have h' : (itemsD d).map (fun ds => D.lst ds) = some z := by
      cases d <;> first | exact h | exact absurd ⟨_, rfl⟩ hs
    obtain ⟨es, h1, h2⟩ := Option.map_eq_some_iff.mp h'
    cases h2
    obtain ⟨a, ws, rfl, ra, hq⟩ := items_rep st rd h1
    exact call_list_of pins s σ H _ us Q I r ⟨a, ws, rfl, hq.imp_right fun q => q.1, k.lst st ra⟩
/-- sorted(..) of a collected row -/
theorem collect_tup {prog : Program} {w : World} {A : Around} {E : Value → Shared → Prop} {s : Shared} {l : Addr} {vs : List Value} {Q : List Value → Shared → Prop} (hl : IsTup s.heap l vs.toArray)
    (h : Q vs { s with heap := (s.heap.push (seqObj "list" #[] 0)).update s.heap.objs.size (Obj.mapSeq (· ++ vs.toArray)) }) (hsz : vs.length ≤ sizeLine) :
    wpAny (model prog w) A (collect (.ref l)) Q E s := by
  obtain ⟨o, ho, hc, n, hd⟩ := id hl
  unfold collect
  refine wpAny_bind (wpAny_runValue (codeAny_builtin entry_proto_collect' ?_))
  show wpAny _ _ (do again (.builtin "list.__iadd__" ⟨[← newList [], .ref l], []⟩)) _ _ s
  refine wpAny_bind (wpAny_newList (wpAny_pure ⟨Code.quiet_builtin _ (by decide +kernel), codeAny_builtin entry_list_iadd' ?_⟩))
  show wpAny _ _ (Builtin.List.listExtendWith (.ref s.heap.objs.size) (.ref l) (.ref s.heap.objs.size)) _ _ { s with heap := s.heap.push (seqObj "list" #[] 0) }
  unfold Builtin.List.listExtendWith
  have ho' : (s.heap.push (seqObj "list" #[] 0)).get? l = some o := Heap.get?_push_of_some _ ho
  refine wpAny_bind (wpAny_typeOf (T := "tuple") ⟨o, ho', hc⟩ ?_)
  have ht : (Value.type "tuple" == Value.type "tuple") = true := by rfl
  rw [if_pos (by rw [ht]; simp)]
  refine wpAny_bind (listItems_at ho' hd ?_)
  refine wpAny_bind (listItems_at (xs := #[]) (n := 0) (Heap.get?_push_size _ rfl) rfl ?_)
  rw [if_neg (by simp)]
  refine wpAny_bind (listUpdate_at (xs := #[]) (n := 0) (Heap.get?_push_size _ rfl) rfl ?_ (Nat.zero_le _) (by show (#[] ++ vs.toArray).size ≤ sizeLine + 1; simp only [Array.size_append, List.size_toArray, List.length_nil]; omega))
  refine wpAny_pure ?_
  show wpAny (model prog w) A (do
      let o ← load s.heap.objs.size
      match o.data with
      | .seq xs _ => pure xs.toList
      | _ => unsupported "internal:collect") Q E { s with heap := (s.heap.push (seqObj "list" #[] 0)).update s.heap.objs.size (Obj.mapSeq (· ++ vs.toArray)) }
  refine wpAny_bind (wpAny_load (get?_update_seq (Heap.get?_push_size _ rfl) _) ?_)
  show wpAny _ _ (pure ((#[] : Array Value) ++ vs.toArray).toList) Q E _
  rw [show ((#[] : Array Value) ++ vs.toArray).toList = vs by simp]
  exact wpAny_pure h
/-- sorted(..) from what was collected -/
theorem sorted_from {pins : List (Addr × Obj)} {s : Shared} {σ : L2.St} {H : Hp} {u : Value} {Q : VK} {ks : List Str} (I : Inv X pins σ H s) (h64 : ks.length < 64)
    (hcol : ∀ {R : List Value → Shared → Prop}, (∀ (h' : Heap) (tk : Nat) (acc : List Value), (∀ b o, s.heap.get? b = some o → h'.get? b = some o) → StrsAre acc ks → R acc { s with heap := h', toks := tk }) → wpAny (model X.prog X.w) X.A.in1 (collect u) R X.xe s)
    (q : ∀ p, H p = none → Q (.ref p) (upd H p (.lst ((sortS ks).map V.str)))) : wpAny (model X.prog X.w) X.A (call (.builtin "sorted") [u]) (EP X pins σ Q) X.xe s := by
  refine Calls.call_function_entry PyProof.Rows.kind_sorted PyProof.Rows.plain_sorted PyProof.Rows.entry_sorted (PyProof.Rows.args_sorted1 _) ?_
  unfold Builtin.«sorted»
  refine wpAny_bind (m := checkCount "sorted" 1 1 _) (wpAny_pure ?_)
  refine wpAny_bind (hcol fun h' tk acc hk hS => ?_)
  have hal : acc.length = ks.length := hS.length
  have I1 : Inv X pins σ H { s with heap := h', toks := tk } := I.kept hk
  refine wpAny_bind (wpAny_newList ?_ (by rw [hal, sizeLine_eq]; omega))
  have hoL : (h'.push (seqObj "list" acc.toArray 0)).get? h'.objs.size = some (seqObj "list" acc.toArray 0) := Heap.get?_push_size _ rfl
  show wpAny _ _ _ _ _ { s with heap := h'.push (seqObj "list" acc.toArray 0), toks := tk }
  refine wpAny_bind (wpAny_holding (wpAny_call_entry PyProof.Rows.slot_list_sort ⟨_, hoL, rfl⟩ PyProof.Rows.entry_list_sort
    (list_sort_treeK strKind_oneLt (s := { s with heap := h'.push (seqObj "list" acc.toArray 0), toks := tk }) hoL hS.keysOf (fun v₁ v₂ rest e => keyKind_strs (by rw [← e]; exact hS)) (by rw [hal]; exact h64) fun st' hp hs => ⟨_, rfl, ?_⟩)
    (PyProof.Rows.args_list_sort _)))
  obtain ⟨ys, g1, g2, g3⟩ := sorted_out_str hS hp hs
  have ey : ys = sortS ks := sorted_is g2 g3
  obtain ⟨e', he'⟩ := PyProof.Rows.sortedHeap_at (vs := acc) (out := (arrOf st').map (·.2)) hoL
  have hlen : (ys.map V.str).length ≤ sizeLine := by
    rw [List.length_map, g2.length_eq]
    exact Nat.le_trans (Nat.le_of_lt h64) (by decide)
  subst ey
  refine wpAny_pure ⟨_, rfl, .ref h'.objs.size, upd H h'.objs.size (.lst ((sortS ks).map V.str)), I1.laid (t' := tk) (fun b u e => ?_) (Nat.le_refl _)
    (show ObjOk X.prog X.w _ _ _ (.lst ((sortS ks).map V.str)) from ⟨hlen, ((arrOf st').map (·.2)).toList, e', vals_of_strs g1, by rw [Array.toArray_toList]; exact he'⟩), rfl, q _ (I1.hok.fresh (Nat.le_refl _))⟩
  have hb : b < h'.objs.size := Heap.lt_size e
  rw [PyProof.Rows.sortedHeap_old (Nat.ne_of_lt hb) (by rw [size_push']; exact Nat.lt_succ_of_lt hb)]
  exact Heap.get?_push_of_some _ e
theorem kept_collect {h : Heap} {vs : List Value} {b : Addr} {o : Obj} (e : h.get? b = some o) : ((h.push (seqObj "list" #[] 0)).update h.objs.size (Obj.mapSeq (· ++ vs.toArray))).get? b = some o := by
  rw [Heap.get?_update_other _ _ (Nat.ne_of_gt (Heap.lt_size e))]
  exact Heap.get?_push_of_some _ e
theorem call_sorted' : CallR X (.builtin "sorted") (rA X.K X.mg cSorted) := by
  intro pins s σ H xs us Q I r ⟨w, S, ds, z, st, rs, h, k⟩
  obtain ⟨d, v, rfl, rfl, rd⟩ := one_of h rfl (fun a _ _ => by cases a <;> rfl) rs
  have h' : ((itemsD d).bind fun ds => (strsD ds).bind fun xs => if xs.length < 64 then some (D.lst ((sortS xs).map D.str)) else none) = some z := h
  obtain ⟨es, h1, h2⟩ := Option.bind_eq_some_iff.mp h'
  obtain ⟨ks, h3, h4⟩ := Option.bind_eq_some_iff.mp h2
  by_cases h64 : ks.length < 64
  · rw [if_pos h64] at h4; cases h4
    obtain ⟨a, ws, rfl, ra, hq⟩ := items_rep st rd h1
    obtain ⟨e, hok⟩ := strs_rep ra h3
    subst e
    obtain ⟨u, rfl, ru⟩ := vals1 r
    cases ru
    have hq' := k.lst st (reps_strs (sortS ks) fun x hx => hok x ((sortS_perm ks).mem_iff.mp hx))
    rcases hq with hq | hq
    · obtain ⟨its, rv, hl, hz⟩ := I.list hq
      refine sorted_from I h64 (fun hR => collect_list hl.isList (hR _ _ _ (fun b o e => kept_collect e) rv.strs) (by rw [← rv.length]; exact hz)) hq'
    · obtain ⟨its, rv, hl, hz⟩ := I.tuple hq.1
      refine sorted_from I h64 (fun hR => collect_tup hl (hR _ _ _ (fun b o e => kept_collect e) rv.strs) (by rw [← rv.length]; exact hz)) hq'
  · rw [if_neg h64] at h4; cases h4
end
end Dv
set_option maxRecDepth 100000
set_option maxHeartbeats 4000000
namespace Dv
open PySem PySem.Spec PyProof.Rows L2
/-! ### sets of texts -/
def ddup (sn : List Str) : List Str → List Str
  | [] => sn
  | x :: r => if x ∈ sn then ddup sn r else ddup (sn ++ [x]) r
theorem ddup_le : ∀ (rs sn : List Str), (ddup sn rs).length ≤ sn.length + rs.length
  | [], sn => Nat.le_refl _
  | x :: r, sn => by
    unfold ddup
    by_cases h : x ∈ sn
    · rw [if_pos h]; exact Nat.le_trans (ddup_le r sn) (by rw [List.length_cons]; omega)
    · rw [if_neg h]; exact Nat.le_trans (ddup_le r _) (by rw [List.length_cons, List.length_append, List.length_singleton]; omega)
def kIn (sn : List Str) (k : Key) : Bool := match k with
  | .inl _ => false
  | .inr x => decide (x ∈ sn)
section
variable {P : Program} {w : World} {A : Around} {R : Result → Shared → Prop} {it : Addr} {ft wt : List Addr} {G : Array GenState → Array GenState → Prop} {n : Nat} {Pr : Nat → Value → Prop} {Stt : Nat → Shared → Prop}
theorem setOf_eqv {h : Heap} {a : Addr} {B B' : Key → Bool} {m m' : Nat} (hS : h.SetOf (mixKind P w) a B m) (e : ∀ k, B k = B' k) (en : m = m') : h.SetOf (mixKind P w) a B' m' := by
  obtain rfl : B = B' := funext e
  exact en ▸ hS
theorem fill_texts (Wk : WalksS P w A.in1 it ft wt G n Pr Stt) (D : Addr) (hD : D ∉ ft) : ∀ (rs : List Str) (i : Nat) (sn : List Str) (s : Shared), i + rs.length = n → (∀ j v, Pr (i + j) v → ∀ x, rs[j]? = some x → ∃ t, v = .str x t) →
    Stt i s → sn.length + rs.length + 1 < scanBound → s.heap.SetOf (mixKind P w) D (kIn sn) sn.length →
    (∀ s', Moved (D :: wt) G s s' → s'.heap.SetOf (mixKind P w) D (kIn (ddup sn rs)) (ddup sn rs).length → R (.ok (.ret .none)) s') →
    codeAny (model P w) A (.builtin "set.update.loop" ⟨[.ref D, .ref it], []⟩) R s
  | [], i, sn, s, hi, hv, st, hb, hS, hR => by
    obtain rfl : i = n := by simpa using hi
    refine codeAny_builtin PyProof.Rows.F.entry_set_update_loop ?_
    rw [Around.under_plainId PyProof.Rows.F.plain_set_update_loop _]
    show wpAny _ A.in1 (pyNext (.ref it) >>= _) _ _ s
    have dw : D ∉ wt := fun q => hD (Wk.sub _ q)
    refine wpAny_bind (Wk.done s _ _ st fun s2 mv => ?_)
    show wpAny _ A.in1 (ret Value.none) _ _ s2
    obtain ⟨o, es, ep, t, ho, rest⟩ := hS
    exact wpAny_pure (hR s2 (mv.mono fun b hb => List.mem_cons_of_mem D hb) ⟨o, es, ep, t, mv.heap D _ dw ho, rest⟩)
  | x :: r, i, sn, s, hi, hv, st, hb, hS, hR => by
    have lt : i < n := by rw [List.length_cons] at hi; omega
    refine codeAny_builtin PyProof.Rows.F.entry_set_update_loop ?_
    rw [Around.under_plainId PyProof.Rows.F.plain_set_update_loop _]
    show wpAny _ A.in1 (pyNext (.ref it) >>= _) _ _ s
    have dw : D ∉ wt := fun q => hD (Wk.sub _ q)
    have up : ∀ b ∈ wt, b ∈ D :: wt := fun b hb => List.mem_cons_of_mem D hb
    refine wpAny_bind (Wk.item i s _ _ lt st fun v s2 pv st2 mv => ?_)
    obtain ⟨t, rfl⟩ := hv 0 v (by simpa using pv) x rfl
    have hS2 : s2.heap.SetOf (mixKind P w) D (kIn sn) sn.length := by
      obtain ⟨o, es, ep, tb, ho, rest⟩ := hS
      exact ⟨o, es, ep, tb, mv.heap D _ dw ho, rest⟩
    show wpAny _ A.in1 (holding [Value.str x t] (setAdd D (.str x t)) >>= _) _ _ s2
    refine wpAny_bind (wpAny_holding ?_)
    unfold setAdd
    have kx : keyIs (.inr x) (.str x t) = true := keyIs_str x t
    refine wpAny_holding (wpAny_bind ((mixKind P w).pyHash (k := .inr x) kx ?_))
    have few : sn.length + 1 < scanBound := by rw [List.length_cons] at hb; omega
    refine wpAny_setAddHashed_of (knd := mixKind P w) (s := { s2 with toks := s2.toks + 1 }) kx rfl hS2 few fun h3 sb hS3 => ?_
    have e3 : ∃ sn2, ddup sn (x :: r) = ddup sn2 r ∧ sn2.length ≤ sn.length + 1 ∧ h3.SetOf (mixKind P w) D (kIn sn2) sn2.length := by
      by_cases hx : x ∈ sn
      · refine ⟨sn, by rw [ddup, if_pos hx], Nat.le_succ _, setOf_eqv hS3 (fun k => ?_) (by simp [kIn, hx])⟩
        by_cases q : k = .inr x
        · subst q; simp [kIn, hx]
        · simp [q]
      · refine ⟨sn ++ [x], by rw [ddup, if_neg hx], by simp, setOf_eqv hS3 (fun k => ?_) (by simp [kIn, hx])⟩
        cases k with
        | inl j => simp [kIn]
        | inr y => simp [kIn]
    obtain ⟨sn2, e1, e2, hS4⟩ := e3
    refine wpAny_pure ⟨plainId_quiet PyProof.Rows.F.plain_set_update_loop _, fill_texts Wk D hD r (i + 1) sn2 _ (by rw [List.length_cons] at hi; omega) (fun j v q y hy => hv (j + 1) v (by rw [show i + (j + 1) = i + 1 + j by omega]; exact q) y (by simpa using hy))
      (Wk.frame _ s2 _ _ st2 (Nat.le_succ _) fun b hb2 o e => ?_) (by rw [List.length_cons] at hb; omega) hS4 fun s5 mv5 hS5 => ?_⟩
    · rw [sb.2 b (fun q : b = D => hD (by rw [← q]; exact hb2))]; exact e
    · rw [e1] at hR
      refine hR s5 (Moved.trans Wk.gtrans ((mv.mono up).then_heap (Nat.le_succ _) fun b o hb2 e => ?_) mv5) hS5
      rw [sb.2 b (fun q : b = D => hb2 (by rw [q]; exact List.mem_cons_self))]; exact e
/-- a tuple's walk -/
theorem walkTup (hh : A.handled = none) (I t : Addr) (ne : t ≠ I) (xs : Array Value) :
    Walks P w A I [I, t] [I] xs.size (fun i v => xs[i]? = some v) (fun i h => h.IsTupleIter I t i ∧ h.IsTuple t xs) where
  sub := fun b hb => List.mem_cons.mpr (.inl (List.mem_singleton.mp hb))
  frame := fun i h h2 st hk => by
    obtain ⟨⟨o, ho, r⟩, ⟨o2, ho2, r2⟩⟩ := st
    exact ⟨⟨o, hk I (by simp) o ho, r⟩, ⟨o2, hk t (by simp) o2 ho2, r2⟩⟩
  item := fun i s Q E hi st hQ => wpAny_pyNext_tuple_item st.1 st.2 (x := xs[i]) (Array.getElem?_eq_getElem hi) fun h2 it2 sb =>
    hQ _ h2 s.toks (Array.getElem?_eq_getElem hi) ⟨it2, st.2.extBut sb.extBut ne⟩ fun b o hb e => sb.extBut b o (fun q => hb (List.mem_singleton.mpr q)) e
  done := fun s Q E st hQ => wpAny_pyNext_tuple_end hh st.1 st.2 (Array.getElem?_eq_none (Nat.le_refl _)) fun h2 he => hQ h2 s.toks fun b o hb e => he b o (fun q => hb (List.mem_singleton.mpr q)) e
  self := fun i s Q E st hQ => by
    refine wpAny_pyIter_slot st.1.typeIs F.slot_tuple_iterator_iter (wpAny_call_entry F.slot_tuple_iterator_iter st.1.typeIs F.entry_tuple_iterator_iter ?_ (F.args_tuple_iterator_iter_1 _))
    show wpAny _ _ (ret (.ref I)) _ _ s
    exact wpAny_pure ⟨_, rfl, "tuple_iterator", _, st.1.typeIs, F.slot_tuple_iterator_next.lookup, hQ⟩
end
theorem sub_tup_set : isSubtype (.type "tuple") (.type "set") = pure false := by rw [isSubtype_type] <;> kernel_rfl
theorem sub_tup_frz : isSubtype (.type "tuple") (.type "frozenset") = pure false := by rw [isSubtype_type] <;> kernel_rfl
section
variable {P : Program} {w : World} {A : Around} {E : Value → Shared → Prop} {s : Shared}
/-- what an iteration over u gives: the texts ks -/
structure Texts (P : Program) (w : World) (A : Around) (s : Shared) (T : String) (u : Addr) (ks : List Str) : Prop where
  ty : s.TypeIs (.ref u) T
  s1 : isSubtype (.type T) (.type "set") = pure false
  s2 : isSubtype (.type T) (.type "frozenset") = pure false
  ne : (Value.type T == Value.type "dict") = false
  it : ∀ {h : Heap} {A' : Around} {E' : Value → Shared → Prop} {Q : Value → Shared → Prop} {st : Shared}, st.heap = h → (∀ b o, s.heap.get? b = some o → h.get? b = some o) →
    (∀ (o : Obj) (Pr : Nat → Value → Prop) (Stt : Nat → Heap → Prop) (ft : List Addr), (∀ A2 : Around, A2.handled = none → Walks P w A2 h.objs.size ft [h.objs.size] ks.length Pr Stt) → (∀ b ∈ ft, b = h.objs.size ∨ b < s.heap.objs.size) →
      Stt 0 (h.push o) → (∀ i v, Pr i v → ∀ x, ks[i]? = some x → ∃ t, v = .str x t) → Q (.ref h.objs.size) { st with heap := h.push o }) →
    wpAny (model P w) A' (pyIter (.ref u)) Q E' st
set_option maxHeartbeats 8000000 in
theorem set_texts {T : String} {u : Addr} {ks : List Str} {Q : Value → Shared → Prop} (hh : A.handled = none) (tx : Texts P w A s T u ks) (hb : ks.length + 1 < scanBound)
    (h : ∀ (h' : Heap) (tk : Nat), h'.SetOf (mixKind P w) s.heap.objs.size (kIn (ddup [] ks)) (ddup [] ks).length → (∀ b o, b < s.heap.objs.size → s.heap.get? b = some o → h'.get? b = some o) → Q (.ref s.heap.objs.size) { s with heap := h', toks := tk }) :
    wpAny (model P w) A (call (.type "set") [.ref u]) Q E s := by
  obtain ⟨cc, tl, hmro⟩ := PySem.F.called_set.mro
  have m1 := PySem.F.called_set.made
  have m2 := PySem.F.called_set.sub
  refine wpAny_call (codeAny_of_tree ?_)
  show wpAny _ _ (callAny (.type "set") _) _ _ _
  refine wpAny_pure ⟨Code.quiet_builtin _ (by decide +kernel), codeAny_builtin PySem.F.entry_type_call ?_⟩
  rw [Around.under_plain (weight_type_call_type "set" [.ref u] []) rfl]
  have m3 := PySem.F.called_set.notType
  have m4 := PySem.F.called_set.canCreate
  have m5 := F.typeCall_set_1 (.ref u)
  repeat (any_goals (first | assumption | wp_step))
  refine codeAny_mono (code_set_new_1 (.ref u) (E := E) (Q₁ := fun obj s1 => ∃ led : Bool, obj = .ref s.heap.objs.size ∧ s1 = { s with heap := s.heap.push { cls := .type "set", dict := none, data := .set #[] 0 (.fresh 0 0 led) } }) fun led => ⟨led, rfl, rfl⟩) fun r s1 hr => ?_
  cases r with
  | error e => exact hr
  | ok fl =>
    cases fl with
    | ret obj =>
      obtain ⟨led, rfl, rfl⟩ := hr
      have new : (s.heap.push { cls := .type "set", dict := none, data := .set #[] 0 (.fresh 0 0 led) }).get? s.heap.objs.size = some { cls := .type "set", dict := none, data := .set #[] 0 (.fresh 0 0 led) } := Heap.get?_push_size _ rfl
      have ty2 : Shared.TypeIs { s with heap := s.heap.push { cls := .type "set", dict := none, data := .set #[] 0 (.fresh 0 0 led) } } (.ref s.heap.objs.size) "set" := ⟨_, new, rfl⟩
      have m6 := PySem.F.called_set.init.lookup
      have m7 := PySem.F.called_set.init.bind (.ref s.heap.objs.size)
      repeat (any_goals (first | assumption | wp_step))
      refine codeAny_mono (codeAny_call_builtin (R := wants (fun r s2 => r = .none ∧ ∃ h' tk, s2 = { s with heap := h', toks := tk } ∧
          h'.SetOf (mixKind P w) s.heap.objs.size (kIn (ddup [] ks)) (ddup [] ks).length ∧ (∀ b o, b < s.heap.objs.size → s.heap.get? b = some o → h'.get? b = some o)) E)
          PySem.F.called_set.init.plain PySem.F.entry_set_init (check_set_init_1 ty2 ?_)) fun r2 s2 hr2 => ?_
      · obtain ⟨ou, hou, hcu⟩ := tx.ty
        have tyU : Shared.TypeIs { s with heap := s.heap.push { cls := .type "set", dict := none, data := .set #[] 0 (.fresh 0 0 led) } } (.ref u) T := ⟨ou, Heap.get?_push_of_some _ hou, hcu⟩
        have b1 := tx.s1
        have b2 := tx.s2
        have b3 := tx.ne
        unfold Builtin.«set.__init__» noKeywords Builtin.Frozenset.updateFrom
        generalize hPI : pyIter = PI
        wp_walk
        subst hPI
        have lS : s.heap.objs.size < (s.heap.push { cls := .type "set", dict := none, data := .set #[] 0 (.fresh 0 0 led) }).objs.size := by rw [Heap.size_push]; exact Nat.lt_succ_self _
        refine tx.it rfl (fun b o e => Heap.get?_push_of_some _ e) fun o Pr Stt ft Wk hf st hv => ?_
        have h3 : A.in1.in1.in1.handled = none := by simp [hh]
        have hD : s.heap.objs.size ∉ ft := fun q => by
          rcases hf _ q with q | q
          · exact Nat.lt_irrefl _ (q ▸ lS)
          · exact Nat.lt_irrefl _ q
        refine wpAny_bind (wpAny_runValue ?_)
        refine fill_texts (Wk _ h3).toS s.heap.objs.size hD ks 0 [] _ (Nat.zero_add _) (fun j v q x hx => hv j v (by simpa using q) x hx) st (by simpa using hb) ?_ fun s' mv hS' => ?_
        · exact ⟨_, #[], 0, _, Heap.get?_push_of_some _ new, ⟨rfl, rfl, rfl⟩, rfl, (fun e he => by simp at he), (fun k => by cases k <;> simp [kIn]), (by decide), (by rfl), rfl⟩
        · obtain ⟨h', g', d', tk', os'⟩ := s'
          obtain rfl : g' = s.gens := mv.gens
          obtain rfl : d' = s.drawn := mv.drawn
          obtain rfl : os' = s.os := mv.os
          refine wpAny_pure ?_
          show wpAny _ _ (ret Value.none) _ _ _
          refine wpAny_pure ⟨rfl, h', tk', rfl, hS', fun b o hb2 e => ?_⟩
          refine mv.heap b o (fun q => ?_) (Heap.get?_push_of_some _ (Heap.get?_push_of_some _ e))
          rcases List.mem_cons.mp q with q | q
          · exact Nat.ne_of_lt hb2 q
          · exact Nat.ne_of_lt (Nat.lt_trans hb2 lS) (List.mem_singleton.mp q)
      · cases r2 with
        | error e => exact hr2
        | ok fl2 =>
          cases fl2 with
          | ret r =>
            obtain ⟨rfl, h', tk, rfl, hS2, hk2⟩ := hr2
            repeat (any_goals (first | assumption | wp_step))
            exact h _ _ hS2 hk2
          | _ => exact hr2.elim
    | _ => exact hr.elim
end
end Dv
set_option maxRecDepth 100000
set_option maxHeartbeats 4000000
namespace Dv
open PySem PySem.Spec PyProof.Rows L2
section
variable {P : Program} {w : World} {A : Around} {E : Value → Shared → Prop} {s : Shared}
theorem str_at : ∀ {vs : List Value} {ks : List Str}, StrsAre vs ks → ∀ {i : Nat} {v : Value} {x : Str}, vs[i]? = some v → ks[i]? = some x → ∃ t, v = .str x t
  | _, _, .nil, i, v, x, h, _ => by simp at h
  | _, _, .cons y t r, 0, v, x, h, h2 => by
    simp at h h2
    exact ⟨t, by rw [← h, ← h2]⟩
  | _, _, .cons y t r, i + 1, v, x, h, h2 => str_at r (by simpa using h) (by simpa using h2)
theorem texts_list {l : Addr} {vs : List Value} {ks : List Str} (hl : s.heap.IsList l vs.toArray) (hk : StrsAre vs ks) : Texts P w A s "list" l ks where
  ty := let ⟨o, ho, hc, _⟩ := hl; ⟨o, ho, hc⟩
  s1 := F.sub_list_set
  s2 := F.sub_list_frozenset
  ne := by decide
  it := fun {h A' E' Q st} e ext hQ => by
    subst e
    have hl2 : st.heap.IsList l vs.toArray := let ⟨o, ho, r⟩ := hl; ⟨o, ext l o ho, r⟩
    have ll : l < s.heap.objs.size := let ⟨o, ho, _⟩ := hl; Heap.lt_size ho
    have ll2 : l < st.heap.objs.size := let ⟨o, ho, _⟩ := hl2; Heap.lt_size ho
    refine wpAny_pyIter_list hl2 (hQ _ (fun i v => vs.toArray[i]? = some v) (fun i h => h.IsListIter st.heap.objs.size l i ∧ h.IsList l vs.toArray) [st.heap.objs.size, l] (fun A2 h2 => ?_) (fun b hb => ?_) (⟨⟨_, Heap.get?_push_size _ rfl, rfl, rfl⟩, hl2.push _⟩) fun i v hv x hx => ?_)
    · have hz : vs.toArray.size = ks.length := by rw [List.size_toArray] <;> exact hk.length
      rw [← hz]
      exact Walks.list h2 st.heap.objs.size l (Nat.ne_of_lt ll2) vs.toArray
    · rcases List.mem_cons.mp hb with q | q
      · exact .inl q
      · exact .inr (List.mem_singleton.mp q ▸ ll)
    · exact str_at hk (by simpa using hv) hx
theorem texts_tup {l : Addr} {vs : List Value} {ks : List Str} (hl : s.heap.IsTuple l vs.toArray) (hk : StrsAre vs ks) : Texts P w A s "tuple" l ks where
  ty := let ⟨o, ho, hc, _⟩ := hl; ⟨o, ho, hc⟩
  s1 := sub_tup_set
  s2 := sub_tup_frz
  ne := by decide
  it := fun {h A' E' Q st} e ext hQ => by
    subst e
    have hl2 : st.heap.IsTuple l vs.toArray := let ⟨o, ho, r⟩ := hl; ⟨o, ext l o ho, r⟩
    have ll : l < s.heap.objs.size := let ⟨o, ho, _⟩ := hl; Heap.lt_size ho
    have ll2 : l < st.heap.objs.size := let ⟨o, ho, _⟩ := hl2; Heap.lt_size ho
    refine wpAny_pyIter_tuple hl2 (hQ _ (fun i v => vs.toArray[i]? = some v) (fun i h => h.IsTupleIter st.heap.objs.size l i ∧ h.IsTuple l vs.toArray) [st.heap.objs.size, l] (fun A2 h2 => ?_) (fun b hb => ?_) (⟨⟨_, Heap.get?_push_size _ rfl, rfl, rfl⟩, hl2.push _⟩) fun i v hv x hx => ?_)
    · have hz : vs.toArray.size = ks.length := by rw [List.size_toArray] <;> exact hk.length
      rw [← hz]
      exact walkTup h2 st.heap.objs.size l (Nat.ne_of_lt ll2) vs.toArray
    · rcases List.mem_cons.mp hb with q | q
      · exact .inl q
      · exact .inr (List.mem_singleton.mp q ▸ ll)
    · exact str_at hk (by simpa using hv) hx
end
def cLenSet : F1 := fun d => (itemsD d).bind fun ds => (strsD ds).bind fun xs => if xs.length < 64 then some (.int (ddup [] xs).length) else none
theorem E_lenSet {X : Cx} {W : WX} {x y : Str} {p p2 q pos : Pos} {e : Expr} {gr : G} (hc : X.calm = true) (hg : Gl X x) (hm : X.mg x = none) (hv : bootBuiltins x = some (.builtin "len")) (hn : x ≠ "__name__") (d1 : (x == ("__debug__" : Str)) = false)
    (hg2 : Gl X y) (hm2 : X.mg y = none) (hv2 : bootBuiltins y = some (.type "set")) (hn2 : y ≠ "__name__") (d2 : (y == ("__debug__" : Str)) = false)
    (ha : PE X e (tI X.K X.mg W gr)) (na : starEach [e] X.env = (false, eval e X.env) :: starEach [] X.env) :
    PE X (.Call (.Name x p) [.Call (.Name y p2) [e] [] q] [] pos) (tI X.K X.mg W (gO1 false cLenSet gr)) := by
  refine ⟨fun pins s σ H Q I h => ?_⟩
  refine wpAny_Call_Name_kw (ld_blt I hg hm hv ?_ hn d1)
  refine PyProof.Rows.callWith_builtin1 (PyProof.Rows.args_cons ?_ rfl) rfl rfl
  refine wpAny_Call_Name_kw (ld_blt I hg2 hm2 hv2 ?_ hn2 d2)
  refine PyProof.Rows.callWith_type1 (PyProof.Rows.args_cons (thn (ha.run pins s σ H _ I (R_1 h)) fun v s1 ⟨z, H1, I1, r1, q1⟩ => PyProof.Rows.args_nil ?_) na) na rfl
  obtain ⟨w, S, d, z, st, rd, hf, k⟩ := q1
  obtain ⟨es, h1, h2⟩ := Option.bind_eq_some_iff.mp hf
  obtain ⟨ks, h3, h4⟩ := Option.bind_eq_some_iff.mp h2
  by_cases h64 : ks.length < 64
  · rw [if_pos h64] at h4; cases h4
    obtain ⟨a, ws, rfl, ra, hq⟩ := items_rep st rd h1
    obtain ⟨e, _⟩ := strs_rep ra h3
    subst e
    cases r1
    have end_ : ∀ (h' : Heap) (tk : Nat), h'.SetOf (mixKind X.prog X.w) s1.heap.objs.size (kIn (ddup [] ks)) (ddup [] ks).length → (∀ b o, b < s1.heap.objs.size → s1.heap.get? b = some o → h'.get? b = some o) →
        wpAny (model X.prog X.w) X.A (call (.builtin "len") [.ref s1.heap.objs.size]) (EP X pins σ Q) X.xe { s1 with heap := h', toks := tk } := fun h' tk hS hk => by
      obtain ⟨o, es2, ep, t, ho, hex, hd, _, _, _, hf2, hn2⟩ := hS
      have I2 : Inv X pins σ H1 { s1 with heap := h', toks := tk } := I1.kept fun b o e => hk b o (Heap.lt_size e) e
      have small := ddup_le ks []
      refine call_len_set ho hex hd hf2 (by rw [hn2] <;> simp at small <;> omega) ⟨.int (ddup [] ks).length, H1, I2.tok _, ⟨_, by rw [hn2]⟩, k.here st (.int _)⟩
    rcases hq with hq | hq
    · obtain ⟨its, rv, hl, hz⟩ := I1.list hq
      exact set_texts (I1.ok.hd hc) (texts_list hl.isList rv.strs) (by unfold scanBound; omega) fun h' tk hS hk => PyProof.Rows.args_nil (end_ h' tk hS hk)
    · obtain ⟨its, rv, hl, hz⟩ := I1.tuple hq.1
      exact set_texts (I1.ok.hd hc) (texts_tup hl rv.strs) (by unfold scanBound; omega) fun h' tk hS hk => PyProof.Rows.args_nil (end_ h' tk hS hk)
  · rw [if_neg h64] at h4; cases h4
end Dv
set_option maxRecDepth 100000
set_option maxHeartbeats 4000000
namespace Dv
open PySem PySem.Spec PyProof.Rows L2
/-! ### sorted(set(texts)) -/
def keyT (e : Int × Value) : Str := match e.2 with
  | .str k _ => k
  | _ => Str.empty
def GoodT (P : Program) (w : World) (e : Int × Value) : Prop := ∃ k tk, e.2 = Value.str k tk ∧ e.1 = (strKind P w).hash k
/-- the set of the texts xs at a; its table can be walked -/
def SetS (P : Program) (w : World) (h : Heap) (a : Addr) (xs : List Str) : Prop := ∃ o es ep t, h.get? a = some o ∧ o.ExactSet ∧ o.data = .set es ep t ∧ (∀ e ∈ es.toList, GoodT P w e) ∧ xs.Nodup ∧ (es.toList.map keyT).Perm xs ∧
  es.size < scanBound ∧ t.fits es.size = true ∧ Ris t.place.toList ∧ (w.params.followText "set-order" = true ∨ t.led = true)
section
variable {P : Program} {w : World} {A : Around} {E : Value → Shared → Prop} {s : Shared} {a : Addr} {xs : List Str}
theorem SetS.at {h h' : Heap} (R : SetS P w h a xs) (k : ∀ o, h.get? a = some o → h'.get? a = some o) : SetS P w h' a xs := let ⟨o, es, ep, t, ho, r⟩ := R; ⟨o, es, ep, t, k o ho, r⟩
theorem goodT_is {e : Int × Value} (g : GoodT P w e) (k : Str) : (strKind P w).is k e.2 = true ↔ keyT e = k := by
  obtain ⟨k0, tk, h1, _⟩ := g
  unfold keyT
  rw [h1]
  rw [KeyKind.is_eq_decide (strKind_is P w k0 tk) k, decide_eq_true_eq]
  exact eq_comm
theorem goodT_els {l : List (Int × Value)} (g : ∀ e ∈ l, GoodT P w e) : ElemsOf (strKind P w) l := fun e he => by
  obtain ⟨k, tk, h1, h2⟩ := g e he
  exact ⟨⟨k, by rw [h1]; exact strKind_is P w k tk, h2⟩, by rw [h1]; rfl⟩
theorem goodT_mem {l : List (Int × Value)} (g : ∀ e ∈ l, GoodT P w e) (k : Str) : k ∈ l.map keyT ↔ ∃ e ∈ l, (strKind P w).is k e.2 = true := by
  rw [List.mem_map]
  exact ⟨fun ⟨e, he, q⟩ => ⟨e, he, (goodT_is (g e he) k).2 q⟩, fun ⟨e, he, q⟩ => ⟨e, he, (goodT_is (g e he) k).1 q⟩⟩
theorem setS_tail {g : Bool → Sem Unit} (hg : ∀ (b : Bool) (z : Shared) (Q' : Unit → Shared → Prop), Q' () z → wpAny (model P w) A (g b) Q' E z) {o : Obj} {es es1 : Array (Int × Value)} {ep : Nat} {t t2 : SetTable} {ys : List Str} {wd : Bool} {R : Option Bool → Shared → Prop}
    (ho : s.heap.get? a = some o) (hex : o.ExactSet) (hd : o.data = .set es ep t) (g1 : ∀ e ∈ es1.toList, GoodT P w e) (nd : ys.Nodup) (m1 : (es1.toList.map keyT).Perm ys) (hb1 : es1.size < scanBound) (hf2 : t2.fits es1.size = true) (hr : Ris t2.place.toList) (hl : w.params.followText "set-order" = true ∨ t2.led = true)
    (hR : ∀ h', Heap.SameBut a s.heap h' → SetS P w h' a ys → R (some true) { s with heap := h' }) :
    wpAny (model P w) A (do
        storeSet a es1 t2
        if (!wd && t2.tooFull) = true then do
            g (relayAll t2 es1 (SetTable.grown es1.size)).2.2
            storeSet a (relayAll t2 es1 (SetTable.grown es1.size)).1 (relayAll t2 es1 (SetTable.grown es1.size)).2.1
            pure (some true)
          else pure (some true)) R E s := by
  refine wpAny_bind (wpAny_storeSet_of ho hd ?_ (fits_of_scanBound hb1))
  have o1 := store_at (es' := es1) (t' := t2) ho hd
  have b1 := Heap.SameBut.update s.heap a (Obj.putSet es1 t2)
  split
  · have pm := relayAll_perm t2 es1 (SetTable.grown es1.size)
    have f3 := relayAll_fits t2 es1 (SetTable.grown es1.size)
    have r3 := relayAll_ris t2 es1 (SetTable.grown es1.size)
    have l3 := relayAll_led t2 es1 (SetTable.grown es1.size)
    generalize relayAll t2 es1 (SetTable.grown es1.size) = Z at pm f3 r3 l3 ⊢
    obtain ⟨es2, t3, gave⟩ := Z
    dsimp only at pm f3 r3 l3 ⊢
    have hz : es2.size = es1.size := by rw [← Array.length_toList, pm.length_eq, Array.length_toList]
    have hb2 : es2.size < scanBound := hz ▸ hb1
    refine wpAny_bind (hg _ _ _ (wpAny_bind (wpAny_storeSet_of o1 rfl (wpAny_pure (hR _ (b1.trans (Heap.SameBut.update _ a _)) ?_)) (fits_of_scanBound hb2))))
    exact ⟨_, es2, _, t3, store_at (es' := es2) (t' := t3) o1 rfl, hex, rfl, fun e he => g1 e (pm.mem_iff.mp he), nd, (pm.map keyT).trans m1, hb2, f3, r3, hl.imp id fun z => by rw [l3]; exact z⟩
  · exact wpAny_pure (hR _ b1 ⟨_, es1, _, t2, o1, hex, rfl, g1, nd, m1, hb1, hf2, hr, hl⟩)
theorem setS_add {k : Str} {tk : Tok} {Q : Bool → Shared → Prop} (R : SetS P w s.heap a xs) (room : xs.length + 1 < scanBound)
    (hQ : ∀ b h', Heap.SameBut a s.heap h' → SetS P w h' a (if k ∈ xs then xs else xs ++ [k]) → Q b { s with heap := h' }) : wpAny (model P w) A (setAddHashed a (.str k tk) ((strKind P w).hash k)) Q E s := by
  obtain ⟨o, es, ep, t, ho, hex, hd, g, nd, hm, hb, hf, hr, hl⟩ := R
  have hkey : (strKind P w).is k (.str k tk) = true := strKind_is P w k tk
  have hsc : (Value.str k tk).scannable = true := rfl
  have hel : ElemsOf (strKind P w) es.toList := goodT_els g
  unfold setAddHashed setAddHashedIn
  refine wpAny_holding (wpAny_bind (wpAny_setState_of ho hd hf ?_))
  dsimp only
  rw [byScan_of hsc hb hel]
  simp only [↓reduceIte]
  unfold setAddByScan
  refine wpAny_bind (wpAny_bind (wpAny_rule (wpAny_bind (wpAny_setScan_of hkey ho hd hf hel ?_))))
  cases hfi : List.findIdx? (fun e => (strKind P w).is k e.2) es.toList with
  | some j =>
    dsimp only
    obtain ⟨hj, pj, _⟩ := List.findIdx?_eq_some_iff_getElem.mp hfi
    have hk : k ∈ xs := hm.mem_iff.mp ((goodT_mem g k).2 ⟨es.toList[j], List.getElem_mem hj, pj⟩)
    refine wpAny_pure (wpAny_pure (hQ _ s.heap (Heap.SameBut.refl a s.heap) ?_))
    rw [if_pos hk]
    exact ⟨o, es, ep, t, ho, hex, hd, g, nd, hm, hb, hf, hr, hl⟩
  | none =>
    dsimp only
    have hnk : k ∉ xs := fun z => by
      obtain ⟨e, he, q⟩ := (goodT_mem g k).1 (hm.mem_iff.mpr z)
      have c := List.findIdx?_eq_none_iff.mp hfi e he
      rw [q] at c; cases c
    rw [if_neg hnk] at hQ
    have hgw : ∀ (b : Bool) {z : Shared} {Q' : Unit → Shared → Prop}, Q' () z → wpAny (model P w) A (match b with | true => rule "set.scan.the-table-gave-way" | false => pure ()) Q' E z := fun b z Q' q => by
      cases b <;> first | exact wpAny_pure q | exact wpAny_rule q
    have pm := layNew_perm t es ((strKind P w).hash k) (.str k tk)
    have f1 := layNew_fits t es ((strKind P w).hash k) (.str k tk)
    have r1 := layNew_ris t es ((strKind P w).hash k) (.str k tk) hr
    have l1 := layNew_led t es ((strKind P w).hash k) (.str k tk)
    generalize layNew t es ((strKind P w).hash k) (.str k tk) = Z at pm f1 r1 l1 ⊢
    obtain ⟨es1, t1, wd, gave⟩ := Z
    dsimp only at pm f1 r1 l1 ⊢
    rw [Array.toList_push] at pm
    have pk : (es1.toList.map keyT).Perm (xs ++ [k]) := by
      have q := pm.map keyT
      rw [List.map_append] at q
      exact q.trans (hm.append_right _)
    have g1 : ∀ e ∈ es1.toList, GoodT P w e := fun e he => by
      rcases List.mem_append.mp (pm.mem_iff.mp he) with z | z
      · exact g e z
      · rw [List.mem_singleton.mp z]; exact ⟨k, tk, rfl, rfl⟩
    have nd1 : (xs ++ [k]).Nodup := by
      rw [List.nodup_append]
      exact ⟨nd, by simp, fun x hx y hy e => hnk (by rw [List.mem_singleton] at hy; rw [← hy, ← e]; exact hx)⟩
    have hz : es1.size = xs.length + 1 := by
      have q := pk.length_eq
      rw [List.length_map, Array.length_toList, List.length_append] at q
      exact q
    have hb1 : es1.size < scanBound := hz ▸ room
    have hled : w.params.followText "set-order" = true ∨ t1.led = true := hl.imp id fun z => by rw [l1]; exact z
    refine wpAny_bind (hgw _ ?_)
    split
    · refine wpAny_bind ?_
      rw [hashByValue_scannable 8 hsc]
      refine wpAny_pure (setS_tail ?_ ho hex hd g1 nd1 pk hb1 ?_ ?_ ?_ ?_)
      · intro b z Q' q; cases b <;> first | exact wpAny_pure q | exact wpAny_rule q
      · first | (split <;> first | exact f1 | exact SetTable.fits_plain_off f1) | exact f1
      · first | (split <;> exact r1) | exact r1
      · first | (split <;> exact hled) | exact hled
      · intro h' sb r; dsimp only; exact wpAny_pure (hQ _ h' sb r)
    · refine wpAny_bind (wpAny_pure ?_)
      simp only [↓reduceIte]
      refine setS_tail ?_ ho hex hd g1 nd1 pk hb1 f1 r1 hled ?_
      · intro b z Q' q; cases b <;> first | exact wpAny_pure q | exact wpAny_rule q
      · intro h' sb r; dsimp only; exact wpAny_pure (hQ _ h' sb r)
end
theorem ddup_nodup : ∀ (rs sn : List Str), sn.Nodup → (ddup sn rs).Nodup
  | [], sn, h => h
  | x :: r, sn, h => by
    unfold ddup
    by_cases hx : x ∈ sn
    · rw [if_pos hx]; exact ddup_nodup r sn h
    · rw [if_neg hx]
      refine ddup_nodup r _ ?_
      rw [List.nodup_append]
      exact ⟨h, by simp, fun y hy z hz e => hx (by rw [List.mem_singleton] at hz; rw [← hz, ← e]; exact hy)⟩
theorem ddup_mem : ∀ (rs sn : List Str) (y : Str), y ∈ ddup sn rs ↔ y ∈ sn ∨ y ∈ rs
  | [], sn, y => by simp [ddup]
  | x :: r, sn, y => by
    unfold ddup
    by_cases hx : x ∈ sn
    · rw [if_pos hx, ddup_mem r sn y, List.mem_cons]
      refine ⟨fun h => h.elim .inl fun h => .inr (.inr h), fun h => h.elim .inl fun h => h.elim (fun h => .inl (h ▸ hx)) .inr⟩
    · rw [if_neg hx, ddup_mem r _ y, List.mem_append, List.mem_singleton, List.mem_cons, or_assoc]
section
variable {P : Program} {w : World} {A : Around} {R : Result → Shared → Prop} {it : Addr} {ft wt : List Addr} {G : Array GenState → Array GenState → Prop} {n : Nat} {Pr : Nat → Value → Prop} {Stt : Nat → Shared → Prop}
theorem fill_set (Wk : WalksS P w A.in1 it ft wt G n Pr Stt) (D : Addr) (hD : D ∉ ft) : ∀ (rs : List Str) (i : Nat) (sn : List Str) (s : Shared), i + rs.length = n → (∀ j v, Pr (i + j) v → ∀ x, rs[j]? = some x → ∃ t, v = .str x t) → Stt i s → sn.length + rs.length + 1 < scanBound → SetS P w s.heap D sn →
    (∀ s', Moved (D :: wt) G s s' → SetS P w s'.heap D (ddup sn rs) → R (.ok (.ret .none)) s') → codeAny (model P w) A (.builtin "set.update.loop" ⟨[.ref D, .ref it], []⟩) R s
  | [], i, sn, s, hi, hv, st, hb, hS, hR => by
    obtain rfl : i = n := by simpa using hi
    refine codeAny_builtin PyProof.Rows.F.entry_set_update_loop ?_
    rw [Around.under_plainId PyProof.Rows.F.plain_set_update_loop _]
    show wpAny _ A.in1 (pyNext (.ref it) >>= _) _ _ s
    refine wpAny_bind (Wk.done s _ _ st fun s2 mv => ?_)
    show wpAny _ A.in1 (ret Value.none) _ _ s2
    exact wpAny_pure (hR s2 (mv.mono fun b hb => List.mem_cons_of_mem D hb) (hS.at fun o ho => mv.heap D o (fun q => hD (Wk.sub _ q)) ho))
  | x :: r, i, sn, s, hi, hv, st, hb, hS, hR => by
    have lt : i < n := by rw [List.length_cons] at hi; omega
    refine codeAny_builtin PyProof.Rows.F.entry_set_update_loop ?_
    rw [Around.under_plainId PyProof.Rows.F.plain_set_update_loop _]
    show wpAny _ A.in1 (pyNext (.ref it) >>= _) _ _ s
    have up : ∀ b ∈ wt, b ∈ D :: wt := fun b hb => List.mem_cons_of_mem D hb
    refine wpAny_bind (Wk.item i s _ _ lt st fun v s2 pv st2 mv => ?_)
    obtain ⟨t, rfl⟩ := hv 0 v (by simpa using pv) x rfl
    have hS2 : SetS P w s2.heap D sn := hS.at fun o ho => mv.heap D o (fun q => hD (Wk.sub _ q)) ho
    show wpAny _ A.in1 (holding [Value.str x t] (setAdd D (.str x t)) >>= _) _ _ s2
    refine wpAny_bind (wpAny_holding ?_)
    unfold setAdd
    refine wpAny_holding (wpAny_bind ((strKind P w).pyHash (strKind_is P w x t) ?_))
    have few : sn.length + 1 < scanBound := by rw [List.length_cons] at hb; omega
    refine setS_add (s := { s2 with toks := s2.toks + 1 }) hS2 few fun b0 h3 sb hS3 => ?_
    have e1 : ddup sn (x :: r) = ddup (if x ∈ sn then sn else sn ++ [x]) r := by
      rw [ddup]
      split <;> rfl
    have e2 : (if x ∈ sn then sn else sn ++ [x]).length ≤ sn.length + 1 := by split <;> simp
    refine wpAny_pure ⟨plainId_quiet PyProof.Rows.F.plain_set_update_loop _, fill_set Wk D hD r (i + 1) _ _ (by rw [List.length_cons] at hi; omega) (fun j v q y hy => hv (j + 1) v (by rw [show i + (j + 1) = i + 1 + j by omega]; exact q) y (by simpa using hy))
      (Wk.frame _ s2 _ _ st2 (Nat.le_succ _) fun b hb2 o e => ?_) (by rw [List.length_cons] at hb; omega) hS3 fun s5 mv5 hS5 => ?_⟩
    · rw [sb.2 b (fun q : b = D => hD (by rw [← q]; exact hb2))]; exact e
    · rw [e1] at hR
      refine hR s5 (Moved.trans Wk.gtrans ((mv.mono up).then_heap (Nat.le_succ _) fun b o hb2 e => ?_) mv5) hS5
      rw [sb.2 b (fun q : b = D => hb2 (by rw [q]; exact List.mem_cons_self))]; exact e
end
section
variable {P : Program} {w : World} {A : Around} {E : Value → Shared → Prop} {s : Shared}
theorem setS_fresh {h : Heap} (P : Program) (w : World) : SetS P w (h.push { cls := .type "set", dict := none, data := .set #[] 0 (.fresh 0 0 (!w.params.followText "set-order")) }) h.objs.size [] :=
  ⟨_, #[], 0, _, Heap.get?_push_size _ rfl, ⟨rfl, rfl, rfl⟩, rfl, (fun e he => by simp at he), List.nodup_nil, .nil, by decide, by rfl, List.Pairwise.nil, by
    show _ ∨ (!w.params.followText "set-order") = true
    cases w.params.followText "set-order" <;> simp⟩
set_option maxHeartbeats 8000000 in
theorem set_textsS {T : String} {u : Addr} {ks : List Str} {Q : Value → Shared → Prop} (hh : A.handled = none) (tx : Texts P w A s T u ks) (hb : ks.length + 1 < scanBound)
    (h : ∀ (h' : Heap) (tk : Nat), SetS P w h' s.heap.objs.size (ddup [] ks) → (∀ b o, b < s.heap.objs.size → s.heap.get? b = some o → h'.get? b = some o) → Q (.ref s.heap.objs.size) { s with heap := h', toks := tk }) :
    wpAny (model P w) A (call (.type "set") [.ref u]) Q E s := by
  obtain ⟨cc, tl, hmro⟩ := PySem.F.called_set.mro
  have m1 := PySem.F.called_set.made
  have m2 := PySem.F.called_set.sub
  refine wpAny_call (codeAny_of_tree ?_)
  show wpAny _ _ (callAny (.type "set") _) _ _ _
  refine wpAny_pure ⟨Code.quiet_builtin _ (by decide +kernel), codeAny_builtin PySem.F.entry_type_call ?_⟩
  rw [Around.under_plain (weight_type_call_type "set" [.ref u] []) rfl]
  have m3 := PySem.F.called_set.notType
  have m4 := PySem.F.called_set.canCreate
  have m5 := F.typeCall_set_1 (.ref u)
  repeat (any_goals (first | assumption | wp_step))
  refine codeAny_mono (code_set_led1 (.ref u) (E := E) (Q₁ := fun obj s1 => obj = .ref s.heap.objs.size ∧ s1 = { s with heap := s.heap.push { cls := .type "set", dict := none, data := .set #[] 0 (.fresh 0 0 (!w.params.followText "set-order")) } }) ⟨rfl, rfl⟩) fun r s1 hr => ?_
  cases r with
  | error e => exact hr
  | ok fl =>
    cases fl with
    | ret obj =>
      obtain ⟨rfl, rfl⟩ := hr
      generalize hfr : (!w.params.followText "set-order") = fr0
      have new : (s.heap.push { cls := .type "set", dict := none, data := .set #[] 0 (.fresh 0 0 fr0) }).get? s.heap.objs.size = some { cls := .type "set", dict := none, data := .set #[] 0 (.fresh 0 0 fr0) } := Heap.get?_push_size _ rfl
      have ty2 : Shared.TypeIs { s with heap := s.heap.push { cls := .type "set", dict := none, data := .set #[] 0 (.fresh 0 0 fr0) } } (.ref s.heap.objs.size) "set" := ⟨_, new, rfl⟩
      have m6 := PySem.F.called_set.init.lookup
      have m7 := PySem.F.called_set.init.bind (.ref s.heap.objs.size)
      repeat (any_goals (first | assumption | wp_step))
      refine codeAny_mono (codeAny_call_builtin (R := wants (fun r s2 => r = .none ∧ ∃ h' tk, s2 = { s with heap := h', toks := tk } ∧ SetS P w h' s.heap.objs.size (ddup [] ks) ∧ (∀ b o, b < s.heap.objs.size → s.heap.get? b = some o → h'.get? b = some o)) E)
          PySem.F.called_set.init.plain PySem.F.entry_set_init (check_set_init_1 ty2 ?_)) fun r2 s2 hr2 => ?_
      · obtain ⟨ou, hou, hcu⟩ := tx.ty
        have tyU : Shared.TypeIs { s with heap := s.heap.push { cls := .type "set", dict := none, data := .set #[] 0 (.fresh 0 0 fr0) } } (.ref u) T := ⟨ou, Heap.get?_push_of_some _ hou, hcu⟩
        have b1 := tx.s1
        have b2 := tx.s2
        have b3 := tx.ne
        unfold Builtin.«set.__init__» noKeywords Builtin.Frozenset.updateFrom
        generalize hPI : pyIter = PI
        wp_walk
        subst hPI
        have lS : s.heap.objs.size < (s.heap.push { cls := .type "set", dict := none, data := .set #[] 0 (.fresh 0 0 fr0) }).objs.size := by rw [Heap.size_push]; exact Nat.lt_succ_self _
        refine tx.it rfl (fun b o e => Heap.get?_push_of_some _ e) fun o Pr Stt ft Wk hf st hv => ?_
        have h3 : A.in1.in1.in1.handled = none := by simp [hh]
        have hD : s.heap.objs.size ∉ ft := fun q => by
          rcases hf _ q with q | q
          · exact Nat.lt_irrefl _ (q ▸ lS)
          · exact Nat.lt_irrefl _ q
        refine wpAny_bind (wpAny_runValue ?_)
        refine fill_set (Wk _ h3).toS s.heap.objs.size hD ks 0 [] _ (Nat.zero_add _) (fun j v q x hx => hv j v (by simpa using q) x hx) st (by simpa using hb) ?_ fun s' mv hS' => ?_
        · have f := setS_fresh (h := s.heap) P w
          rw [hfr] at f
          refine SetS.at f ?_
          intro o e
          exact Heap.get?_push_of_some _ e
        · obtain ⟨h', g', d', tk', os'⟩ := s'
          obtain rfl : g' = s.gens := mv.gens
          obtain rfl : d' = s.drawn := mv.drawn
          obtain rfl : os' = s.os := mv.os
          refine wpAny_pure ?_
          show wpAny _ _ (ret Value.none) _ _ _
          refine wpAny_pure ⟨rfl, h', tk', rfl, hS', fun b o hb2 e => ?_⟩
          refine mv.heap b o (fun q => ?_) (Heap.get?_push_of_some _ (Heap.get?_push_of_some _ e))
          rcases List.mem_cons.mp q with q | q
          · exact Nat.ne_of_lt hb2 q
          · exact Nat.ne_of_lt (Nat.lt_trans hb2 lS) (List.mem_singleton.mp q)
      · cases r2 with
        | error e => exact hr2
        | ok fl2 =>
          cases fl2 with
          | ret r =>
            obtain ⟨rfl, h', tk, rfl, hS2, hk2⟩ := hr2
            repeat (any_goals (first | assumption | wp_step))
            exact h _ _ hS2 hk2
          | _ => exact hr2.elim
    | _ => exact hr.elim
end
end Dv
set_option maxRecDepth 100000
set_option maxHeartbeats 4000000
namespace Dv
open PySem PySem.Spec PyProof.Rows L2
/-- what a walk over the set gives, as texts -/
theorem strs_of : ∀ (l : List (Int × Value)) (vs : List Value), (∀ v ∈ vs, ∃ k tk, v = Value.str k tk) → ∃ ys : List Str, StrsAre vs ys ∧ ys = vs.map fun v => keyT (0, v)
  | _, [], _ => ⟨[], .nil, rfl⟩
  | l, v :: vs, h => by
    obtain ⟨k, tk, rfl⟩ := h v List.mem_cons_self
    obtain ⟨ys, h1, h2⟩ := strs_of l vs fun u hu => h u (List.mem_cons_of_mem _ hu)
    exact ⟨k :: ys, .cons k tk h1, by rw [h2]; rfl⟩
def cSortSet : F1 := fun d => (itemsD d).bind fun ds => (strsD ds).bind fun xs => if xs.length < 64 then some (.lst ((sortS (ddup [] xs)).map D.str)) else none
section
variable {X : Cx} {pins : List (Addr × Obj)} {σ : L2.St} {H : Hp} {s : Shared}
theorem sorted_setS {xs : List Str} {a : Addr} {Q : VK} (I : Inv X pins σ H s) (hc : X.calm = true) (R : SetS X.prog X.w s.heap a xs) (h64 : xs.length < 64) (q : ∀ p, H p = none → Q (.ref p) (upd H p (.lst ((sortS xs).map V.str)))) :
    wpAny (model X.prog X.w) X.A (call (.builtin "sorted") [.ref a]) (EP X pins σ Q) X.xe s := by
  obtain ⟨o, es, ep, t, ho, hex, hd, g, nd, hm, hb, hf, hr, hl⟩ := R
  refine Calls.call_function_entry PyProof.Rows.kind_sorted PyProof.Rows.plain_sorted PyProof.Rows.entry_sorted (PyProof.Rows.args_sorted1 _) ?_
  unfold Builtin.«sorted»
  refine wpAny_bind (m := checkCount "sorted" 1 1 _) (wpAny_pure ?_)
  refine wpAny_bind (collect_set (A := X.A.in1) (I.ok.hd hc) ⟨o, ho, hex.1, hd⟩ hf hb hr hl fun s1 vs k1 hz g1 o1 pm => ?_)
  obtain ⟨ks, hS, hks⟩ := strs_of [] vs fun v hv => by
    obtain ⟨e, he, q⟩ := List.mem_map.mp (pm.mem_iff.mp hv)
    obtain ⟨k, tk, h1, _⟩ := g e he
    exact ⟨k, tk, by rw [← q]; exact h1⟩
  have pk : ks.Perm xs := by
    refine List.Perm.trans ?_ hm
    have q := pm.map fun v => keyT (0, v)
    rw [List.map_map] at q
    rw [hks]
    exact q
  have hal : vs.length = ks.length := hS.length
  have hkl : ks.length < 64 := pk.length_eq ▸ h64
  have I1 : Inv X pins σ H s1 := Inv.call' (ch := []) I o1 (Un.kept k1) (I.hok.kept k1) (by rw [g1]; exact I.bare) fun _ z => nomatch z
  have es : sortS ks = sortS xs := (sorted_uniq ((sortS_perm ks).trans (pk.trans (sortS_perm xs).symm)) (sortS_pw ks) (sortS_pw xs))
  rw [← es] at q
  obtain ⟨h', gg, dr, tk, oo⟩ := s1
  refine wpAny_bind (wpAny_newList ?_ (by rw [hal, sizeLine_eq]; omega))
  have hoL : (h'.push (seqObj "list" vs.toArray 0)).get? h'.objs.size = some (seqObj "list" vs.toArray 0) := Heap.get?_push_size _ rfl
  refine wpAny_bind (wpAny_holding (wpAny_call_entry PyProof.Rows.slot_list_sort ⟨_, hoL, rfl⟩ PyProof.Rows.entry_list_sort
    (list_sort_treeK strKind_oneLt hoL hS.keysOf (fun v₁ v₂ rest e => keyKind_strs (by rw [← e]; exact hS)) (by rw [hal]; exact hkl) fun st' hp hs => ⟨_, rfl, ?_⟩) (PyProof.Rows.args_list_sort _)))
  obtain ⟨ys, p1, p2, p3⟩ := sorted_out_str hS hp hs
  obtain rfl : ys = sortS ks := sorted_is p2 p3
  obtain ⟨e', he'⟩ := PyProof.Rows.sortedHeap_at (vs := vs) (out := (arrOf st').map (·.2)) hoL
  have hlen : ((sortS ks).map V.str).length ≤ sizeLine := by
    rw [List.length_map, p2.length_eq]
    exact Nat.le_trans (Nat.le_of_lt hkl) (by decide)
  refine wpAny_pure ⟨_, rfl, .ref h'.objs.size, upd H h'.objs.size (.lst ((sortS ks).map V.str)), I1.laid (t' := tk) (fun b u e => ?_) (Nat.le_refl _)
    ⟨hlen, ((arrOf st').map (·.2)).toList, e', vals_of_strs p1, he'⟩, rfl, q _ (I1.hok.fresh (Nat.le_refl _))⟩
  rw [PyProof.Rows.sortedHeap_old (Nat.ne_of_lt (Heap.lt_size e)) (by rw [size_push']; exact Nat.lt_succ_of_lt (Heap.lt_size e))]
  exact Heap.get?_push_of_some _ e
theorem E_sortSet {W : WX} {x y : Str} {p p2 q pos : Pos} {e : Expr} {gr : G} {mu : Bool} (hc : X.calm = true) (hg : Gl X x) (hm : X.mg x = none) (hv : bootBuiltins x = some (.builtin "sorted")) (hn : x ≠ "__name__") (d1 : (x == ("__debug__" : Str)) = false)
    (hg2 : Gl X y) (hm2 : X.mg y = none) (hv2 : bootBuiltins y = some (.type "set")) (hn2 : y ≠ "__name__") (d2 : (y == ("__debug__" : Str)) = false) (ha : PE X e (tI X.K X.mg W gr)) (na : starEach [e] X.env = (false, eval e X.env) :: starEach [] X.env) :
    PE X (.Call (.Name x p) [.Call (.Name y p2) [e] [] q] [] pos) (tI X.K X.mg W (gO1 mu cSortSet gr)) := by
  refine ⟨fun pins s σ H Q I h => ?_⟩
  refine wpAny_Call_Name_kw (ld_blt I hg hm hv ?_ hn d1)
  refine PyProof.Rows.callWith_builtin1 (PyProof.Rows.args_cons ?_ rfl) rfl rfl
  refine wpAny_Call_Name_kw (ld_blt I hg2 hm2 hv2 ?_ hn2 d2)
  refine PyProof.Rows.callWith_type1 (PyProof.Rows.args_cons (thn (ha.run pins s σ H _ I (R_1 h)) fun v s1 ⟨z, H1, I1, r1, q1⟩ => PyProof.Rows.args_nil ?_) na) na rfl
  obtain ⟨w, S, d, z, st, rd, hf, k⟩ := q1
  obtain ⟨es, h1, h2⟩ := Option.bind_eq_some_iff.mp hf
  obtain ⟨ks, h3, h4⟩ := Option.bind_eq_some_iff.mp h2
  by_cases h64 : ks.length < 64
  · rw [if_pos h64] at h4; cases h4
    obtain ⟨a, ws, rfl, ra, hq⟩ := items_rep st rd h1
    obtain ⟨e, hok⟩ := strs_rep ra h3
    subst e
    cases r1
    have small : (ddup [] ks).length < 64 := Nat.lt_of_le_of_lt (ddup_le ks []) (by simpa using h64)
    have kk := k.lst st (reps_strs (sortS (ddup [] ks)) fun x hx => hok x (((ddup_mem ks [] x).mp ((sortS_perm _).mem_iff.mp hx)).elim (fun z => nomatch z) id))
    have end_ : ∀ (h' : Heap) (tk : Nat), SetS X.prog X.w h' s1.heap.objs.size (ddup [] ks) → (∀ b o, b < s1.heap.objs.size → s1.heap.get? b = some o → h'.get? b = some o) →
        wpAny (model X.prog X.w) X.A (call (.builtin "sorted") [.ref s1.heap.objs.size]) (EP X pins σ Q) X.xe { s1 with heap := h', toks := tk } := fun h' tk hS hk =>
      sorted_setS (s := { s1 with heap := h', toks := tk }) (I1.kept fun b o e => hk b o (Heap.lt_size e) e) hc hS small kk
    rcases hq with hq | hq
    · obtain ⟨its, rv, hl, hz⟩ := I1.list hq
      exact set_textsS (I1.ok.hd hc) (texts_list hl.isList rv.strs) (by unfold scanBound; omega) fun h' tk hS hk => PyProof.Rows.args_nil (end_ h' tk hS hk)
    · obtain ⟨its, rv, hl, hz⟩ := I1.tuple hq.1
      exact set_textsS (I1.ok.hd hc) (texts_tup hl rv.strs) (by unfold scanBound; omega) fun h' tk hS hk => PyProof.Rows.args_nil (end_ h' tk hS hk)
  · rw [if_neg h64] at h4; cases h4
end
end Dv
set_option maxRecDepth 100000
set_option maxHeartbeats 1000000
namespace Dv
open PySem PySem.Spec PyProof.Rows L2
/-! ### str of an int or a text -/
theorem strOk_of (x : String) : PyData.strOk (Str.ofString x) = true := by
  rw [strOk_iff]
  intro c hc
  rw [Str.ofString_eq_toList] at hc
  simp at hc
  obtain ⟨d, _, rfl⟩ := hc
  have h := d.valid
  rcases h with h | ⟨_, h⟩
  · exact Nat.lt_trans h (by decide)
  · exact h
def strD : D → Option D
  | .int i => if i.natAbs.log2 < 1920 then some (.str (Str.ofString (toString i))) else none
  | .str x => some (.str x)
  | _ => none
def cStr : FA
  | [d] => strD d
  | _ => none
theorem call_str' {X : Cx} : CallR X (.type "str") (rA X.K X.mg cStr) := by
  intro pins s σ H xs us Q I r ⟨w, S, ds, z, st, rs, h, k⟩
  obtain ⟨d, v, rfl, rfl, rd⟩ := one_of h rfl (fun a _ _ => by cases a <;> rfl) rs
  have h' : strD d = some z := h
  cases d with
  | int i =>
    obtain rfl := rd.int
    have h2 : (if i.natAbs.log2 < 1920 then some (D.str (Str.ofString (toString i))) else none) = some z := h'
    split at h2
    · rename_i hi
      cases h2
      exact call_str_int pins s σ H _ us Q I r ⟨i, rfl, hi, k.here st (.str _ (strOk_of _) (int_text_fits hi))⟩
    · cases h2
  | str x =>
    obtain ⟨rfl, o1, o2⟩ := rd.str
    cases h'
    exact SkE.call_str_str pins s σ H _ us Q I r ⟨x, rfl, k.here st (.str _ o1 o2)⟩
  | _ => cases h'
end Dv
set_option maxRecDepth 100000
set_option maxHeartbeats 1000000
namespace Dv
open PySem PySem.Spec PyProof.Rows L2
noncomputable section
/-! ### operations that look at the store themselves -/
abbrev FU := Store → List U → Option D
def gOU (mu : Bool) (f : FU) (a : GA) : G := fun ρ S => (a ρ S).bind fun xs S1 => up mu S1 (f S1 xs)
def rU (K : PySem.W.Frag) (mg : Str → Option Value) (f : FU) : List V → Hp → VK → Prop := fun xs H Q => ∃ w S us z, Sto K mg w H S ∧ RepUs K mg w us xs ∧ f S us = some z ∧ KontM K mg w H S z Q
/-- a value's type -/
inductive TyD where
  | b (n : String) | c (x : Str)
def tyD : D → Option TyD
  | .non => some (.b "NoneType")
  | .bl _ => some (.b "bool")
  | .int _ => some (.b "int")
  | .str _ => some (.b "str")
  | .tup _ => some (.b "tuple")
  | .lst _ => some (.b "list")
  | .fl _ => some (.b "list")
  | .dct _ => some (.b "dict")
  | .ins c _ => some (.c c)
  | _ => none
def tyU (S : Store) : U → Option TyD
  | .d x => tyD x
  | .ref n => match S[n]? with
    | some (.lst _) => some (.b "list")
    | some (.lsu _) => some (.b "list")
    | some (.dct _) => some (.b "dict")
    | some (.ins c _) => some (.c c)
    | some (.fz x) => tyD x
    | none => none
abbrev KitT := TyD → D → Option Bool
def isCls : D → Bool
  | .ty _ => true
  | .gl _ => true
  | _ => false
def kitGo (kit : KitT) (t : TyD) : List D → Option Bool
  | [] => some false
  | d :: r => match kit t d with
    | some true => some true
    | some false => kitGo kit t r
    | none => none
def kitAny (kit : KitT) (t : TyD) (cs : List D) : Option Bool := if cs.all isCls && !cs.isEmpty then kitGo kit t cs else none
def isiU (kit : KitT) : FU := fun S us => match us with
  | [u, .d (.tup cs)] => (tyU S u).bind fun t => (kitAny kit t cs).map .bl
  | [u, .d c] => if isCls c then (tyU S u).bind fun t => (kit t c).map .bl else none
  | _ => none
/-- what stands behind a class -/
structure ClsF (K : PySem.W.Frag) (C : Addr) : Prop where
  cl : Cls K C
  ha : PySem.W.findIn K (.ref C) "__class__" = some (some (.builtin "object.__class__"))
  hn : PySem.W.specialIn K (.builtin "object.__class__") "__get__" = some (some (.builtin "getset_descriptor.__get__"))
  htk : PySem.W.takesIn K (.builtin "object.__class__") = some true
  hm : PySem.W.mroIn K C (.type "object") = some true
inductive TyV (mg : Str → Option Value) : TyD → Value → Prop
  | b (n : String) : TyV mg (.b n) (.type n)
  | c {x : Str} {C : Addr} (h : mg x = some (.ref C)) : TyV mg (.c x) (.ref C)
inductive ClV (mg : Str → Option Value) : D → Value → Prop
  | ty (n : String) : ClV mg (.ty n) (.type n)
  | gl {x : Str} {C : Addr} (h : mg x = some (.ref C)) : ClV mg (.gl x) (.ref C)
structure KitOk (K : PySem.W.Frag) (mg : Str → Option Value) (kit : KitT) : Prop where
  cls : ∀ c d b, kit (.c c) d = some b → ∀ C, mg c = some (.ref C) → ClsF K C
  one : ∀ t d b, kit t d = some b → ∀ tv cv, TyV mg t tv → ClV mg d cv → PySem.W.kitOne K tv cv = some b
section
variable {X : Cx}
theorem cr_U {v : Value} {f : FA} (h : CallR X v (rA X.K X.mg f)) : CallR X v (rU X.K X.mg (fA f)) := by
  intro pins s σ H xs us Q I r ⟨w, S, ds, z, st, rs, hf, k⟩
  obtain ⟨ys, h1, h2⟩ := Option.bind_eq_some_iff.mp hf
  exact h pins s σ H xs us Q I r ⟨w, S, ys, z, st, vws_ok st rs h1, h2, k⟩
theorem kitGo_cls {kit : KitT} {t : TyD} : ∀ {cs : List D} {b : Bool}, kitGo kit t cs = some b → cs ≠ [] → ∃ d b', kit t d = some b'
  | [], _, _, h => absurd rfl h
  | d :: r, b, h, _ => by
    unfold kitGo at h
    cases q : kit t d with
    | none => rw [q] at h; cases h
    | some c => exact ⟨d, c, q⟩
theorem ty_rep {w : Wd} {H : Hp} {S : Store} {d : D} {v : V} {t : TyD} (st : Sto X.K X.mg w H S) (rd : Rep X.K X.mg w d v) (h : tyD d = some t) (hc : ∀ c, t = .c c → ∀ C, X.mg c = some (.ref C) → ClsF X.K C) : ∃ tv, TyV X.mg t tv ∧ TyX X.K H v tv := by
  cases rd with
  | non => cases h; exact ⟨_, .b _, .base .non⟩
  | bl b => cases h; exact ⟨_, .b _, .base (.bl b)⟩
  | int b => cases h; exact ⟨_, .b _, .base (.int b)⟩
  | str b => cases h; exact ⟨_, .b _, .base (.str b)⟩
  | tup ha ra =>
    cases h
    rcases ha with ha | ⟨o, its, n, h1, h2, _⟩
    · exact ⟨_, .b _, .base (.tup (st.cs _ _ ha))⟩
    · exact ⟨_, .b _, .kTuple h1 h2⟩
  | lst ha ra => cases h; exact ⟨_, .b _, .base (.lst (st.cs _ _ ha))⟩
  | fl ha ra =>
    cases h
    rcases ha with ⟨o, ha⟩ | ⟨o, its, n, h1, h2, _⟩
    · exact ⟨_, .b _, .base (.frz (st.cs _ _ ha))⟩
    · exact ⟨_, .b _, .kList h1 h2⟩
  | dct ha ra => cases h; exact ⟨_, .b _, .fDict (st.cs _ _ ha)⟩
  | ins hm ha ra =>
    cases h
    have F := hc _ rfl _ hm
    exact ⟨_, .c hm, .base (.ins (st.cs _ _ ha) F.cl F.ha F.hn F.htk F.hm)⟩
  | ty t => cases h
  | gl h' => cases h
theorem ty_repU {w : Wd} {H : Hp} {S : Store} {u : U} {v : V} {t : TyD} (st : Sto X.K X.mg w H S) (rd : RepU X.K X.mg w u v) (h : tyU S u = some t) (hc : ∀ c, t = .c c → ∀ C, X.mg c = some (.ref C) → ClsF X.K C) : ∃ tv, TyV X.mg t tv ∧ TyX X.K H v tv := by
  cases rd with
  | d rd => exact ty_rep st rd h hc
  | @ref n a ha =>
    have h' : (match S[n]? with
      | some (.lst _) => some (TyD.b "list")
      | some (.lsu _) => some (TyD.b "list")
      | some (.dct _) => some (TyD.b "dict")
      | some (.ins c _) => some (TyD.c c)
      | some (.fz x) => tyD x
      | none => none) = some t := h
    split at h'
    · rename_i ds e1
      cases h'
      obtain ⟨vs, h0, _⟩ := st.ok n _ a e1 ha
      exact ⟨_, .b _, .base (.lst h0)⟩
    · rename_i ds e1
      cases h'
      obtain ⟨vs, h0, _⟩ := st.ok n _ a e1 ha
      exact ⟨_, .b _, .base (.lst h0)⟩
    · rename_i ds e1
      cases h'
      obtain ⟨vs, h0, _⟩ := st.ok n _ a e1 ha
      exact ⟨_, .b _, .base (.dK h0)⟩
    · rename_i c fs e1
      cases h'
      obtain ⟨C, dx, gs, hm, h0, _⟩ := st.ok n _ a e1 ha
      have F := hc _ rfl _ hm
      exact ⟨_, .c hm, .base (.ins h0 F.cl F.ha F.hn F.htk F.hm)⟩
    · rename_i x e1
      exact ty_rep st (st.ok n _ a e1 ha) h' hc
    · cases h'
theorem cl_rep {w : Wd} {d : D} {v : V} (r : Rep X.K X.mg w d v) (h : isCls d = true) : ∃ cv, ClV X.mg d cv ∧ ClsV v cv := by
  cases r <;> first | exact ⟨_, .ty _, .ty _⟩ | exact ⟨_, .gl (by assumption), .own _⟩ | cases h
theorem kitGo_ok {kit : KitT} (ko : KitOk X.K X.mg kit) {w : Wd} {t : TyD} {tv : Value} (ht : TyV X.mg t tv) : ∀ {cs : List D} {vs : List V} {b : Bool}, Reps X.K X.mg w cs vs → cs.all isCls = true → kitGo kit t cs = some b → ∃ us, Paired ClsV vs us ∧ PySem.W.kitAny X.K tv us = some b
  | [], _, _, .nil, _, h => by cases h; exact ⟨[], .nil, kitAny_nil⟩
  | d :: cs, _, b, .cons r rt, hc, h => by
    rw [List.all_cons, Bool.and_eq_true] at hc
    obtain ⟨cv, q1, q2⟩ := cl_rep r hc.1
    have go : ∀ cs' vs', Reps X.K X.mg w cs' vs' → cs'.all isCls = true → ∃ us, Paired ClsV vs' us := by
      intro cs'
      induction cs' with
      | nil => intro vs' r _; cases r; exact ⟨[], .nil⟩
      | cons e cs' ih =>
        intro vs' r hc
        cases r with
        | cons r rt =>
          rw [List.all_cons, Bool.and_eq_true] at hc
          obtain ⟨cv, _, q2⟩ := cl_rep r hc.1
          obtain ⟨us, q3⟩ := ih _ rt hc.2
          exact ⟨cv :: us, .cons q2 q3⟩
    unfold kitGo at h
    cases q : kit t d with
    | none => rw [q] at h; cases h
    | some c =>
      rw [q] at h
      have k1 := ko.one t d c q tv cv ht q1
      cases c with
      | true =>
        cases h
        obtain ⟨us, q3⟩ := go cs _ rt hc.2
        exact ⟨cv :: us, .cons q2 q3, kitAny_cons k1 (fun z => by cases z) (fun _ => rfl)⟩
      | false =>
        obtain ⟨us, q3, q4⟩ := kitGo_ok ko ht rt hc.2 h
        exact ⟨cv :: us, .cons q2 q3, kitAny_cons k1 (fun _ => q4) (fun z => by cases z)⟩
theorem call_isi' {kit : KitT} (ko : KitOk X.K X.mg kit) : CallR X (.builtin "isinstance") (rU X.K X.mg (isiU kit)) := by
  intro pins s σ H xs us Q I r ⟨w, S, ds, z, st, rs, h, k⟩
  unfold isiU at h
  split at h
  · rename_i u cs
    obtain ⟨t, h1, h2⟩ := Option.bind_eq_some_iff.mp h
    obtain ⟨b, h3, h4⟩ := Option.map_eq_some_iff.mp h2
    subst h4
    unfold kitAny at h3
    split at h3
    · rename_i hc
      rw [Bool.and_eq_true] at hc
      have hne : cs ≠ [] := fun e => by subst e; simp at hc
      obtain ⟨d0, b0, q0⟩ := kitGo_cls h3 hne
      cases rs with
      | cons r1 rs =>
        cases rs with
        | cons r2 rs =>
          cases rs
          cases r2 with
          | d r2 =>
            cases r2 with
            | @tup _ p vs hp rp =>
              obtain ⟨tv, k1, k2⟩ := ty_repU st r1 h1 fun c e C hC => by subst e; exact ko.cls c d0 b0 q0 C hC
              obtain ⟨ws, k3, k4⟩ := kitGo_ok ko k1 rp hc.1 h3
              rcases hp with hp | ⟨o, its, n, q1, q2, q3, q4, q5⟩
              · exact call_isiT pins s σ H _ us Q I r ⟨_, p, vs, _, _, b, rfl, st.cs _ _ hp, k3, k2, k4, k.here st (.bl _)⟩
              · have e := ClsV.all k3 q5
                obtain ⟨oc, od, dt, sl⟩ := o
                simp only at q2 q3
                subst q2 q3
                refine call_isiK pins s σ H _ us Q I r ⟨_, p, od, ws, n, sl, _, b, rfl, ?_, k2, k4, k.here st (.bl _)⟩
                rw [← e, Array.toArray_toList]
                exact q1
    · cases h3
  · rename_i u c _
    split at h
    · rename_i hc
      obtain ⟨t, h1, h2⟩ := Option.bind_eq_some_iff.mp h
      obtain ⟨b, h3, h4⟩ := Option.map_eq_some_iff.mp h2
      subst h4
      cases rs with
      | cons r1 rs =>
        cases rs with
        | cons r2 rs =>
          cases rs
          cases r2 with
          | d r2 =>
            obtain ⟨tv, k1, k2⟩ := ty_repU st r1 h1 fun c' e C hC => by subst e; exact ko.cls c' c b h3 C hC
            obtain ⟨cv, k3, k4⟩ := cl_rep r2 hc
            exact call_isi pins s σ H _ us Q I r ⟨_, _, _, _, b, rfl, k4, k2, ko.one t c b h3 tv cv k1 k3, k.here st (.bl _)⟩
    · cases h
  · cases h
end
section
variable {X : Cx} {W : WX} {x : Str} {p pos : Pos} {e : Expr} {es : List Expr} {id T : String} {gr : GA} {mu : Bool}
theorem R_U {f : FU} {σ : L2.St} {H : Hp} {Q : VK} (h : tI X.K X.mg W (gOU mu f gr) σ H Q) : tIA X.K X.mg W gr σ H fun xs H1 => rU X.K X.mg f xs H1 Q := by
  obtain ⟨w, S, ρ, s, en, o⟩ := h
  refine tG_then (P := RepUs X.K X.mg) s en o fun w1 H1 S1 d v l1 s1 p1 en1 o1 => ?_
  obtain ⟨z, hz, k⟩ := up_out o1
  exact ⟨w1, S1, d, z, s1, p1, hz, k⟩
theorem E_callB {f : FU} (hc : CallR X (.builtin id) (rU X.K X.mg f)) (hg : Gl X x) (hm : X.mg x = none) (hv : bootBuiltins x = some (.builtin id)) (ha : PA X (e :: es) (tIA X.K X.mg W gr)) (hn : x ≠ "__name__") (hdb : (x == ("__debug__" : Str)) = false)
    (he : starEach (e :: es) X.env = (false, eval e X.env) :: starEach es X.env) (hpl : (backTo pos (starEach es X.env)).any (·.1) = false) : PE X (.Call (.Name x p) (e :: es) [] pos) (tI X.K X.mg W (gOU mu f gr)) :=
  PE_imp (pe_callB hc hg hm hv ha hn hdb he hpl) fun _ _ _ => R_U
theorem E_callTy {f : FU} (hc : CallR X (.type T) (rU X.K X.mg f)) (hg : Gl X x) (hm : X.mg x = none) (hv : bootBuiltins x = some (.type T)) (ha : PA X (e :: es) (tIA X.K X.mg W gr)) (hn : x ≠ "__name__") (hdb : (x == ("__debug__" : Str)) = false)
    (he : starEach (e :: es) X.env = (false, eval e X.env) :: starEach es X.env) (hpl : (backTo pos (starEach es X.env)).any (·.1) = false) : PE X (.Call (.Name x p) (e :: es) [] pos) (tI X.K X.mg W (gOU mu f gr)) :=
  PE_imp (pe_callTy hc hg hm hv ha hn hdb he hpl) fun _ _ _ => R_U
end
end
end Dv
set_option maxRecDepth 100000
set_option maxHeartbeats 1000000
namespace Dv
open PySem PySem.Spec PyProof.Rows L2
noncomputable section
/-! ### displays -/
def gTup (a : GAD) : G := fun ρ S => (a ρ S).bind fun ds S1 => .ok (.d (.tup ds)) S1
def gLst (mu : Bool) (a : GAD) : G := fun ρ S => (a ρ S).bind fun ds S1 => .ok (mkU mu (.lst ds) S1).1 (mkU mu (.lst ds) S1).2
def allD : List U → Option (List D)
  | [] => some []
  | .d x :: r => (allD r).map (x :: ·)
  | _ :: _ => none
/-- a new list that may change, of any things -/
def mkL (us : List U) (S : Store) : U × Store := match allD us with
  | some ds => (.ref S.length, S ++ [.lst ds])
  | none => (.ref S.length, S ++ [.lsu us])
def gLstM (a : GA) : G := fun ρ S => (a ρ S).bind fun us S1 => .ok (mkL us S1).1 (mkL us S1).2
section
variable {K : PySem.W.Frag} {mg : Str → Option Value} {w : Wd} {H : Hp} {S : Store}
theorem allD_rep : ∀ {us : List U} {vs : List V} {ds : List D}, RepUs K mg w us vs → allD us = some ds → Reps K mg w ds vs
  | [], _, _, .nil, h => by cases h; exact .nil
  | u :: us, _, _, .cons r t, h => by
    cases u with
    | d x =>
      have h' : (allD us).map (x :: ·) = some _ := h
      obtain ⟨ys, h1, rfl⟩ := Option.map_eq_some_iff.mp h'
      cases r with
      | d r => exact .cons r (allD_rep t h1)
    | ref n => cases h
theorem allD_map (ds : List D) : allD (ds.map U.d) = some ds := by
  induction ds with
  | nil => rfl
  | cons d ds ih =>
    show (allD (ds.map U.d)).map (d :: ·) = _
    rw [ih]; rfl
theorem mkL_ok {us : List U} {vs : List V} {Q : VK} (s : Sto K mg w H S) (r : RepUs K mg w us vs) (k : Kont K mg w H (mkL us S).1 (mkL us S).2 Q) : ∀ p, H p = none → Q (.ref p) (upd H p (.lst vs)) := fun p hp => by
  unfold mkL at k
  cases e : allD us with
  | some ds =>
    rw [e] at k
    exact k _ _ _ Le.push (s.push (c := .lst ds) hp ⟨vs, upd_same, (allD_rep r e).mono Le.push⟩) (.ref (push_at s))
  | none =>
    rw [e] at k
    exact k _ _ _ Le.push (s.push (c := .lsu us) hp ⟨vs, upd_same, r.mono Le.push⟩) (.ref (push_at s))
end
section
variable {X : Cx} {W : WX} {es : List Expr} {gd : GAD} {ga : GA} {cpos : Pos} {mu : Bool}
theorem E_tup {k : Nat} (h : PA X es (tIAD X.K X.mg W gd)) (hl : ∀ ρ S ds S', gd ρ S = .ok ds S' → ds.length ≤ 1000) : PE X (.Tuple es k cpos) (tI X.K X.mg W (gTup gd)) := PE_imp (pe_tup h) fun σ H Q ⟨w, S, ρ, s, en, o⟩ => by
  refine ⟨w, S, ρ, s, en, ?_⟩
  have o' : Out X.K X.mg (RepU X.K X.mg) W σ w H ((gd ρ S).bind fun ds S1 => .ok (.d (.tup ds)) S1) Q := o
  cases q : gd ρ S with
  | ok ds S1 =>
    rw [q] at o'
    refine fun w1 H1 vs l1 s1 r1 => ⟨?_, ?_⟩
    · rw [← r1.length]; exact Nat.le_trans (hl ρ S ds S1 q) (by rw [sizeLine_eq]; omega)
    · have k : KontM X.K X.mg w1 H1 S1 (.tup ds) Q := ⟨false, fun w2 H2 v l2 s2 r2 => o' w2 H2 v (l1.trans l2) s2 r2⟩
      exact k.tup s1 r1
  | exc c fs S1 => rw [q] at o'; exact o'
  | bad => rw [q] at o'; exact o'
theorem E_lst (h : PA X es (tIAD X.K X.mg W gd)) (hl : ∀ ρ S ds S', gd ρ S = .ok ds S' → ds.length ≤ 1000) : PE X (.List es cpos) (tI X.K X.mg W (gLst mu gd)) := PE_imp (pe_lst h) fun σ H Q ⟨w, S, ρ, s, en, o⟩ => by
  refine ⟨w, S, ρ, s, en, ?_⟩
  have o' : Out X.K X.mg (RepU X.K X.mg) W σ w H ((gd ρ S).bind fun ds S1 => .ok (mkU mu (.lst ds) S1).1 (mkU mu (.lst ds) S1).2) Q := o
  cases q : gd ρ S with
  | ok ds S1 =>
    rw [q] at o'
    refine fun w1 H1 vs l1 s1 r1 => ⟨?_, ?_⟩
    · rw [← r1.length]; exact Nat.le_trans (hl ρ S ds S1 q) (by rw [sizeLine_eq]; omega)
    · have k : KontM X.K X.mg w1 H1 S1 (.lst ds) Q := ⟨mu, fun w2 H2 v l2 s2 r2 => o' w2 H2 v (l1.trans l2) s2 r2⟩
      exact k.lst s1 r1
  | exc c fs S1 => rw [q] at o'; exact o'
  | bad => rw [q] at o'; exact o'
theorem E_lstM (h : PA X es (tIA X.K X.mg W ga)) (hl : ∀ ρ S ds S', ga ρ S = .ok ds S' → ds.length ≤ 1000) : PE X (.List es cpos) (tI X.K X.mg W (gLstM ga)) := PE_imp (pe_lst h) fun σ H Q ⟨w, S, ρ, s, en, o⟩ => by
  refine ⟨w, S, ρ, s, en, ?_⟩
  have o' : Out X.K X.mg (RepU X.K X.mg) W σ w H ((ga ρ S).bind fun us S1 => .ok (mkL us S1).1 (mkL us S1).2) Q := o
  cases q : ga ρ S with
  | ok ds S1 =>
    rw [q] at o'
    refine fun w1 H1 vs l1 s1 r1 => ⟨?_, ?_⟩
    · rw [← r1.length]; exact Nat.le_trans (hl ρ S ds S1 q) (by rw [sizeLine_eq]; omega)
    · exact mkL_ok s1 r1 fun w2 H2 v l2 s2 r2 => o' w2 H2 v (l1.trans l2) s2 r2
  | exc c fs S1 => rw [q] at o'; exact o'
  | bad => rw [q] at o'; exact o'
/-- {} -/
def gDct0 (mu : Bool) : G := fun _ S => .ok (mkU mu (.dct []) S).1 (mkU mu (.dct []) S).2
theorem E_dct0 : PE X (.Dict [] [] cpos) (tI X.K X.mg W (gDct0 mu)) := PE_imp (PE_gu pe_dnewK) fun σ H Q ⟨w, S, ρ, s, en, o⟩ => by
  have k : KontM X.K X.mg w H S (.dct []) Q := ⟨mu, o⟩
  exact k.dct s .nil
end
/-! ### methods of built-in types -/
abbrev FM := Bool → Store → U → List U → Option (U × Store)
def rM (K : PySem.W.Frag) (mg : Str → Option Value) (f : FM) : V → List V → Hp → VK → Prop := fun x xs H Q => ∃ w S mu u us z S', Sto K mg w H S ∧ RepU K mg w u x ∧ RepUs K mg w us xs ∧ f mu S u us = some (z, S') ∧ Kont K mg w H z S' Q
def appU (S : Store) (n : Nat) (y : U) : Option Store := match fr S y with
  | some (x, S1) => (match S1[n]? with
    | some (.lst ds) => if ds.length < sizeLine then some (S1.set n (.lst (ds ++ [x]))) else none
    | some (.lsu us) => if us.length < sizeLine then some (S1.set n (.lsu (us ++ [.d x]))) else none
    | _ => none)
  | none => (match S[n]? with
    | some (.lst ds) => if ds.length < sizeLine then some (S.set n (.lsu (ds.map U.d ++ [y]))) else none
    | some (.lsu us) => if us.length < sizeLine then some (S.set n (.lsu (us ++ [y]))) else none
    | _ => none)
def mAppend : FM := fun _ S u us => match u, us with
  | .ref n, [y] => (appU S n y).map fun S' => (.d .non, S')
  | _, _ => none
def mInsert : FM := fun _ S u us => match u, us with
  | .ref n, [.d (.int i), .d y] => (match S[n]? with
    | some (.lst ds) => if ds.length < sizeLine ∧ 0 ≤ i ∧ i < 1000000000 then some (.d .non, S.set n (.lst (ds.take i.toNat ++ [y] ++ ds.drop i.toNat))) else none
    | _ => none)
  | _, _ => none
def mClear : FM := fun _ S u us => match u, us with
  | .ref n, [] => (match S[n]? with
    | some (.lst _) => some (.d .non, S.set n (.lst []))
    | some (.lsu _) => some (.d .non, S.set n (.lst []))
    | _ => none)
  | _, _ => none
def mClearD : FM := fun _ S u us => match u, us with
  | .ref n, [] => (match S[n]? with
    | some (.dct _) => some (.d .non, S.set n (.dct []))
    | _ => none)
  | _, _ => none
def mPop : FM := fun _ S u us => match u, us with
  | .ref n, [] => (match S[n]? with
    | some (.lst ds) => (ds[ds.length - 1]?).map fun y => (.d y, S.set n (.lst ds.dropLast))
    | some (.lsu ds) => (ds[ds.length - 1]?).map fun y => (y, S.set n (.lsu ds.dropLast))
    | _ => none)
  | _, _ => none
def joinD (a : Str) (d : D) : Option D := (itemsD d).bind fun ds => (strsD ds).bind fun xs => if (xs.map (·.length)).sum + xs.length * a.length ≤ 16777216 then some (.str (Txt.join a xs)) else none
def mJoin : FM := fun _ S u us => match u, us with
  | .d (.str a), [y] => (vw S y).bind fun d => (joinD a d).map fun z => (.d z, S)
  | _, _ => none
section
variable {X : Cx}
theorem put_lst {w : Wd} {H : Hp} {S : Store} {Q : VK} {n : Nat} {a : Addr} {c c' : Cell} {o : HO} {z : U} {v : V} (k : Kont X.K X.mg w H z (S.set n c') Q) (st : Sto X.K X.mg w H S) (e : S[n]? = some c) (el : c.live = true) (ea : w.ι[n]? = some a) (h : CellOk X.K X.mg w (upd H a o) c' a) (r : RepU X.K X.mg w z v) : Q v (upd H a o) :=
  k w _ _ (Le.refl _) (st.set e el ea h) r
theorem m_append : MtR X "list.append" (rM X.K X.mg mAppend) := by
  intro pins s σ H x xs v us Q I rx rxs ⟨w, S, mu, u, ys, z, S', st, ru, rys, h, k⟩
  unfold mAppend at h
  split at h
  · rename_i n y
    obtain ⟨S2, h1, h2⟩ := Option.map_eq_some_iff.mp h
    obtain ⟨rfl, rfl⟩ : U.d D.non = z ∧ S2 = S' := by simpa using h2
    cases ru with
    | @ref _ a ha =>
      cases rys with
      | cons ry rn =>
        cases rn
        unfold appU at h1
        cases q : fr S y with
        | some p =>
          obtain ⟨x', S1⟩ := p
          rw [q] at h1
          obtain ⟨w1, l1, st1, rx'⟩ := fr_ok st ry q
          have ha1 := pre_get l1.i ha
          have k1 : Kont X.K X.mg w1 H (.d .non) S2 Q := fun w2 H2 v2 l2 s2 r2 => k w2 H2 v2 (l1.trans l2) s2 r2
          dsimp only at h1
          split at h1
          · rename_i ds e1
            obtain ⟨vs, h0, ra⟩ := st1.ok n _ a e1 ha1
            split at h1
            · rename_i hl
              cases h1
              exact mt_append pins s σ H _ _ v us Q I rx rxs ⟨a, vs, _, rfl, rfl, h0, by rw [← ra.length]; exact hl, put_lst k1 st1 e1 rfl ha1 ⟨_, upd_same, ra.append (.cons rx' .nil)⟩ (.d .non)⟩
            · cases h1
          · rename_i ds e1
            obtain ⟨vs, h0, ra⟩ := st1.ok n _ a e1 ha1
            split at h1
            · rename_i hl
              cases h1
              exact mt_append pins s σ H _ _ v us Q I rx rxs ⟨a, vs, _, rfl, rfl, h0, by rw [← ra.length]; exact hl, put_lst k1 st1 e1 rfl ha1 ⟨_, upd_same, ra.append (.cons (.d rx') .nil)⟩ (.d .non)⟩
            · cases h1
          · cases h1
        | none =>
          rw [q] at h1
          dsimp only at h1
          split at h1
          · rename_i ds e1
            obtain ⟨vs, h0, ra⟩ := st.ok n _ a e1 ha
            split at h1
            · rename_i hl
              cases h1
              exact mt_append pins s σ H _ _ v us Q I rx rxs ⟨a, vs, _, rfl, rfl, h0, by rw [← ra.length]; exact hl, put_lst k st e1 rfl ha ⟨_, upd_same, ra.us.append (.cons ry .nil)⟩ (.d .non)⟩
            · cases h1
          · rename_i ds e1
            obtain ⟨vs, h0, ra⟩ := st.ok n _ a e1 ha
            split at h1
            · rename_i hl
              cases h1
              exact mt_append pins s σ H _ _ v us Q I rx rxs ⟨a, vs, _, rfl, rfl, h0, by rw [← ra.length]; exact hl, put_lst k st e1 rfl ha ⟨_, upd_same, ra.append (.cons ry .nil)⟩ (.d .non)⟩
            · cases h1
          · cases h1
  · cases h
theorem m_insert : MtR X "list.insert" (rM X.K X.mg mInsert) := by
  intro pins s σ H x xs v us Q I rx rxs ⟨w, S, mu, u, ys, z, S', st, ru, rys, h, k⟩
  unfold mInsert at h
  split at h
  · rename_i n i y
    split at h
    · rename_i ds e1
      split at h
      · rename_i hl
        cases h
        cases ru with
        | @ref _ a ha =>
          cases rys with
          | cons ri rys =>
            cases rys with
            | cons ry rn =>
              cases rn
              cases ri with
              | d ri =>
                cases ri
                cases ry with
                | d ry =>
                  obtain ⟨vs, h0, ra⟩ := st.ok n _ a e1 ha
                  exact mt_insert pins s σ H _ _ v us Q I rx rxs ⟨a, vs, i, _, rfl, rfl, h0, by rw [← ra.length]; exact hl.1, hl.2.1, by omega, put_lst k st e1 rfl ha ⟨_, upd_same, ((ra.take _).append (.cons ry .nil)).append (ra.drop _)⟩ (.d .non)⟩
      · cases h
    · cases h
  · cases h
theorem repUs_dropLast {K : PySem.W.Frag} {mg : Str → Option Value} {w : Wd} : ∀ {us : List U} {vs : List V}, RepUs K mg w us vs → RepUs K mg w us.dropLast vs.dropLast
  | _, _, .nil => .nil
  | _, _, .cons h .nil => .nil
  | _, _, .cons h (.cons h2 t) => .cons h (repUs_dropLast (.cons h2 t))
theorem reps_dropLast {K : PySem.W.Frag} {mg : Str → Option Value} {w : Wd} : ∀ {us : List D} {vs : List V}, Reps K mg w us vs → Reps K mg w us.dropLast vs.dropLast
  | _, _, .nil => .nil
  | _, _, .cons h .nil => .nil
  | _, _, .cons h (.cons h2 t) => .cons h (reps_dropLast (.cons h2 t))
theorem m_pop : MtR X "list.pop" (rM X.K X.mg mPop) := by
  intro pins s σ H x xs v us Q I rx rxs ⟨w, S, mu, u, ys, z, S', st, ru, rys, h, k⟩
  unfold mPop at h
  split at h
  · rename_i n
    cases rys
    cases ru with
    | @ref _ a ha =>
      split at h
      · rename_i ds e1
        obtain ⟨y, h1, h2⟩ := Option.map_eq_some_iff.mp h
        cases h2
        obtain ⟨vs, h0, ra⟩ := st.ok n _ a e1 ha
        obtain ⟨v', h3, h4⟩ := ra.get h1
        exact mt_pop pins s σ H _ _ v us Q I rx rxs ⟨a, vs, v', rfl, rfl, h0, by rw [← ra.length]; exact h3, put_lst k st e1 rfl ha ⟨_, upd_same, reps_dropLast ra⟩ (.d h4)⟩
      · rename_i ds e1
        obtain ⟨y, h1, h2⟩ := Option.map_eq_some_iff.mp h
        cases h2
        obtain ⟨vs, h0, ra⟩ := st.ok n _ a e1 ha
        obtain ⟨v', h3, h4⟩ := ra.get h1
        exact mt_pop pins s σ H _ _ v us Q I rx rxs ⟨a, vs, v', rfl, rfl, h0, by rw [← ra.length]; exact h3, put_lst k st e1 rfl ha ⟨_, upd_same, repUs_dropLast ra⟩ h4⟩
      · cases h
  · cases h
theorem m_clear : MtR X "list.clear" (rM X.K X.mg mClear) := by
  intro pins s σ H x xs v us Q I rx rxs ⟨w, S, mu, u, ys, z, S', st, ru, rys, h, k⟩
  unfold mClear at h
  split at h
  · rename_i n
    split at h
    · rename_i ds e1
      cases h
      cases rys
      cases ru with
      | ref ha =>
        obtain ⟨vs, h0, ra⟩ := st.ok n _ _ e1 ha
        exact mt_clear pins s σ H _ _ v us Q I rx rxs ⟨_, vs, rfl, rfl, h0, put_lst k st e1 rfl ha ⟨_, upd_same, .nil⟩ (.d .non)⟩
    · rename_i ds e1
      cases h
      cases rys
      cases ru with
      | ref ha =>
        obtain ⟨vs, h0, ra⟩ := st.ok n _ _ e1 ha
        exact mt_clear pins s σ H _ _ v us Q I rx rxs ⟨_, vs, rfl, rfl, h0, put_lst k st e1 rfl ha ⟨_, upd_same, .nil⟩ (.d .non)⟩
    · cases h
  · cases h
theorem m_dclear : MtR X "dict.clear" (rM X.K X.mg mClearD) := by
  intro pins s σ H x xs v us Q I rx rxs ⟨w, S, mu, u, ys, z, S', st, ru, rys, h, k⟩
  unfold mClearD at h
  split at h
  · rename_i n
    split at h
    · rename_i ds e1
      cases h
      cases rys
      cases rxs
      cases ru with
      | ref ha =>
        obtain rfl : v = Value.ref _ := rx
        obtain ⟨ps, h0, ra⟩ := st.ok n _ _ e1 ha
        exact d_clear I h0 fun s' I' => ⟨.non, _, I', rfl, put_lst k st e1 rfl ha ⟨_, upd_same, .nil⟩ (.d .non)⟩
    · cases h
  · cases h
theorem joinD_inv {a : Str} {d z : D} (h : joinD a d = some z) : ∃ ds xs, itemsD d = some ds ∧ strsD ds = some xs ∧ (xs.map (·.length)).sum + xs.length * a.length ≤ 16777216 ∧ z = .str (Txt.join a xs) := by
  unfold joinD at h
  obtain ⟨es, h1, h2⟩ := Option.bind_eq_some_iff.mp h
  obtain ⟨xs, h3, h4⟩ := Option.bind_eq_some_iff.mp h2
  split at h4
  · rename_i hc
    exact ⟨es, xs, h1, h3, hc, (Option.some.inj h4).symm⟩
  · cases h4
theorem strOk_join {a : Str} (ha : PyData.strOk a = true) : ∀ {xs : List Str}, (∀ x ∈ xs, PyData.strOk x = true) → PyData.strOk (Str.join a xs) = true
  | [], _ => by show PyData.strOk Str.empty = true; decide +kernel
  | [x], h => h x List.mem_cons_self
  | x :: y :: r, h => by
    show PyData.strOk (x ++ a ++ Str.join a (y :: r)) = true
    exact strOk_add (strOk_add (h x List.mem_cons_self) ha) (strOk_join ha fun z hz => h z (List.mem_cons_of_mem _ hz))
theorem join_ok {a : Str} {xs : List Str} (ha : PyData.strOk a = true) (h : ∀ x ∈ xs, PyData.strOk x = true) (hl : (xs.map (·.length)).sum + xs.length * a.length ≤ 16777216) : PyData.strOk (Txt.join a xs) = true ∧ (Txt.join a xs).length ≤ sizeLine := by
  have e : Txt.join a xs = Str.join a xs := StrLaws.glued_eq_join a xs
  rw [e]
  exact ⟨strOk_join ha h, Nat.le_trans (StrLaws.join_length_le a xs) (Nat.le_trans hl (by rw [sizeLine_eq]; omega))⟩
theorem m_join : MtR X "str.join" (rM X.K X.mg mJoin) := by
  intro pins s σ H x xs v us Q I rx rxs ⟨w, S, mu, u, ys, z, S', st, ru, rys, h, k⟩
  unfold mJoin at h
  split at h
  · rename_i a y
    obtain ⟨d, h1, h2⟩ := Option.bind_eq_some_iff.mp h
    obtain ⟨z', h3, h4⟩ := Option.map_eq_some_iff.mp h2
    cases h4
    obtain ⟨ds, ks, h5, h6, h7, rfl⟩ := joinD_inv h3
    cases ru with
    | d ru =>
      cases ru with
      | str _ ho hl =>
        cases rys with
        | cons ry rn =>
          cases rn
          obtain ⟨p, ws, rfl, ra, hq⟩ := items_rep st (vw_ok st ry h1) h5
          obtain ⟨e, hk⟩ := strs_rep ra h6
          subst e
          obtain ⟨q1, q2⟩ := join_ok ho (fun x hx => (hk x hx).1) h7
          exact mt_join pins s σ H _ _ v us Q I rx rxs ⟨a, p, ks, rfl, rfl, hq.imp_right fun q => q.1, h7, k.here st (.d (.str _ q1 q2))⟩
  · cases h
end
end
end Dv
set_option maxRecDepth 100000
set_option maxHeartbeats 1000000
namespace Dv
open PySem PySem.Spec PyProof.Rows L2
noncomputable section
/-! ### extend, count -/
def mExtend : FM := fun _ S u us => match u, us with
  | .ref n, [y] => (vw S y).bind fun d => (itemsD d).bind fun es => match S[n]? with
    | some (.lst ds) => if ds.length + es.length ≤ sizeLine then some (.d .non, S.set n (.lst (ds ++ es))) else none
    | some (.lsu ds) => if ds.length + es.length ≤ sizeLine then some (.d .non, S.set n (.lsu (ds ++ es.map U.d))) else none
    | _ => none
  | _, _ => none
def cntB (d : D) (ds : List D) : Nat := ds.countP fun e => eqB e d
def mCount : FM := fun _ S u us => match us with
  | [y] => (vw S u).bind fun l => (vw S y).bind fun d => match l with
    | .lst ds => if okD 59 d && ds.all (okD 59) then some (.d (.int (cntB d ds)), S) else none
    | _ => none
  | _ => none
section
variable {X : Cx}
theorem extend_of {pins : List (Addr × Obj)} {s : Shared} {σ : L2.St} {H : Hp} {l b : Addr} {xs ys : List V} {Q : VK} (I : Inv X pins σ H s) (hH : H l = some (.lst xs)) (hb : SqL X.K H b ys ∨ (SqT X.K H b ys ∧ True)) (hz : xs.length + ys.length ≤ sizeLine) (q : Q .non (upd H l (.lst (xs ++ ys)))) :
    wpAny (model X.prog X.w) X.A (call (.builtin "list.extend") [.ref l, .ref b]) (EP X pins σ Q) X.xe s := by
  obtain ⟨z, its, n, r, hl, e⟩ := I.lstM hH
  have main : ∀ (T : String) (o : Obj) (its2 : List Value) (n2 : Nat), (T = "list" ∨ T = "tuple") → Vals ys its2 → s.heap.get? b = some o → o.cls = .type T → o.data = .seq its2.toArray n2 →
      wpAny (model X.prog X.w) X.A (call (.builtin "list.extend") [.ref l, .ref b]) (EP X pins σ Q) X.xe s := fun T o its2 n2 hT r2 ho hc hd => by
    refine wpAny_call_entry F.slot_list_extend ⟨_, e, rfl⟩ F.entry_list_extend ?_ (F.args_list_extend_2 _ _)
    unfold Builtin.«list.extend»
    show wpAny _ _ (Builtin.List.listExtendWith (.ref l) (.ref b) .none) _ _ _
    unfold Builtin.List.listExtendWith
    refine wpAny_bind (wpAny_typeOf (T := T) ⟨o, ho, hc⟩ ?_)
    rw [if_pos (by rcases hT with rfl | rfl <;> simp)]
    refine wpAny_bind (listItems_at ho hd ?_)
    refine wpAny_bind (listItems_at e rfl ?_)
    have hlen2 : its2.length = ys.length := r2.length.symm
    have hsz : its.toArray.size + its2.toArray.size ≤ sizeLine := by rw [List.size_toArray, List.size_toArray]; omega
    rw [if_neg (by rw [notLongL hsz, Bool.and_false]; exact Bool.false_ne_true)]
    refine wpAny_bind (listUpdate_at e rfl ?_ (by rw [List.size_toArray]; omega) (by rw [Array.size_append]; omega))
    exact wpAny_pure ⟨_, rfl, .non, _, I.lset (its' := its ++ its2) hH e (by simp) (r.append r2) (by rw [List.length_append]; omega), rfl, q⟩
  rcases hb with hb | ⟨hb, _⟩
  · obtain ⟨its2, r2, ⟨o, n2, ho, hc, _, hd⟩, _⟩ := I.list hb
    exact main "list" o its2 n2 (.inl rfl) r2 ho hc hd
  · obtain ⟨its2, r2, ⟨o, ho, hc, n2, hd⟩, _⟩ := I.tuple hb
    exact main "tuple" o its2 n2 (.inr rfl) r2 ho hc hd
theorem m_extend : MtR X "list.extend" (rM X.K X.mg mExtend) := by
  intro pins s σ H x xs v us Q I rx rxs ⟨w, S, mu, u, ys, z, S', st, ru, rys, h, k⟩
  unfold mExtend at h
  split at h
  · rename_i n y
    obtain ⟨d, h1, h2⟩ := Option.bind_eq_some_iff.mp h
    obtain ⟨es, h3, h4⟩ := Option.bind_eq_some_iff.mp h2
    cases ru with
    | @ref _ a ha =>
      obtain rfl : v = Value.ref a := rx
      cases rys with
      | cons ry rn =>
        cases rn
        obtain ⟨b, ws, rfl, ra, hq⟩ := items_rep st (vw_ok st ry h1) h3
        obtain ⟨uv, rfl, ruv⟩ := vals1 rxs
        obtain rfl : uv = Value.ref b := ruv
        have hq' : SqL X.K H b ws ∨ (SqT X.K H b ws ∧ True) := hq.imp id fun z => ⟨z.1, trivial⟩
        split at h4
        · rename_i ds e1
          obtain ⟨vs, h0, rd⟩ := st.ok n _ a e1 ha
          split at h4
          · rename_i hl
            cases h4
            exact extend_of I h0 hq' (by rw [← rd.length, ← ra.length]; exact hl) (put_lst k st e1 rfl ha ⟨_, upd_same, rd.append ra⟩ (.d .non))
          · cases h4
        · rename_i ds e1
          obtain ⟨vs, h0, rd⟩ := st.ok n _ a e1 ha
          split at h4
          · rename_i hl
            cases h4
            exact extend_of I h0 hq' (by rw [← rd.length, ← ra.length]; exact hl) (put_lst k st e1 rfl ha ⟨_, upd_same, rd.append ra.us⟩ (.d .non))
          · cases h4
        · cases h4
  · cases h
theorem cnt_eq {n m : Nat} {d : D} (h : okD n d = true) : ∀ {ds : List D}, ds.all (okD m) = true → (toPs ds).countP (fun z => PyData.eqv z (toP d)) = cntB d ds
  | [], _ => rfl
  | e :: ds, k => by
    rw [List.all_cons, Bool.and_eq_true] at k
    have e1 : toPs (e :: ds) = toP e :: toPs ds := by rw [toPs_map, toPs_map]; rfl
    rw [e1]
    unfold cntB
    rw [List.countP_cons, List.countP_cons, cnt_eq h k.2, eqv_eqB k.1 h]
    rfl
theorem m_count (hu : X.A.units + 65 < cLine) : MtR X "list.count" (rM X.K X.mg mCount) := by
  intro pins s σ H x xs v us Q I rx rxs ⟨w, S, mu, u, ys, z, S', st, ru, rys, h, k⟩
  unfold mCount at h
  split at h
  · rename_i y
    obtain ⟨l, h1, h2⟩ := Option.bind_eq_some_iff.mp h
    obtain ⟨d, h3, h4⟩ := Option.bind_eq_some_iff.mp h2
    split at h4
    · rename_i ds
      split at h4
      · rename_i hc
        cases h4
        rw [Bool.and_eq_true] at hc
        cases rys with
        | cons ry rn =>
          cases rn
          obtain ⟨uv, rfl, ruv⟩ := vals1 rxs
          obtain ⟨a, vs, rfl, ha, ra⟩ := (vw_ok st ru h1).sq st
          obtain rfl : v = Value.ref a := rx
          obtain ⟨a1, a2, a3⟩ := toPH_ok st (vw_ok st ry h3) hc.1
          obtain ⟨b1, b2⟩ := toPs_ok st (fun r h => toP_ok st (n := 59) r h) ra hc.2
          obtain ⟨as, r1⟩ := Dp.reads I _ _ uv a1 ruv
          obtain ⟨bs, r2⟩ := Dp.reads I (.list _) (.ref a) (.ref a) (.lst ha b1) rfl
          have hcl := canLayAll_of fun p hp => (b2 p hp).1
          cases r2 with
          | @list _ o its n _ _ q1 q2 q3 q4 =>
            obtain ⟨cls, dd, data, sl⟩ := o
            simp only at q2 q3
            subst q2 q3
            refine call_meets PySem.F.slot_list_count ⟨_, q1, rfl⟩ PySem.F.entry_list_count (PySem.F.args_list_count_2 _ _)
              (SeqAt.list_countAt a _ _ dd sl uv fun y => PyData.eqv (SeqAt.readOf s.heap y) (toP d)) ⟨q1, SeqAt.items_eqAt q4 r1 hcl a2 ?_, ?_⟩
            · have : min (PyData.depthAll (toPs ds)) (toP d).depth ≤ (toP d).depth := Nat.min_le_right _ _
              omega
            · refine ⟨.int (cntB d ds), H, I.tok _, ⟨s.toks, ?_⟩, k.here st (.d (.int _))⟩
              have e1 : its.toList.countP (fun y => PyData.eqv (SeqAt.readOf s.heap y) (toP d)) = cntB d ds := by
                rw [← cnt_eq hc.1 hc.2, ← SeqAt.readsAll_map _ _ _ hcl q4, List.countP_map]
                rfl
              rw [← e1]
      · cases h4
    · cases h4
  · cases h
end
end
end Dv
set_option maxRecDepth 100000
set_option maxHeartbeats 1000000
namespace Dv
open PySem PySem.Spec PyProof.Rows L2
noncomputable section
/-! ### the end of a call: what it made is forgotten, but for what it hands back -/
def refOk (n : Nat) : U → Bool
  | .d _ => true
  | .ref m => decide (m < n)
def refsB (n : Nat) : Cell → Bool
  | .ins _ fs => fs.all fun p => refOk n p.2
  | .lsu us => us.all (refOk n)
  | _ => true
/-- what stood before leads to nothing new -/
def keepP (S S' : Store) : Prop := S.length ≤ S'.length ∧ ∀ j c, j < S.length → S'[j]? = some c → S[j]? = some c ∨ refsB S.length c = true
instance (S S' : Store) : Decidable (keepP S S') := Classical.propDecidable _
section
variable {K : PySem.W.Frag} {mg : Str → Option Value} {w w' : Wd} {H H' : Hp} {S S' : Store}
theorem repU_refOk (s : Sto K mg w H S) {u : U} {v : V} (r : RepU K mg w u v) : refOk S.length u = true := by
  cases r with
  | d _ => rfl
  | ref h =>
    have := (List.getElem?_eq_some_iff.mp h).1
    exact decide_eq_true (by rw [← s.len]; exact this)
theorem repUF_refOk (s : Sto K mg w H S) : ∀ {fs : List (Str × U)} {gs : List (Str × V)}, RepUF K mg w fs gs → (fs.all fun p => refOk S.length p.2) = true
  | _, _, .nil => rfl
  | _, _, .cons h t => by rw [List.all_cons, repUF_refOk s t, repU_refOk s h]; rfl
theorem repUs_refOk (s : Sto K mg w H S) : ∀ {fs : List U} {gs : List V}, RepUs K mg w fs gs → (fs.all (refOk S.length)) = true
  | _, _, .nil => rfl
  | _, _, .cons h t => by rw [List.all_cons, repUs_refOk s t, repU_refOk s h]; rfl
theorem refsB_of (s : Sto K mg w H S) {c : Cell} {a : Addr} (h : CellOk K mg w H c a) : refsB S.length c = true := by
  cases c with
  | ins c fs =>
    obtain ⟨C, dx, gs, _, _, r⟩ := h
    exact repUF_refOk s r
  | lsu us =>
    obtain ⟨vs, _, r⟩ := h
    exact repUs_refOk s r
  | _ => rfl
/-- the world without what is new -/
def Wd.cut (w w' : Wd) : Wd := ⟨w.ι, w'.C⟩
theorem Le.cut (l : Le w w') : Le w (w.cut w') := ⟨List.prefix_refl _, l.c⟩
mutual
theorem Rep.cut {w1 : Wd} (e : w1.C = w'.C) : ∀ {d : D} {v : V}, Rep K mg w' d v → Rep K mg w1 d v
  | _, _, .non => .non
  | _, _, .bl b => .bl b
  | _, _, .int i => .int i
  | _, _, .str z h hl => .str z h hl
  | _, _, .tup h r => .tup (by rw [e]; exact h) (Reps.cut e r)
  | _, _, .lst h r => .lst (by rw [e]; exact h) (Reps.cut e r)
  | _, _, .fl h r => .fl (by rw [e]; exact h) (Reps.cut e r)
  | _, _, .dct h r => .dct (by rw [e]; exact h) (RepK.cut e r)
  | _, _, .ins hc h r => .ins hc (by rw [e]; exact h) (RepF.cut e r)
  | _, _, .ty t => .ty t
  | _, _, .gl h => .gl h
theorem Reps.cut {w1 : Wd} (e : w1.C = w'.C) : ∀ {ds : List D} {vs : List V}, Reps K mg w' ds vs → Reps K mg w1 ds vs
  | _, _, .nil => .nil
  | _, _, .cons h t => .cons (Rep.cut e h) (Reps.cut e t)
theorem RepK.cut {w1 : Wd} (e : w1.C = w'.C) : ∀ {ds : List (D × D)} {vs : List (Key × V)}, RepK K mg w' ds vs → RepK K mg w1 ds vs
  | _, _, .nil => .nil
  | _, _, .cons hk kr h t => .cons hk (Rep.cut e kr) (Rep.cut e h) (RepK.cut e t)
theorem RepF.cut {w1 : Wd} (e : w1.C = w'.C) : ∀ {fs : List (Str × D)} {gs : List (Str × V)}, RepF K mg w' fs gs → RepF K mg w1 fs gs
  | _, _, .nil => .nil
  | _, _, .cons h t => .cons (Rep.cut e h) (RepF.cut e t)
end
theorem RepU.cut (s : Sto K mg w H S) (l : Le w w') {w1 : Wd} (e : w1.C = w'.C) (ei : w.ι <+: w1.ι) {u : U} {v : V} (h : RepU K mg w' u v) (ho : refOk S.length u = true) : RepU K mg w1 u v := by
  cases h with
  | d h => exact .d (h.cut e)
  | @ref n a h =>
    have hn : n < w.ι.length := by rw [s.len]; exact of_decide_eq_true ho
    have h1 : w.ι[n]? = some w.ι[n] := List.getElem?_eq_getElem hn
    have h2 := pre_get l.i h1
    rw [h] at h2
    cases h2
    exact .ref (pre_get ei h1)
theorem RepUF.cut (s : Sto K mg w H S) (l : Le w w') {w1 : Wd} (e : w1.C = w'.C) (ei : w.ι <+: w1.ι) : ∀ {fs : List (Str × U)} {gs : List (Str × V)}, RepUF K mg w' fs gs → (fs.all fun p => refOk S.length p.2) = true → RepUF K mg w1 fs gs
  | _, _, .nil, _ => .nil
  | _, _, .cons h t, ho => by
    rw [List.all_cons, Bool.and_eq_true] at ho
    exact .cons (h.cut s l e ei ho.1) (RepUF.cut s l e ei t ho.2)
theorem RepUs.cut (s : Sto K mg w H S) (l : Le w w') {w1 : Wd} (e : w1.C = w'.C) (ei : w.ι <+: w1.ι) : ∀ {fs : List U} {gs : List V}, RepUs K mg w' fs gs → (fs.all (refOk S.length)) = true → RepUs K mg w1 fs gs
  | _, _, .nil, _ => .nil
  | _, _, .cons h t, ho => by
    rw [List.all_cons, Bool.and_eq_true] at ho
    exact .cons (h.cut s l e ei ho.1) (RepUs.cut s l e ei t ho.2)
theorem CellOk.cut (s : Sto K mg w H S) (l : Le w w') {w1 : Wd} (e : w1.C = w'.C) (ei : w.ι <+: w1.ι) {c : Cell} {a : Addr} (h : CellOk K mg w' H' c a) (ho : refsB S.length c = true) : CellOk K mg w1 H' c a := by
  cases c with
  | lst ds => obtain ⟨vs, h1, h2⟩ := h; exact ⟨vs, h1, h2.cut e⟩
  | lsu us => obtain ⟨vs, h1, h2⟩ := h; exact ⟨vs, h1, h2.cut s l e ei ho⟩
  | dct ds => obtain ⟨vs, h1, h2⟩ := h; exact ⟨vs, h1, h2.cut e⟩
  | ins c fs => obtain ⟨C, dx, gs, h0, h1, h2⟩ := h; exact ⟨C, dx, gs, h0, h1, h2.cut s l e ei ho⟩
  | fz x => exact Rep.cut e h
theorem Sto.cut (s : Sto K mg w H S) (l : Le w w') (s' : Sto K mg w' H' S') (k : keepP S S') : Sto K mg (w.cut w') H' (S'.take S.length) := by
  have hl : w.ι.length = S.length := s.len
  have get : ∀ {n : Nat} {c : Cell} {a : Addr}, (S'.take S.length)[n]? = some c → w.ι[n]? = some a → n < S.length ∧ S'[n]? = some c ∧ w'.ι[n]? = some a := fun {n c a} e ea => by
    have hn : n < S.length := by rw [← hl]; exact (List.getElem?_eq_some_iff.mp ea).1
    rw [List.getElem?_take_of_lt hn] at e
    exact ⟨hn, e, pre_get l.i ea⟩
  refine ⟨by show w.ι.length = _; rw [List.length_take, hl]; exact (Nat.min_eq_left k.1).symm, s.nd, fun a ha => ?_, s'.cs, fun n c a e el ea => ?_, fun n c a e ea => ?_⟩
  · obtain ⟨n, hn⟩ := List.getElem?_of_mem (show a ∈ w.ι from ha)
    exact s'.has a (List.mem_of_getElem? (pre_get l.i hn))
  · obtain ⟨hn, e1, e2⟩ := get e ea
    exact s'.sep n c a e1 el e2
  · obtain ⟨hn, e1, e2⟩ := get e ea
    refine CellOk.cut (w1 := w.cut w') s l rfl (List.prefix_refl _) (s'.ok n c a e1 e2) ?_
    rcases k.2 n c hn e1 with h | h
    · exact refsB_of s (s.ok n c a h ea)
    · exact h
/-- .. with one list or dict that is handed back -/
theorem Sto.cutPush (s : Sto K mg w H S) (l : Le w w') (s' : Sto K mg w' H' S') (k : keepP S S') {n : Nat} {a : Addr} {c : Cell} (hn : S.length ≤ n) (e : S'[n]? = some c) (el : c.live = true) (ea : w'.ι[n]? = some a) (hr : refsB S.length c = true) :
    Le w ⟨w.ι ++ [a], w'.C⟩ ∧ Sto K mg ⟨w.ι ++ [a], w'.C⟩ H' (S'.take S.length ++ [c]) := by
  have hl : w.ι.length = S.length := s.len
  have hl2 : (S'.take S.length).length = S.length := by rw [List.length_take]; exact Nat.min_eq_left k.1
  have hlt : n < S'.length := (List.getElem?_eq_some_iff.mp e).1
  have get : ∀ {m : Nat} {d : Cell} {b : Addr}, (S'.take S.length ++ [c])[m]? = some d → (w.ι ++ [a])[m]? = some b → (m < S.length ∧ S'[m]? = some d ∧ w.ι[m]? = some b ∧ w'.ι[m]? = some b) ∨ (d = c ∧ b = a) := fun {m d b} e1 e2 => by
    by_cases hm : m < S.length
    · rw [List.getElem?_append_left (by rw [hl2]; exact hm), List.getElem?_take_of_lt hm] at e1
      rw [List.getElem?_append_left (by rw [hl]; exact hm)] at e2
      exact .inl ⟨hm, e1, e2, pre_get l.i e2⟩
    · have hm' : m = S.length := by
        have := (List.getElem?_eq_some_iff.mp e1).1
        rw [List.length_append, hl2] at this
        simp at this; omega
      subst hm'
      rw [List.getElem?_append_right (by rw [hl2]; exact Nat.le_refl _), hl2] at e1
      rw [List.getElem?_append_right (by rw [hl]; exact Nat.le_refl _), hl] at e2
      simp at e1 e2
      exact .inr ⟨e1.symm, e2.symm⟩
  refine ⟨⟨List.prefix_append _ _, l.c⟩, ⟨by show (w.ι ++ [a]).length = _; simp [hl, hl2], ?_, fun b hb => ?_, s'.cs, fun m d b e1 el1 e2 => ?_, fun m d b e1 e2 => ?_⟩⟩
  · show (w.ι ++ [a]).Nodup
    rw [List.nodup_append]
    refine ⟨s.nd, by simp, fun x hx y hy => ?_⟩
    have : y = a := by simpa using hy
    subst this
    rintro rfl
    obtain ⟨m, hm⟩ := List.getElem?_of_mem hx
    have hm1 : m < S.length := by rw [← hl]; exact (List.getElem?_eq_some_iff.mp hm).1
    have := nodup_get s'.nd (pre_get l.i hm) ea
    omega
  · rcases List.mem_append.mp hb with hb | hb
    · obtain ⟨m, hm⟩ := List.getElem?_of_mem hb
      exact s'.has b (List.mem_of_getElem? (pre_get l.i hm))
    · have : b = a := by simpa using hb
      subst this
      exact s'.has b (List.mem_of_getElem? ea)
  · rcases get e1 e2 with ⟨hm, q1, q2, q3⟩ | ⟨rfl, rfl⟩
    · exact s'.sep m d b q1 el1 q3
    · exact s'.sep n d b e el1 ea
  · rcases get e1 e2 with ⟨hm, q1, q2, q3⟩ | ⟨rfl, rfl⟩
    · refine CellOk.cut (w1 := ⟨w.ι ++ [a], w'.C⟩) s l rfl (List.prefix_append _ _) (s'.ok m d b q1 q3) ?_
      rcases k.2 m d hm q1 with h | h
      · exact refsB_of s (s.ok m d b h q2)
      · exact h
    · exact CellOk.cut (w1 := ⟨w.ι ++ [b], w'.C⟩) s l rfl (List.prefix_append _ _) (s'.ok n d b e ea) hr
end
/-- is it a list or a dict of data -/
def boxC : Cell → Bool
  | .lst _ => true
  | .dct _ => true
  | _ => false
def cutR (mu : Bool) (S0 : Store) (r : R U) : R U := match r with
  | .ok u S' => (match mu, u with
    | true, .ref n => (match S'[n]? with
      | some c => if boxC c = true ∧ S0.length ≤ n ∧ keepP S0 S' then .ok (.ref S0.length) (S'.take S0.length ++ [c]) else .ok u S'
      | none => .ok u S')
    | _, u => (match fr S' u with
      | some (x, S1) => if keepP S0 S1 then .ok (.d x) (S1.take S0.length) else .ok (.d x) S1
      | none => .ok u S'))
  | .exc c fs S' => if keepP S0 S' then .exc c fs (S'.take S0.length) else .exc c fs S'
  | .bad => .bad
theorem cutR_out {K : PySem.W.Frag} {mg : Str → Option Value} {W : WX} {σ : L2.St} {w : Wd} {H : Hp} {S : Store} {mu : Bool} {r : R U} {Q : VK} (s : Sto K mg w H S) (o : Out K mg (RepU K mg) W σ w H (cutR mu S r) Q) : Out K mg (RepU K mg) W σ w H r Q := by
  have frz : ∀ {u : U} {S' : Store}, Out K mg (RepU K mg) W σ w H (match fr S' u with
      | some (x, S1) => if keepP S S1 then R.ok (.d x) (S1.take S.length) else .ok (.d x) S1
      | none => .ok u S') Q → Out K mg (RepU K mg) W σ w H (.ok u S') Q := by
    intro u S' o w' H' v l s' r'
    cases q : fr S' u with
    | none => rw [q] at o; exact o w' H' v l s' r'
    | some p =>
      obtain ⟨x, S1⟩ := p
      rw [q] at o
      obtain ⟨w1, l1, s1, r1⟩ := fr_ok s' r' q
      dsimp only at o
      by_cases hk : keepP S S1
      · rw [if_pos hk] at o
        exact o (w.cut w1) H' v (Le.cut (l.trans l1)) (s.cut (l.trans l1) s1 hk) (.d (Rep.cut (w' := w1) (w1 := w.cut w1) rfl r1))
      · rw [if_neg hk] at o
        exact o w1 H' v (l.trans l1) s1 (.d r1)
  cases r with
  | bad => exact o.elim
  | exc c fs S' =>
    have o' : Out K mg (RepU K mg) W σ w H (if keepP S S' then .exc c fs (S'.take S.length) else .exc c fs S') Q := o
    by_cases hk : keepP S S'
    · rw [if_pos hk] at o'
      intro w' H' cls dd l s' r'
      obtain ⟨C, d, gs, h1, h2, h3, h4, h5⟩ := r'
      exact o' (w.cut w') H' cls dd (Le.cut l) (s.cut l s' hk) ⟨C, d, gs, h1, h2, h3, h4, RepF.cut (w' := w') (w1 := w.cut w') rfl h5⟩
    · rw [if_neg hk] at o'
      exact o'
  | ok u S' =>
    cases mu with
    | false => exact frz (by cases u <;> exact o)
    | true =>
      cases u with
      | d x => exact frz o
      | ref n =>
        have o' : Out K mg (RepU K mg) W σ w H (match S'[n]? with
          | some c => if boxC c = true ∧ S.length ≤ n ∧ keepP S S' then R.ok (.ref S.length) (S'.take S.length ++ [c]) else .ok (.ref n) S'
          | none => .ok (.ref n) S') Q := o
        cases q : S'[n]? with
        | none => rw [q] at o'; exact o'
        | some c =>
          rw [q] at o'
          dsimp only at o'
          by_cases hk : boxC c = true ∧ S.length ≤ n ∧ keepP S S'
          · rw [if_pos hk] at o'
            intro w' H' v l s' r'
            cases r' with
            | @ref _ a ha =>
              obtain ⟨h1, h2, h3⟩ := hk
              obtain ⟨l2, s2⟩ := s.cutPush l s' h3 h2 q (by cases c <;> first | rfl | cases h1) ha (by cases c <;> first | rfl | cases h1)
              refine o' _ H' _ l2 s2 (.ref ?_)
              show (w.ι ++ [a])[S.length]? = _
              rw [← s.len]; simp
          · rw [if_neg hk] at o'
            exact o'
end
end Dv
set_option maxRecDepth 100000
set_option maxHeartbeats 1000000
namespace Dv
open PySem PySem.Spec PyProof.Rows L2
noncomputable section
/-! ### defs that may be called -/
abbrev FC := List U → List U → Store → R U
def spC (K : PySem.W.Frag) (mg : Str → Option Value) (F : FC) (vs zs : List V) (H : Hp) (Q : VK) (E : XK) : Prop :=
  ∃ w S us ws, Sto K mg w H S ∧ RepUs K mg w us vs ∧ RepUs K mg w ws zs ∧ Out K mg (RepU K mg) (fun cls dd _ H' => E cls dd H') [] w H (F us ws S) Q
structure CalOk (P : Program) (w : World) (K : PySem.W.Frag) (mg : Str → Option Value) (base : Heap) (k : Nat) (f : Addr) (ks : List Str) (F : FC) : Prop where
  run : ∀ (A : Around) (outer : List PySem.Env) (s : Shared) (H : Hp) (us ws : List Value) (vs zs : List V) (Q : VK) (E : XK), Room k A → Env0 P w K mg base A outer s H → Vals vs us → Vals zs ws → zs.length = ks.length → spC K mg F vs zs H Q E →
    codeAny (model P w) A (.call (.ref f) ⟨us, ks.zip ws⟩) (CR (L2.CX P w) outer P w H s Q E) s
/-! ### a staticmethod, asked of its class -/
structure CStat (K : PySem.W.Frag) (C : Addr) (mc : Value) (m : Str) (p g : Addr) : Prop where
  at_ : PySem.W.findCls K (.ref C) mc m = some (.get (.builtin "staticmethod.__get__") (.ref p) .none (.ref C))
  rc : ∃ rest, PySem.W.recIn K p "staticmethod" = some (.ref g :: rest)
  kp : PySem.W.keepIn K (.ref g) = true
section
variable {X : Cx} {pins : List (Addr × Obj)} {σ : L2.St} {H : Hp} {s : Shared} {C p g : Addr} {mc : Value} {m : Str} {A : Around} {E : Value → Shared → Prop}
theorem getstat_ok {pl : Sem Bool} {Q : Value × List Value → Shared → Prop} (I : Inv X pins σ H s) (r : ClX.CRead X.K C mc) (k : CStat X.K C mc m p g) (h : ∀ s', Inv X pins σ H s' → Q (.ref g, []) s') : wpAny (model X.prog X.w) A (getMethod (.ref C) m pl) Q E s := by
  obtain ⟨rest, hp⟩ := k.rc
  exact PySem.W.method_cls I.kIn r.ga (PySem.W.cls_bind I.kIn r.rd k.at_ (wpAny_call (PySem.W.sm_get (s := { s with toks := s.toks + 1 }) I.kIn hp (PySem.W.handed_on rfl (h _ (I.tok _))))))
end
/-- what the evaluator is told of the program -/
structure Tab where
  kit : KitT
  mth : Str → Str → Option Str
  prp : Str → Str → Option Str
  fld : Str → Str → Bool
  con : Str → Str → Option D
  ccon : Str → Str → Option D
  stt : Str → Str → Option Str
  cls : Str → Option (Str × Bool)
  /-- is the class's own comparison asked first, beside a value of this type -/
  nf : Str → TyD → Bool
  /-- a class without an own __ne__; one whose operators are asked as usual -/
  neq : Str → Bool
  sf : Str → Bool
  call : Str → Bool → List Str → FC
/-- a def of the program at f, callable in X -/
def DefOk (X : Cx) (T : Tab) (j : Nat) (q : Str) (f : Addr) : Prop := ∃ k, Room (k + j) X.A ∧ ∀ mu ks, CalOk X.prog X.w X.K X.mg X.base k f ks (T.call q mu ks)
structure TabOk (X : Cx) (T : Tab) : Prop where
  kit : KitOk X.K X.mg T.kit
  mth : ∀ c m q, T.mth c m = some q → ∀ C, X.mg c = some (.ref C) → Cls X.K C ∧ ∃ f, Meth X.K C m f ∧ DefOk X T 1 q f
  prp : ∀ c f q, T.prp c f = some q → ∀ C, X.mg c = some (.ref C) → Cls X.K C ∧ ∃ p g, PropOf X.K C f p g ∧ DefOk X T 1 q g
  fld : ∀ c f, T.fld c f = true → ∀ C, X.mg c = some (.ref C) → Cls X.K C ∧ NoAttr X.K C f
  con : ∀ c f d, T.con c f = some d → ∀ C, X.mg c = some (.ref C) → Cls X.K C ∧ ∃ v u, Con X.K C f v u ∧ ∀ w, Rep X.K X.mg w d v
  ccon : ∀ c f d, T.ccon c f = some d → ∀ C, X.mg c = some (.ref C) → ∃ mc v u, ClX.CRead X.K C mc ∧ ClX.CVal X.K C mc f v u ∧ ∀ w, Rep X.K X.mg w d v
  stt : ∀ c m q, T.stt c m = some q → ∀ C, X.mg c = some (.ref C) → ∃ mc p g, ClX.CRead X.K C mc ∧ CStat X.K C mc m p g ∧ DefOk X T 0 q g
  cls : ∀ c q b, T.cls c = some (q, b) → ∃ C f, X.mg c = some (.ref C) ∧ Mk X.K C f ∧ DefOk X T 1 q f
  nf : ∀ c t, T.nf c t = true → ∀ C, X.mg c = some (.ref C) → (∀ tv, TyV X.mg t tv → PySem.W.notFirst X.K C tv = true) ∧ ∀ c', t = .c c' → ∀ C', X.mg c' = some (.ref C') → ClsF X.K C'
  neq : ∀ c, T.neq c = true → ∀ C, X.mg c = some (.ref C) → PySem.W.findIn X.K (.ref C) "__ne__" = some (some (.builtin "object.__ne__")) ∧ PySem.W.mroIn X.K C (.type "object") = some true
  sf : ∀ c, T.sf c = true → ∀ C, X.mg c = some (.ref C) → PySem.W.selfFirst X.K C = true
theorem DefOk.low {X : Cx} {T : Tab} {j : Nat} {q : Str} {f : Addr} (d : DefOk X T j q f) : DefOk X T 0 q f := by
  obtain ⟨k, hr, hc⟩ := d
  exact ⟨k, hr.mono (by omega), hc⟩
section
variable {X : Cx} {W : WX}
theorem run_cal {k : Nat} {f : Addr} {ks : List Str} {F : FC} {pins : List (Addr × Obj)} {σ : L2.St} {H : Hp} {s : Shared} {Q : VK} {us ws : List Value} {vs zs : List V} (c : CalOk X.prog X.w X.K X.mg X.base k f ks F) (hr : Room k X.A) (tk : Takes X W) (I : Inv X pins σ H s) (r : Vals vs us) (rz : Vals zs ws) (hl : zs.length = ks.length)
    (h : spC X.K X.mg F vs zs H Q (WE W σ)) : wpAny (model X.prog X.w) X.A (call (.ref f) us (ks.zip ws)) (EP X pins σ Q) X.xe s := by
  refine wpAny_call (codeAny_mono (c.run X.A X.stack s H us ws vs zs Q (WE W σ) hr I.env0 r rz hl h) fun r s' hq => ?_)
  cases r with
  | error e => exact passAt tk σ pins H s e s' I hq
  | ok fl =>
    cases fl with
    | ret u => exact I.after hq
    | next => exact False.elim hq
    | brk => exact False.elim hq
    | cont => exact False.elim hq
/-- the call's node, starred or not -/
theorem callWith_any {M : Model} {A : Around} {E : Value → Shared → Prop} {s : Shared} {f : Value} {first : List Value} {pos : Pos} {Q : Value → Shared → Prop} {P : Heap → Prop} {args : List (Bool × Sem Value)} {kw : List (Option Str × Sem Value)} (hkn : kw.any (·.1.isNone) = false)
    (hk : ∀ h, P h → ∃ k, (k = Keeper.frame ∨ k = Keeper.machine ∨ k = Keeper.boundFrame) ∧ PySem.W.Looks M h (keeperOf f) k)
    (h : wpAny M A (evalArgs f true args kw) (fun a s₁ => P s₁.heap ∧ wpAny M A (call f (first ++ a.pos) a.kw) Q E s₁) E s) : wpAny M A (callWith pos f first args kw) Q E s := by
  cases hst : args.any (·.1) with
  | false => exact PySem.W.callWith_of (by rw [hst, hkn]; rfl) hk h
  | true =>
    unfold callWith
    refine wpAny_bind (wpAny_holding (wpAny_mono h (fun a s₁ h₁ => wpAny_bind (wpAny_standAt ?_)) fun _ _ x => x))
    obtain ⟨k, hk', L⟩ := hk _ h₁.1
    simp only [hst, Bool.true_or]
    refine wpAny_bind (L.here ?_)
    have tail : ∀ {t : Sem Value}, wpAny M A t Q E s₁ → wpAny M A (t >>= fun r => holding [r] point >>= fun _ => pure r) Q E s₁ :=
      fun ht => wpAny_bind (wpAny_mono ht (fun r s₂ hr => wpAny_bind (wpAny_holding (wpAny_point (wpAny_pure hr)))) fun _ _ x => x)
    have marked (mk : Value) : wpAny M A (callMarked mk f (first ++ a.pos) a.kw) Q E s₁ := by unfold callMarked; exact Calls.wpAny_keep h₁.2
    rcases hk' with rfl | rfl | rfl <;> dsimp only <;> first | exact tail (marked _) | exact tail (wpAny_operating h₁.2)
/-- the call's node: the arguments, the keywords, the call -/
theorem callW {pins : List (Addr × Obj)} {σ : L2.St} {H : Hp} {s : Shared} {Q : Value → Shared → Prop} {f : Value} {first : List Value} {es : List Expr} {kws : List Keyword} {pos : Pos} {ta tk : TA} {G : List V → List V → Hp → Prop} (hk : PySem.W.keepIn X.K f = true) (I : Inv X pins σ H s)
    (ha : PA X es ta) (hkw : PK X kws tk) (hall : (backToKw pos (keywordEach kws X.env)).all (·.1.isSome) = true) (hnil : es = [] → ∀ σ H R, ta σ H R → R [] H) (hst : ∀ e r, es = e :: r → starEach (e :: r) X.env = (false, eval e X.env) :: starEach r X.env)
    (h : ta σ H fun vs H1 => tk σ H1 fun zs H2 => G vs zs H2)
    (run : ∀ (s2 : Shared) (H2 : Hp) (us ws : List Value) (vs zs : List V), Inv X pins σ H2 s2 → Vals vs us → Vals zs ws → G vs zs H2 → wpAny (model X.prog X.w) X.A (call f (first ++ us) (((backToKw pos (keywordEach kws X.env)).filterMap (·.1)).zip ws)) Q X.xe s2) :
    wpAny (model X.prog X.w) X.A (callWith pos f first (backTo pos (starEach es X.env)) (backToKw pos (keywordEach kws X.env))) Q X.xe s := by
  have hkn : (backToKw pos (keywordEach kws X.env)).any (·.1.isNone) = false := by
    rw [List.any_eq_false]
    intro x hx
    have := List.all_eq_true.mp hall x hx
    cases h : x.1 with
    | none => rw [h] at this; cases this
    | some _ => simp
  cases es with
  | nil =>
    refine PySem.W.callWith_KW0 (h₀ := X.base) I.ok.mod.kin hk hall ?_ (by rw [hkn]; rfl)
    exact thn (hkw.run pos pins s σ H _ I (hnil rfl σ H _ h)) fun ws s2 ⟨zs, H2, I2, rz, q2⟩ => ⟨I2.kIn, run s2 H2 [] ws [] zs I2 .nil rz q2⟩
  | cons e r =>
    have he := hst e r rfl
    refine callWith_any hkn (PySem.W.keeps_K hk) (PyProof.Rows.evalArgs_kw2 hall (thn (ha.run pos pins s σ H _ I h) fun us s1 ⟨vs, H1, I1, r, q⟩ => ?_) he)
    exact thn (hkw.run pos pins s1 σ H1 _ I1 q) fun ws s2 ⟨zs, H2, I2, rz, q2⟩ => ⟨I2.kIn, run s2 H2 us ws vs zs I2 r rz q2⟩
/-! keywords -/
theorem K_nil : PK X [] (tIA X.K X.mg W gNil) := ⟨fun pos pins s σ H Q I ⟨w, S, ρ, st, en, o⟩ => pk_nil.run pos pins s σ H Q I (o w H [] (Le.refl _) st .nil)⟩
theorem K_cons {e : Expr} {kws : List Keyword} {ga : G} {gr : GA} {nm : Option Str} {kpos : Pos} (ha : PE X e (tI X.K X.mg W ga)) (hr : PK X kws (tIA X.K X.mg W gr)) : PK X (⟨nm, e, kpos⟩ :: kws) (tIA X.K X.mg W (gCons ga gr)) :=
  ⟨fun pos pins s σ H Q I ⟨w, S, ρ, st, en, o⟩ => (pk_cons (nm := nm) (kpos := kpos) ha hr).run pos pins s σ H Q I (tG_then st en o fun w1 H1 S1 d v l1 s1 p1 en1 o1 => tG_then (P := RepUs X.K X.mg) s1 en1 o1 fun w2 H2 S2 ds vs l2 s2 p2 en2 o2 =>
    o2 w2 H2 _ (Le.refl _) s2 (.cons (p1.mono l2) p2))⟩
theorem gNil_read {σ : L2.St} {H : Hp} {R : List V → Hp → Prop} (h : tIA X.K X.mg W gNil σ H R) : R [] H := by
  obtain ⟨w, S, ρ, st, en, o⟩ := h
  exact o w H [] (Le.refl _) st .nil
/-! ### a def of the module -/
def gCall (F : FC) (a ka : GA) : G := fun ρ S => (a ρ S).bind fun us S1 => (ka ρ S1).bind fun ws S2 => F us ws S2
/-- the facts of an argument list -/
structure ArgsF (X : Cx) (W : WX) (es : List Expr) (kws : List Keyword) (pos : Pos) (ks : List Str) (ga gk : GA) : Prop where
  pa : PA X es (tIA X.K X.mg W ga)
  pk : PK X kws (tIA X.K X.mg W gk)
  all : (backToKw pos (keywordEach kws X.env)).all (·.1.isSome) = true
  names : (backToKw pos (keywordEach kws X.env)).filterMap (·.1) = ks
  nil : es = [] → ga = gNil
  st : ∀ e r, es = e :: r → starEach (e :: r) X.env = (false, eval e X.env) :: starEach r X.env
  klen : ∀ ρ S ws S', gk ρ S = .ok ws S' → ws.length = ks.length
theorem args_then {es : List Expr} {kws : List Keyword} {pos : Pos} {ks : List Str} {ga gk : GA} (A : ArgsF X W es kws pos ks ga gk) {w : Wd} {S : Store} {ρ : Env} {σ : L2.St} {H : Hp} {F : FC} {Q : VK} (st : Sto X.K X.mg w H S) (en : EnvOk X.K X.mg w ρ σ)
    (o : Out X.K X.mg (RepU X.K X.mg) W σ w H (gCall F ga gk ρ S) Q) : tIA X.K X.mg W ga σ H fun vs H1 => tIA X.K X.mg W gk σ H1 fun zs H2 => zs.length = ks.length ∧ ∃ w2 S2 us ws, Le w w2 ∧ Sto X.K X.mg w2 H2 S2 ∧ RepUs X.K X.mg w2 us vs ∧ RepUs X.K X.mg w2 ws zs ∧ Out X.K X.mg (RepU X.K X.mg) W σ w2 H2 (F us ws S2) Q :=
  tG_then (P := RepUs X.K X.mg) st en o fun w1 H1 S1 us vs l1 s1 p1 en1 o1 => by
    refine ⟨w1, S1, ρ, s1, en1, ?_⟩
    cases q : gk ρ S1 with
    | ok ws S2 =>
      rw [q] at o1
      exact fun w2 H2 zs l2 s2 p2 => ⟨by rw [← p2.length]; exact A.klen ρ S1 ws S2 q, w2, S2, us, ws, l1.trans l2, s2, p1.mono l2, p2, Out.mono o1 l2⟩
    | exc c fs S2 => rw [q] at o1; exact o1
    | bad => rw [q] at o1; exact o1
theorem E_call {T : Tab} {x q : Str} {p pos : Pos} {es : List Expr} {kws : List Keyword} {ks : List Str} {ga gk : GA} {mu : Bool} {f : Addr} (d : DefOk X T 0 q f) (tk : Takes X W) (hg : Gl X x) (hm : X.mg x = some (.ref f)) (hk : PySem.W.keepIn X.K (.ref f) = true) (hdb : (x == ("__debug__" : Str)) = false) (A : ArgsF X W es kws pos ks ga gk) :
    PE X (.Call (.Name x p) es kws pos) (tI X.K X.mg W (gCall (T.call q mu ks) ga gk)) := by
  refine ⟨fun pins s σ H Q I ⟨w, S, ρ, st, en, o⟩ => ?_⟩
  refine wpAny_Call_Name_kw (ld_glob I hg hm ?_ hdb)
  refine callW (first := []) hk I A.pa A.pk A.all (fun e σ H R h => by rw [A.nil e] at h; exact gNil_read h) A.st (args_then A st en o) fun s2 H2 us ws vs zs I2 r rz ⟨hl, w2, S2, us', ws', _, st2, p1, p2, o2⟩ => ?_
  rw [A.names]
  obtain ⟨k, hr, hc⟩ := d
  exact run_cal (hc mu ks) hr tk I2 r rz hl ⟨w2, S2, us', ws', st2, p1, p2, by
    revert o2
    cases T.call q mu ks us' ws' S2 <;> exact fun o2 => o2⟩
/-! ### a new instance -/
def frFs : List (Str × U) → Store → Option (List (Str × D) × Store)
  | [], S => some ([], S)
  | (f, u) :: r, S => (fr S u).bind fun p => (frFs r p.2).map fun q => ((f, p.1) :: q.1, q.2)
def frzIns (S0 S : Store) : R U := match S[S0.length]? with
  | some (.ins c fs) => (match frFs fs S with
    | some (ds, S1) => (match S1[S0.length]? with
      | some (.ins c' fs') => if keepP S0 S1 then .ok (.d (.ins c ds)) (S1.take S0.length) else .ok (.ref S0.length) S
      | _ => .ok (.ref S0.length) S)
    | none => .ok (.ref S0.length) S)
  | _ => .ok (.ref S0.length) S
def isNonU : U → Bool
  | .d .non => true
  | _ => false
def mkIns (mutC : Bool) (c : Str) (F : FC) : FC := fun us ws S => match F (.ref S.length :: us) ws (S ++ [.ins c []]) with
  | .ok u S' => if isNonU u then (if mutC then .ok (.ref S.length) S' else frzIns S S') else .bad
  | .exc c' fs S' => if keepP S S' then .exc c' fs (S'.take S.length) else .exc c' fs S'
  | .bad => .bad
section
variable {K : PySem.W.Frag} {mg : Str → Option Value} {w w' : Wd} {H H' : Hp} {S S' : Store}
theorem frFs_ok : ∀ {fs : List (Str × U)} {gs : List (Str × V)} {w : Wd} {S : Store} {p : List (Str × D) × Store}, Sto K mg w H S → RepUF K mg w fs gs → frFs fs S = some p → ∃ w1, Le w w1 ∧ Sto K mg w1 H p.2 ∧ RepF K mg w1 p.1 gs
  | [], _, w, S, p, s, .nil, h => by cases h; exact ⟨w, Le.refl _, s, .nil⟩
  | (f, u) :: r, _, w, S, p, s, .cons h t, hp => by
    obtain ⟨q, h1, h2⟩ := Option.bind_eq_some_iff.mp hp
    obtain ⟨q2, h3, h4⟩ := Option.map_eq_some_iff.mp h2
    subst h4
    obtain ⟨w1, l1, s1, r1⟩ := fr_ok s h h1
    obtain ⟨w2, l2, s2, r2⟩ := frFs_ok s1 (t.mono l1) h3
    exact ⟨w2, l1.trans l2, s2, .cons (r1.mono l2) r2⟩
theorem frzIns_out {W : WX} {σ : L2.St} {Q : VK} {x : Addr} {H0 : Hp} (s : Sto K mg w H S) (l : Le w w') (s' : Sto K mg w' H' S') (hx : w'.ι[S.length]? = some x) (o : Out K mg (RepU K mg) W σ w H (frzIns S S') Q) : Q (.ref x) H' := by
  have keep : Out K mg (RepU K mg) W σ w H (.ok (.ref S.length) S') Q → Q (.ref x) H' := fun o => o w' H' _ l s' (.ref hx)
  unfold frzIns at o
  split at o
  · rename_i c fs e1
    split at o
    · rename_i ds S1 e2
      split at o
      · rename_i c' fs' e3
        split at o
        · rename_i hk
          obtain ⟨C, dx, gs, h0, h1, h2⟩ := s'.ok _ _ x e1 hx
          obtain ⟨w1, l1, s1, r1⟩ := frFs_ok s' h2 e2
          have hx1 := pre_get l1.i hx
          have r2 : Rep K mg (w1.put x (.ins C dx gs)) (.ins c ds) (.ref x) := .ins h0 put_at (r1.mono (Le.put (s1.sep _ _ x e3 rfl hx1)))
          obtain ⟨l2, s2⟩ := s1.fix e3 rfl hx1 h1 r2
          have l3 := (l.trans l1).trans l2
          have hk2 : keepP S (S1.set S.length (.fz (.ins c ds))) := ⟨by rw [List.length_set]; exact hk.1, fun j d hj e => by
            rw [List.getElem?_set_ne (by omega)] at e
            exact hk.2 j d hj e⟩
          have s3 := s.cut l3 s2 hk2
          have e4 : (S1.set S.length (.fz (.ins c ds))).take S.length = S1.take S.length := by
            rw [List.take_set_of_le (Nat.le_refl _)]
          rw [e4] at s3
          exact o _ H' _ (Le.cut l3) s3 (.d (Rep.cut (w' := w1.put x (.ins C dx gs)) (w1 := w.cut (w1.put x (.ins C dx gs))) rfl r2))
        · exact keep o
      · exact keep o
    · exact keep o
  · exact keep o
end
theorem run_make' {T : Tab} {c q : Str} {b : Bool} {ks : List Str} {pins : List (Addr × Obj)} {σ : L2.St} {H : Hp} {s : Shared} {Q : VK} {us ws : List Value} {vs zs : List V} {C f : Addr} (M : Mk X.K C f) (hc : X.mg c = some (.ref C)) (d : DefOk X T 1 q f) (tk : Takes X W) (I : Inv X pins σ H s) (r : Vals vs us) (rz : Vals zs ws) (hl : zs.length = ks.length)
    {w : Wd} {S : Store} {us' ws' : List U} (st : Sto X.K X.mg w H S) (p1 : RepUs X.K X.mg w us' vs) (p2 : RepUs X.K X.mg w ws' zs) (o : Out X.K X.mg (RepU X.K X.mg) W σ w H (mkIns b c (T.call q false ks) us' ws' S) Q) :
    wpAny (model X.prog X.w) X.A (call (.ref C) us (ks.zip ws)) (EP X pins σ Q) X.xe s := by
  obtain ⟨k, hr, hcal⟩ := d
  have n1 : H (s.heap.objs.size + 1) = none := I.hok.fresh (Nat.le_succ _)
  have n2 : H s.heap.objs.size = none := I.hok.fresh (Nat.le_refl _)
  have ne : s.heap.objs.size + 1 ≠ s.heap.objs.size := Nat.succ_ne_self _
  have I2 := Inv.made (C := C) I
  have st1 : Sto X.K X.mg w (upd H s.heap.objs.size (.own (s.heap.objs.size + 1))) S := st.beside n2
  have n3 : upd H s.heap.objs.size (.own (s.heap.objs.size + 1)) (s.heap.objs.size + 1) = none := by rw [upd_ne ne]; exact n1
  have st2 : Sto X.K X.mg (w.push (s.heap.objs.size + 1)) (upd (upd H s.heap.objs.size (.own (s.heap.objs.size + 1))) (s.heap.objs.size + 1) (.ins C s.heap.objs.size [])) (S ++ [.ins c []]) := st1.push n3 ⟨C, s.heap.objs.size, [], hc, upd_same, .nil⟩
  have hx : (w.push (s.heap.objs.size + 1)).ι[S.length]? = some (s.heap.objs.size + 1) := push_at st
  have l0 : Le w (w.push (s.heap.objs.size + 1)) := Le.push
  have sp : spC X.K X.mg (T.call q false ks) (.ref (s.heap.objs.size + 1) :: vs) zs (upd (upd H s.heap.objs.size (.own (s.heap.objs.size + 1))) (s.heap.objs.size + 1) (.ins C s.heap.objs.size [])) (fun v H2 => v = .non ∧ Q (.ref (s.heap.objs.size + 1)) H2) (WE W σ) := by
    refine ⟨_, _, .ref S.length :: us', ws', st2, .cons (.ref hx) (p1.mono l0), p2.mono l0, ?_⟩
    unfold mkIns at o
    split at o
    · rename_i u S' e
      rw [e]
      intro w' H' v l s' r'
      split at o
      · rename_i hu
        have hv : v = .non := by
          cases r' with
          | d r' => cases r' <;> first | rfl | cases hu
          | ref _ => cases hu
        refine ⟨hv, ?_⟩
        split at o
        · exact o w' H' _ (l0.trans l) s' (.ref (pre_get l.i hx))
        · exact frzIns_out (H0 := H) st (l0.trans l) s' (pre_get l.i hx) o
      · exact o.elim
    · rename_i c' fs S' e
      rw [e]
      intro w' H' cls dd l s' r'
      split at o
      · rename_i hk
        obtain ⟨C', d', gs, h1, h2, h3, h4, h5⟩ := r'
        exact o (w.cut w') H' cls dd (Le.cut (l0.trans l)) (st.cut (l0.trans l) s' hk) ⟨C', d', gs, h1, h2, h3, h4, RepF.cut (w' := w') (w1 := w.cut w') rfl h5⟩
      · exact o w' H' cls dd (l0.trans l) s' r'
    · exact o.elim
  refine wpAny_call (make_map (f := f) I.kIn M.makes M.init (beq_iff_eq.mp M.fn) (codeAny_mono ((hcal false ks).run _ X.stack _ _ (Value.ref (s.heap.objs.size + 1) :: us) ws _ zs _ (WE W σ) (hr.make C us (ks.zip ws)) (I2.env0.make C us (ks.zip ws)) (show Vals (V.ref (s.heap.objs.size + 1) :: vs) (Value.ref (s.heap.objs.size + 1) :: us) from .cons rfl r) rz hl sp) fun r s' hq' => ?_))
  cases r with
  | error e => exact passAt tk σ pins _ _ e s' I2 hq'
  | ok fl =>
    cases fl with
    | ret u =>
      obtain ⟨v, H', I3, rv, ev, q3⟩ := I2.after hq'
      subst ev
      exact ⟨rv, ⟨V.ref (s.heap.objs.size + 1), H', I3, rfl, q3⟩⟩
    | next => exact False.elim hq'
    | brk => exact False.elim hq'
    | cont => exact False.elim hq'
theorem E_make {T : Tab} {x q : Str} {b : Bool} {p pos : Pos} {es : List Expr} {kws : List Keyword} {ks : List Str} {ga gk : GA} {C f : Addr} (M : Mk X.K C f) (d : DefOk X T 1 q f) (tk : Takes X W) (hg : Gl X x) (hm : X.mg x = some (.ref C)) (hdb : (x == ("__debug__" : Str)) = false) (A : ArgsF X W es kws pos ks ga gk) :
    PE X (.Call (.Name x p) es kws pos) (tI X.K X.mg W (gCall (mkIns b x (T.call q false ks)) ga gk)) := by
  refine ⟨fun pins s σ H Q I ⟨w, S, ρ, st, en, o⟩ => ?_⟩
  refine wpAny_Call_Name_kw (ld_glob I hg hm ?_ hdb)
  refine callW (first := []) M.kp I A.pa A.pk A.all (fun e σ H R h => by rw [A.nil e] at h; exact gNil_read h) A.st (args_then A st en o) fun s2 H2 us ws vs zs I2 r rz ⟨hl, w2, S2, us', ws', _, st2, p1, p2, o2⟩ => ?_
  rw [A.names]
  exact run_make' M hm d tk I2 r rz hl st2 p1 p2 o2
end
end
end Dv
set_option maxRecDepth 100000
set_option maxHeartbeats 1000000
namespace Dv
open PySem PySem.Spec PyProof.Rows L2
noncomputable section
/-! ### instances -/
def dFs (fs : List (Str × D)) : List (Str × U) := fs.map fun p => (p.1, .d p.2)
def insU (S : Store) : U → Option (Str × List (Str × U))
  | .d (.ins c fs) => some (c, dFs fs)
  | .d _ => none
  | .ref n => match S[n]? with
    | some (.ins c fs) => some (c, fs)
    | some (.fz (.ins c fs)) => some (c, dFs fs)
    | _ => none
section
variable {K : PySem.W.Frag} {mg : Str → Option Value} {w w' : Wd} {H H' : Hp} {S S' : Store}
theorem repF_us : ∀ {fs : List (Str × D)} {gs : List (Str × V)}, RepF K mg w fs gs → RepUF K mg w (dFs fs) gs
  | _, _, .nil => .nil
  | _, _, .cons h t => .cons (.d h) (repF_us t)
theorem ins_rep (s : Sto K mg w H S) {c : Str} {fs : List (Str × D)} {v : V} (r : Rep K mg w (.ins c fs) v) : ∃ a C dx gs, v = .ref a ∧ mg c = some (.ref C) ∧ H a = some (.ins C dx gs) ∧ RepUF K mg w (dFs fs) gs := by
  cases r with
  | ins hc h r => exact ⟨_, _, _, _, rfl, hc, s.cs _ _ h, repF_us r⟩
theorem insU_ok (s : Sto K mg w H S) {u : U} {v : V} {c : Str} {fs : List (Str × U)} (r : RepU K mg w u v) (h : insU S u = some (c, fs)) : ∃ a C dx gs, v = .ref a ∧ mg c = some (.ref C) ∧ H a = some (.ins C dx gs) ∧ RepUF K mg w fs gs := by
  cases r with
  | d r =>
    rename_i x
    cases x <;> first | (cases h; exact ins_rep s r) | cases h
  | @ref n a ha =>
    have h' : (match S[n]? with
      | some (.ins c fs) => some (c, fs)
      | some (.fz (.ins c fs)) => some (c, dFs fs)
      | _ => none) = some (c, fs) := h
    split at h'
    · rename_i e1
      cases h'
      obtain ⟨C, dx, gs, h0, h1, h2⟩ := s.ok n _ a e1 ha
      exact ⟨a, C, dx, gs, rfl, h0, h1, h2⟩
    · rename_i e1
      cases h'
      exact ins_rep s (s.ok n _ a e1 ha)
    · cases h'
theorem repUF_look {f : Str} : ∀ {fs : List (Str × U)} {gs : List (Str × V)}, RepUF K mg w fs gs → (∀ u, fs.lookup f = some u → ∃ v, gs.lookup f = some v ∧ RepU K mg w u v) ∧ (fs.lookup f = none → gs.lookup f = none)
  | _, _, .nil => ⟨fun u h => by simp at h, fun _ => rfl⟩
  | _, _, .cons (f := g) h t => by
    obtain ⟨h1, h2⟩ := repUF_look (f := f) t
    rw [List.lookup_cons, List.lookup_cons]
    cases e : (f == g) with
    | true => exact ⟨fun u q => by cases q; exact ⟨_, rfl, h⟩, fun q => by cases q⟩
    | false => exact ⟨h1, h2⟩
theorem rep_gl {c : Str} {v : V} (r : RepU K mg w (.d (.gl c)) v) : ∃ C, v = .ref C ∧ mg c = some (.ref C) := by
  cases r with
  | d r => cases r with
    | gl h => exact ⟨_, rfl, h⟩
end
/-! ### attributes -/
def attrR (T : Tab) (f : Str) (u : U) (S : Store) : R U := match insU S u with
  | some (c, fs) => (match T.prp c f with
    | some q => (match T.call q false [] [u] [] S with
      | .ok v S' => .ok v S'
      | _ => .bad)
    | none => if T.fld c f then (match fs.lookup f with
      | some v => .ok v S
      | none => .bad) else (match T.con c f with
        | some d => if (fs.lookup f).isNone then .ok (.d d) S else .bad
        | none => .bad))
  | none => (match u with
    | .d (.gl c) => (match T.ccon c f with
      | some d => .ok (.d d) S
      | none => .bad)
    | _ => .bad)
def gAttr (T : Tab) (f : Str) (a : G) : G := fun ρ S => (a ρ S).bind fun u S1 => attrR T f u S1
section
variable {X : Cx} {W : WX}
theorem getprop_cal {k : Nat} {C p g a dx : Addr} {fs : List (Str × V)} {f : Str} {F : FC} {pins : List (Addr × Obj)} {σ : L2.St} {H : Hp} {s : Shared} {Q : VK} {b : Bool} {E' : Value → Shared → Prop} (I : Inv X pins σ H s) (ea : H a = some (.ins C dx fs)) (c : Cls X.K C) (hp : PropOf X.K C f p g)
    (F' : CalOk X.prog X.w X.K X.mg X.base k g [] F) (hr : Room (k + 1) X.A) (h : spC X.K X.mg F [.ref a] [] H Q (fun _ _ _ => False)) : wpAny (model X.prog X.w) X.A (getAttr (.ref a) f b) (EP X pins σ Q) E' s := by
  obtain ⟨mA, O, _, _, _, _⟩ := ins_get I.hok ea
  obtain ⟨od, J, _⟩ := O.look
  obtain ⟨rest, hrec⟩ := hp.rec_
  have I1 := I.tok (s.toks + 1)
  have hc : (PySem.W.clsIn X.K C).isSome = true := by
    obtain ⟨cd, hc, _⟩ := PySem.W.any_some c.hd
    rw [hc]
    rfl
  refine PySem.W.get_bind I.kIn J (PySem.W.plainGet_of (c.get f)).1 (PySem.W.findObj_data hc hp.at_ hp.get hp.tak) (PySem.W.plainGet_of (c.get f)).2 (wpAny_call (PySem.W.prop_get (s := { s with toks := s.toks + 1 }) I.kIn hrec ?_))
  refine codeAny_mono (F'.run X.A.in1 X.stack { s with toks := s.toks + 1 } H [.ref a] [] [.ref a] [] Q (fun _ _ _ => False) hr.in1 I1.env0.in1 (.cons rfl .nil) .nil rfl h) fun r s' hq => ?_
  cases r with
  | error er =>
    obtain ⟨_, _, _, _, _, _, _, _, _, _, _, _, z⟩ := hq
    exact z.elim
  | ok fl =>
    cases fl with
    | ret u =>
      obtain ⟨v, H', I3, rv, q3⟩ := I1.after hq
      show wpAny _ _ (handedOut u) _ _ _
      rw [PySem.W.handedOut_of (handed_of rv)]
      exact wpAny_pure ⟨v, H', I3, rv, q3⟩
    | next => exact False.elim hq
    | brk => exact False.elim hq
    | cont => exact False.elim hq
theorem E_attr {T : Tab} (hT : TabOk X T) {e : Expr} {f : Str} {pos : Pos} {ga : G} (he : PE X e (tI X.K X.mg W ga)) (hab : attributeBase e f X.env (eval e X.env) = eval e X.env) : PE X (.Attribute e f pos) (tI X.K X.mg W (gAttr T f ga)) := by
  refine ⟨fun pins s σ H Q I ⟨w, S, ρ, st, en, o⟩ => ?_⟩
  have main : tI X.K X.mg W ga σ H fun x H1 => ∃ w1 S1 u, Sto X.K X.mg w1 H1 S1 ∧ RepU X.K X.mg w1 u x ∧ Out X.K X.mg (RepU X.K X.mg) W σ w1 H1 (attrR T f u S1) Q :=
    tG_then st en o fun w1 H1 S1 d v l1 s1 p1 en1 o1 => ⟨w1, S1, d, s1, p1, o1⟩
  refine attr_of hab (thn (he.run pins s σ H _ I main) fun v s1 ⟨x, H1, I1, rx, w1, S1, u, st1, p1, o1⟩ => ?_)
  unfold attrR at o1
  split at o1
  · rename_i c fs hi
    obtain ⟨a, C, dx, gs, rfl, hc, ha, hr⟩ := insU_ok st1 p1 hi
    obtain rfl : v = Value.ref a := rx
    split at o1
    · rename_i q hq
      obtain ⟨hcl, p, g, hp, k, hrm, hcal⟩ := hT.prp c f q hq C hc
      refine getprop_cal I1 ha hcl hp (hcal false []) hrm ⟨w1, S1, [u], [], st1, .cons p1 .nil, .nil, ?_⟩
      split at o1
      · rename_i v' S' e1
        rw [e1]
        exact o1
      · exact o1.elim
    · split at o1
      · rename_i hf
        obtain ⟨hcl, hn⟩ := hT.fld c f hf C hc
        split at o1
        · rename_i v' hl
          obtain ⟨v2, h1, h2⟩ := (repUF_look hr).1 _ hl
          exact getattr_ok I1 ha hcl hn h1 fun u' s2 I2 ru => ⟨v2, H1, I2, ru, o1 w1 H1 _ (Le.refl _) st1 h2⟩
        · exact o1.elim
      · split at o1
        · rename_i d hd
          obtain ⟨hcl, v2, u2, hcon, hrep⟩ := hT.con c f d hd C hc
          split at o1
          · rename_i hl
            have hl' : fs.lookup f = none := by
              cases e : fs.lookup f with
              | none => rfl
              | some _ => rw [e] at hl; cases hl
            exact getcon_ok I1 ha hcl hcon ((repUF_look hr).2 hl') fun s2 I2 => ⟨v2, H1, I2, hcon.rel, o1 w1 H1 _ (Le.refl _) st1 (.d (hrep w1))⟩
          · exact o1.elim
        · exact o1.elim
  · split at o1
    · rename_i c _
      split at o1
      · rename_i d hd
        obtain ⟨C, rfl, hc⟩ := rep_gl p1
        obtain rfl : v = Value.ref C := rx
        obtain ⟨mc, v2, u2, h1, h2, h3⟩ := hT.ccon c f d hd C hc
        exact ClX.getcval_ok I1 h1 h2 fun s2 I2 => ⟨v2, H1, I2, h2.rel, o1 w1 H1 _ (Le.refl _) st1 (.d (h3 w1))⟩
      · exact o1.elim
    · exact o1.elim
/-! ### methods -/
/-- the methods of built-in types -/
def mbFor (m : Str) (t : String) : Option FM :=
  if t = "list" then (if m = "append" then some mAppend else if m = "insert" then some mInsert else if m = "clear" then some mClear else if m = "pop" then some mPop else if m = "extend" then some mExtend else if m = "count" then some mCount else none)
  else if t = "dict" then (if m = "clear" then some mClearD else none)
  else if t = "str" then (if m = "join" then some mJoin else none)
  else none
/-- what is known of such a method -/
structure MbOk (X : Cx) (m : Str) (t : String) (f : FM) : Prop where
  ex : ∃ id, PlainAttrs t ∧ Slot t m id ∧ typeOf (.builtin id) = pure (.type "method_descriptor") ∧ MtR X id (rM X.K X.mg f)
  ty : t = "list" ∨ t = "dict" ∨ t = "str"
/-- is it callable at all (asked ahead of the arguments) -/
def methKind (T : Tab) (m : Str) (u : U) (S : Store) : Option (Sum Str String) := match insU S u with
  | some (c, fs) => (match T.mth c m with
    | some q => if (fs.lookup m).isNone then some (.inl c) else none
    | none => none)
  | none => (match tyU S u with
    | some (.b t) => (match mbFor m t with
      | some _ => some (.inr t)
      | none => none)
    | _ => none)
def gMeth (T : Tab) (m : Str) (mu : Bool) (ks : List Str) (o : G) (a ka : GA) : G := fun ρ S => (o ρ S).bind fun u S1 => match methKind T m u S1 with
  | some (.inl c) => (match T.mth c m with
    | some q => (a ρ S1).bind fun us S2 => (ka ρ S2).bind fun ws S3 => T.call q mu ks (u :: us) ws S3
    | none => .bad)
  | some (.inr t) => (match mbFor m t with
    | some f => if ks.isEmpty then (a ρ S1).bind fun us S2 => match tyU S2 u with
      | some (.b t') => if t' = t then (match f mu S2 u us with
        | some (z, S') => .ok z S'
        | none => .bad) else .bad
      | _ => .bad else .bad
    | none => .bad)
  | none => .bad
/-- an exact list, dict or text, as the interpreter asks -/
def TyAt (T : String) (s : Shared) (v : Value) : Prop := s.TypeIs v T ∧ ∀ a, v = .ref a → ∃ ob, s.heap.get? a = some ob ∧ ob.dict = none
theorem tyV_of {pins : List (Addr × Obj)} {σ : L2.St} {s : Shared} {w : Wd} {H : Hp} {S : Store} {u : U} {v : V} {x : Value} {t : String} (I : Inv X pins σ H s) (rv : RelV v x) (st : Sto X.K X.mg w H S) (r : RepU X.K X.mg w u v) (h : tyU S u = some (.b t)) (ht : t = "list" ∨ t = "dict" ∨ t = "str") : TyAt t s x := by
  have dic : ∀ {a : Addr} {ps : List (Key × V)}, Rd H a (.dK ps) → RelV (.ref a) x → TyAt "dict" s x := fun ha rv => by
    cases rv
    obtain ⟨h1, h2, _⟩ := isD_at I (.inl ⟨_, ha⟩)
    exact ⟨h1, h2⟩
  have dat : ∀ {d : D} {v : V}, Rep X.K X.mg w d v → tyD d = some (.b t) → RelV v x → TyAt t s x := fun {d v} r h rv => by
    cases r with
    | str z _ _ => cases h; exact tyV_is I rv (T := "str") rfl
    | lst ha ra => cases h; exact tyV_is I rv (.inl ⟨rfl, _, SqL.of (st.cs _ _ ha)⟩)
    | fl ha ra => cases h; exact tyV_is I rv (.inl ⟨rfl, _, ha.l st⟩)
    | dct ha ra => cases h; exact dic (.inr ⟨_, st.cs _ _ ha⟩) rv
    | non => cases h; rcases ht with q | q | q <;> exact absurd q (by decide)
    | bl _ => cases h; rcases ht with q | q | q <;> exact absurd q (by decide)
    | int _ => cases h; rcases ht with q | q | q <;> exact absurd q (by decide)
    | tup _ _ => cases h; rcases ht with q | q | q <;> exact absurd q (by decide)
    | ins _ _ _ => cases h
    | ty _ => cases h
    | gl _ => cases h
  cases r with
  | d r => exact dat r h rv
  | @ref n a ha =>
    have h' : (match S[n]? with
      | some (.lst _) => some (TyD.b "list")
      | some (.lsu _) => some (TyD.b "list")
      | some (.dct _) => some (TyD.b "dict")
      | some (.ins c _) => some (TyD.c c)
      | some (.fz x) => tyD x
      | none => none) = some (.b t) := h
    split at h'
    · rename_i ds e1
      cases h'
      obtain ⟨vs, h0, _⟩ := st.ok n _ a e1 ha
      exact tyV_is I rv (.inl ⟨rfl, _, SqL.of h0⟩)
    · rename_i ds e1
      cases h'
      obtain ⟨vs, h0, _⟩ := st.ok n _ a e1 ha
      exact tyV_is I rv (.inl ⟨rfl, _, SqL.of h0⟩)
    · rename_i ds e1
      cases h'
      obtain ⟨vs, h0, _⟩ := st.ok n _ a e1 ha
      exact dic (.inl h0) rv
    · cases h'
    · rename_i x e1
      exact dat (st.ok n _ a e1 ha) h' rv
    · cases h'
theorem mb_ok (hu : X.A.units + 65 < cLine) {m : Str} {t : String} {f : FM} (h : mbFor m t = some f) : MbOk X m t f := by
  unfold mbFor at h
  split at h
  · rename_i e; subst e
    refine ⟨?_, .inl rfl⟩
    split at h
    · rename_i e; subst e; cases h; exact ⟨_, F.plainAttrs_list, F.slot_list_append, F.type_list_append, m_append⟩
    · split at h
      · rename_i e; subst e; cases h; exact ⟨_, F.plainAttrs_list, F.slot_list_insert, F.type_list_insert, m_insert⟩
      · split at h
        · rename_i e; subst e; cases h; exact ⟨_, F.plainAttrs_list, F.slot_list_clear, F.type_list_clear, m_clear⟩
        · split at h
          · rename_i e; subst e; cases h; exact ⟨_, F.plainAttrs_list, F.slot_list_pop, F.type_list_pop, m_pop⟩
          · split at h
            · rename_i e; subst e; cases h; exact ⟨_, F.plainAttrs_list, F.slot_list_extend, F.type_list_extend, m_extend⟩
            · split at h
              · rename_i e; subst e; cases h; exact ⟨_, F.plainAttrs_list, PySem.F.slot_list_count, PySem.F.type_list_count, m_count hu⟩
              · cases h
  · split at h
    · rename_i e; subst e
      refine ⟨?_, .inr (.inl rfl)⟩
      split at h
      · rename_i e; subst e; cases h; exact ⟨_, F.plainAttrs_dict, F.slot_dict_clear, F.type_dict_clear, m_dclear⟩
      · cases h
    · split at h
      · rename_i e; subst e
        refine ⟨?_, .inr (.inr rfl)⟩
        split at h
        · rename_i e; subst e; cases h; exact ⟨_, F.plainAttrs_str, F.slot_str_join, F.type_str_join, m_join⟩
        · cases h
      · cases h
theorem E_meth {T : Tab} (hu : X.A.units + 65 < cLine) (hT : TabOk X T) {o : Expr} {m : Str} {apos pos : Pos} {es : List Expr} {kws : List Keyword} {ks : List Str} {go : G} {ga gk : GA} {mu : Bool} (tk : Takes X W) (ho : PE X o (tI X.K X.mg W go)) (A : ArgsF X W es kws pos ks ga gk) (hns : ∀ e r, es = e :: r → (backTo pos (starEach r X.env)).any (·.1) = false)
    (hbase : attributeBase o m X.env (eval o X.env) = eval o X.env) (hline : (apos.endLine == pos.line) = true) (hfew : methodCallForm (es.length + kws.length) (backTo pos (starEach es X.env)) (backToKw pos (keywordEach kws X.env)) = true) (hkn : ks = [] → kws = []) :
    PE X (.Call (.Attribute o m apos) es kws pos) (tI X.K X.mg W (gMeth T m mu ks go ga gk)) := by
  refine ⟨fun pins s σ H Q I ⟨w, S, ρ, st, en, out⟩ => ?_⟩
  have main : tI X.K X.mg W go σ H fun x H1 => ∃ w1 S1 u, Sto X.K X.mg w1 H1 S1 ∧ RepU X.K X.mg w1 u x ∧ EnvOk X.K X.mg w1 ρ σ ∧ Out X.K X.mg (RepU X.K X.mg) W σ w1 H1 (match methKind T m u S1 with
    | some (.inl c) => (match T.mth c m with
      | some q => (ga ρ S1).bind fun us S2 => (gk ρ S2).bind fun ws S3 => T.call q mu ks (u :: us) ws S3
      | none => .bad)
    | some (.inr t) => (match mbFor m t with
      | some f => if ks.isEmpty then (ga ρ S1).bind fun us S2 => match tyU S2 u with
        | some (.b t') => if t' = t then (match f mu S2 u us with
          | some (z, S') => .ok z S'
          | none => .bad) else .bad
        | _ => .bad else .bad
      | none => .bad)
    | none => .bad) Q :=
    tG_then st en out fun w1 H1 S1 d v l1 s1 p1 en1 o1 => ⟨w1, S1, d, s1, p1, en1, o1⟩
  have hpos : methodCallPos true o X.env apos pos = pure pos := by unfold methodCallPos; simp [hline]
  refine PySem.W.methodCall_KW (pl := (do return (← importBound o X.env).getD true)) (thn (ho.run pins s σ H _ I main) fun v s1 ⟨x, H1, I1, rx, w1, S1, u, st1, p1, en1, o1⟩ => ?_) (by
    rw [arm_eval_Call, hbase]
    unfold methodCall
    rw [hfew, hpos]
    simp only [pure_bind]
    rfl)
  split at o1
  · rename_i c hkind
    unfold methKind at hkind
    split at hkind
    · rename_i c' fs hi
      split at hkind
      · rename_i q hq
        split at hkind
        · rename_i hl
          cases hkind
          rw [hq] at o1
          obtain ⟨a, C, dx, gs, rfl, hc, ha, hr⟩ := insU_ok st1 p1 hi
          obtain rfl : v = Value.ref a := rx
          obtain ⟨hcl, f, hm, d⟩ := hT.mth _ m q hq C hc; have d := d.low
          have hl' : fs.lookup m = none := by
            cases e : fs.lookup m with
            | none => rfl
            | some _ => rw [e] at hl; cases hl
          refine getmeth_ok I1 ha hcl hm ((repUF_look hr).2 hl') ?_
          have o2 : Out X.K X.mg (RepU X.K X.mg) W σ w1 H1 (gCall (fun us ws S => T.call q mu ks (u :: us) ws S) ga gk ρ S1) Q := o1
          refine callW (first := [.ref a]) hm.kp I1 A.pa A.pk A.all (fun e σ H R h => by rw [A.nil e] at h; exact gNil_read h) A.st (args_then A st1 en1 o2) fun s2 H2 us ws vs zs I2 r rz ⟨hl, w2, S2, us', ws', l2, st2, p2, p3, o3⟩ => ?_
          rw [A.names]
          obtain ⟨k, hrm, hcal⟩ := d
          refine run_cal (us := .ref a :: us) (vs := .ref a :: vs) (hcal mu ks) hrm tk I2 (show Vals (V.ref a :: vs) (Value.ref a :: us) from .cons rfl r) rz hl ⟨w2, S2, u :: us', ws', st2, .cons (p1.mono l2) p2, p3, ?_⟩
          revert o3
          cases T.call q mu ks (u :: us') ws' S2 <;> exact fun o3 => o3
        · cases hkind
      · cases hkind
    · split at hkind
      · split at hkind <;> cases hkind
      · cases hkind
  · rename_i t hkind
    have hty : tyU S1 u = some (.b t) ∧ (mbFor m t).isSome = true := by
      unfold methKind at hkind
      split at hkind
      · split at hkind
        · split at hkind <;> cases hkind
        · cases hkind
      · split at hkind
        · rename_i t' ht'
          split at hkind
          · rename_i hb; cases hkind; exact ⟨ht', by rw [hb]; rfl⟩
          · cases hkind
        · cases hkind
    split at o1
    · rename_i f hb
      split at o1
      · rename_i hks
        obtain ⟨⟨id, pa, slot, hmd, hm⟩, ht⟩ := mb_ok (X := X) hu hb
        have hks' : ks = [] := List.isEmpty_iff.mp hks
        have hkw := hkn hks'
        subst hkw
        obtain ⟨q1, q2⟩ := tyV_of I1 rx st1 p1 hty.1 ht
        refine getMethod_builtin q1 pa slot hmd q2 ?_
        have fin : ∀ {s2 : Shared} {H2 : Hp} {us : List Value} {vs : List V}, Inv X pins σ H2 s2 → Vals vs us → (∃ w2 S2 us', Le w1 w2 ∧ Sto X.K X.mg w2 H2 S2 ∧ RepUs X.K X.mg w2 us' vs ∧ Out X.K X.mg (RepU X.K X.mg) W σ w2 H2 (match tyU S2 u with
            | some (.b t') => if t' = t then (match f mu S2 u us' with
              | some (z, S') => R.ok z S'
              | none => .bad) else .bad
            | _ => .bad) Q) → wpAny (model X.prog X.w) X.A (call (.builtin id) (v :: us)) (EP X pins σ Q) X.xe s2 := fun {s2 H2 us vs} I2 r ⟨w2, S2, us', l2, st2, p2, o2⟩ => by
          split at o2
          · split at o2
            · split at o2
              · rename_i z S' hz
                exact hm pins s2 σ H2 x vs v us Q I2 rx r ⟨w2, S2, mu, u, us', z, S', st2, p1.mono l2, p2, hz, o2⟩
              · exact o2.elim
            · exact o2.elim
          · exact o2.elim
        have hA : tIA X.K X.mg W ga σ H1 fun vs H2 => ∃ w2 S2 us', Le w1 w2 ∧ Sto X.K X.mg w2 H2 S2 ∧ RepUs X.K X.mg w2 us' vs ∧ Out X.K X.mg (RepU X.K X.mg) W σ w2 H2 (match tyU S2 u with
            | some (.b t') => if t' = t then (match f mu S2 u us' with
              | some (z, S') => R.ok z S'
              | none => .bad) else .bad
            | _ => .bad) Q := tG_then (P := RepUs X.K X.mg) st1 en1 o1 fun w2 H2 S2 us vs l2 s2 p2 en2 o2 => ⟨w2, S2, us, l2, s2, p2, o2⟩
        cases es with
        | nil =>
          rw [A.nil rfl] at hA
          exact Calls.callWith_builtin rfl (PySem.evalArgs_none (fin I1 .nil (gNil_read hA)))
        | cons e r =>
          have he := A.st e r rfl
          have hp := hns e r rfl
          have hA2 := A.pa.run pos pins s1 σ H1 _ I1 hA
          rw [he] at hA2 ⊢
          refine Calls.callWith_builtin (by show (false || (backTo pos (starEach r X.env)).any (·.1)) = false; rw [hp] <;> rfl) (Calls.evalArgs_plain ?_)
          exact thn hA2 fun us s2 ⟨vs, H2, I2, r2, q2⟩ => fin I2 r2 q2
      · exact o1.elim
    · exact o1.elim
  · exact o1.elim
/-- C.m(..), a staticmethod -/
theorem E_stat {T : Tab} (hT : TabOk X T) {o : Expr} {c m q : Str} {apos pos : Pos} {es : List Expr} {kws : List Keyword} {ks : List Str} {ga gk : GA} {mu : Bool} (hq : T.stt c m = some q) (tk : Takes X W) (ho : PE X o (tI X.K X.mg W (gC (.gl c)))) (A : ArgsF X W es kws pos ks ga gk)
    (hbase : attributeBase o m X.env (eval o X.env) = eval o X.env) (hline : (apos.endLine == pos.line) = true) (hfew : methodCallForm (es.length + kws.length) (backTo pos (starEach es X.env)) (backToKw pos (keywordEach kws X.env)) = true) :
    PE X (.Call (.Attribute o m apos) es kws pos) (tI X.K X.mg W (gCall (T.call q mu ks) ga gk)) := by
  refine ⟨fun pins s σ H Q I ⟨w, S, ρ, st, en, out⟩ => ?_⟩
  have main : tI X.K X.mg W (gC (.gl c)) σ H fun x H1 => ∃ w1, Sto X.K X.mg w1 H1 S ∧ RepU X.K X.mg w1 (.d (.gl c)) x ∧ EnvOk X.K X.mg w1 ρ σ ∧ Out X.K X.mg (RepU X.K X.mg) W σ w1 H1 (gCall (T.call q mu ks) ga gk ρ S) Q :=
    ⟨w, S, ρ, st, en, fun w1 H1 v l1 s1 p1 => ⟨w1, s1, p1, en.mono l1, Out.mono out l1⟩⟩
  have hpos : methodCallPos true o X.env apos pos = pure pos := by unfold methodCallPos; simp [hline]
  refine PySem.W.methodCall_KW (pl := (do return (← importBound o X.env).getD true)) (thn (ho.run pins s σ H _ I main) fun v s1 ⟨x, H1, I1, rx, w1, st1, p1, en1, o1⟩ => ?_) (by
    rw [arm_eval_Call, hbase]
    unfold methodCall
    rw [hfew, hpos]
    simp only [pure_bind]
    rfl)
  obtain ⟨C, rfl, hc⟩ := rep_gl p1
  obtain rfl : v = Value.ref C := rx
  obtain ⟨mc, p, g, hr, hs, k, hrm, hcal⟩ := hT.stt c m q hq C hc
  refine getstat_ok I1 hr hs fun s2 I2 => ?_
  refine callW (first := []) hs.kp I2 A.pa A.pk A.all (fun e σ H R h => by rw [A.nil e] at h; exact gNil_read h) A.st (args_then A st1 en1 o1) fun s3 H2 us ws vs zs I3 r rz ⟨hl, w2, S2, us', ws', l2, st2, p2, p3, o3⟩ => ?_
  rw [A.names]
  refine run_cal (hcal mu ks) hrm tk I3 r rz hl ⟨w2, S2, us', ws', st2, p2, p3, ?_⟩
  revert o3
  cases T.call q mu ks us' ws' S2 <;> exact fun o3 => o3
end
end
end Dv
set_option maxRecDepth 100000
set_option maxHeartbeats 1000000
namespace PySem.W
open PySem PySem.Calls PyProof.Rows Builtin
theorem neSlotO : Slot "object" (cmpInfo .NotEq).2.1 "object.__ne__" := F.cmp_object.ne
section
variable {prog : Program} {w : World} {A : Around} {E : Value → Shared → Prop} {s : Shared} {K : Frag} {x C L f : Addr} {h₀ : Heap} {m : Str → Option Value} {ox : Obj} {od : Option Obj} {b tb : Value}
def NeBack (Q : Value → Shared → Prop) (v : Value) (s' : Shared) : Prop := match v with
  | .bool c => Q (.bool (!c)) s'
  | _ => False
theorem ne_ownK {Q : Value → Shared → Prop} (hu : A.units < cLine) (hu2 : A.in1.units < cLine) (F : Fr h₀ L s.heap m) (X₀ : K.In h₀) (I : InstAt s.heap x ox C od) (hb : Looks (model prog w) s.heap (typeOf b) tb) (hn : notFirst K C tb = true)
    (hs : findIn K (.ref C) "__ne__" = some (some (.builtin "object.__ne__"))) (he : findIn K (.ref C) "__eq__" = some (some (.ref f))) (hf : isFn K (.ref f) = true) (hm : mroIn K C (.type "object") = some true)
    (h : wpAny (model prog w) A.in1 (call (.ref f) [.ref x, b]) (NeBack Q) E s) : wpAny (model prog w) A (richCompare .NotEq (.ref x) b) Q E s := by
  have X := X₀.keeps F.keep
  have sub : Looks (model prog w) s.heap (isInstance (.ref x) (.type "object")) true := I.type.andThen (looks_mroIn X hm)
  have entry : codeAny (model prog w) A (.call (.builtin "object.__ne__") ⟨[.ref x, b], []⟩) (fun r s' => match r with
      | .ok (.ret v) => (∃ c, v = .bool c) ∧ Q v s'
      | .ok _ => False
      | .error e => E e s') s := by
    refine codeAny_call_builtin neSlotO.plain PySem.F.cmpEntry_ne (@check_slot (model prog w) _ _ s "object.__ne__" "object" "__ne__" (.ref x) [b] [] _ PySem.F.cmpKind_ne PySem.F.cmpSplit_ne sub (PySem.F.cmpArgs_ne _ _) ?_)
    unfold Builtin.«object.__ne__»
    refine wpAny_bind (wpAny_of_eq (a := ((Value.ref x : Value), [b])) (by first | rfl | (simp only [slotArgs]; rfl)) ?_)
    refine wpAny_bind (wpAny_cRoomFor hu2 ?_)
    refine wpAny_bind (ifBound_K X I he hf (wpAny_mono h (fun v s' hv => ?_) fun _ _ z => z))
    cases v <;> first | exact hv.elim | skip
    rename_i c
    refine wpAny_bind (wpAny_truthy_bool ?_)
    exact wpAny_pure ⟨⟨_, rfl⟩, hv⟩
  have one : wpAny (model prog w) A (tryCompare (.ref x) (cmpInfo .NotEq).2.1 b) (fun r s' => ∃ v, r = some v ∧ Q v s') E s := by
    unfold tryCompare
    have hc : wpAny (model prog w) A (call (.builtin "object.__ne__") [.ref x, b]) (fun v s' => (∃ c, v = .bool c) ∧ Q v s') E s := wpAny_call (codeAny_mono entry fun r s' hq => by
      cases r with
      | error e => exact hq
      | ok fl => cases fl <;> first | exact hq | exact hq.elim)
    have hbd : wpAny (model prog w) A (callSpecialIfBound? (.ref x) (cmpInfo .NotEq).2.1 [b]) (fun r s' => ∃ c, r = some (.bool c) ∧ Q (.bool c) s') E s := by
      simp only [callSpecialIfBound?, bindSpecialIfBound?]
      refine wpAny_holding (wpAny_bind (wpAny_bind (wpAny_bind (I.type.here ((looks_findIn X hs).here ?_)))))
      refine wpAny_bind (wpAny_askSetting (wpAny_ite ?_))
      have fin : wpAny (model prog w) A (call (.builtin "object.__ne__") ([.ref x] ++ [b]) >>= fun v => pure (some v)) (fun r s' => ∃ c, r = some (.bool c) ∧ Q (.bool c) s') E s := wpAny_bind (wpAny_mono hc (fun v s' h' => wpAny_pure (by
        obtain ⟨⟨c, rfl⟩, q⟩ := h'
        exact ⟨c, rfl, q⟩)) fun _ _ h' => h')
      rw [neSlotO.bind]
      split
      · exact wpAny_bind (wpAny_pure (wpAny_pure (by exact fin)))
      · exact wpAny_tryCatch (wpAny_bind (wpAny_pure (wpAny_pure (by exact fin))))
    refine wpAny_bind (wpAny_mono hbd (fun v s' hv => ?_) fun _ _ e => e)
    obtain ⟨c, rfl, q⟩ := hv
    exact wpAny_pure ⟨_, rfl, q⟩
  unfold richCompare
  simp only [oneThing_ref]
  refine wpAny_holding (wpAny_bind (wpAny_cRoomFor hu ?_))
  refine wpAny_bind (I.type.here (wpAny_bind (hb.here ?_)))
  split
  · rename_i q
    have e : subIn K tb (.ref C) = some false := by
      rcases Bool.or_eq_true_iff.mp hn with e | e
      · rw [beq_iff_eq.mp e] at q; simp at q
      · exact beq_iff_eq.mp e
    refine wpAny_bind ((looks_subIn X e).here ?_)
    simp only [Bool.false_eq_true, if_false]
    refine wpAny_bind (wpAny_mono one (fun r s' z => ?_) fun _ _ e => e)
    obtain ⟨v, rfl, hq⟩ := z
    exact wpAny_pure hq
  · refine wpAny_bind (wpAny_pure ?_)
    simp only [Bool.false_eq_true, if_false]
    refine wpAny_bind (wpAny_mono one (fun r s' z => ?_) fun _ _ e => e)
    obtain ⟨v, rfl, hq⟩ := z
    exact wpAny_pure hq
end
end PySem.W
namespace Dv
open PySem PySem.Spec PyProof.Rows L2
noncomputable section
/-! ### an own special method is asked, wherever the interpreter stands -/
section
variable {X : Cx} {W : WX}
theorem own_call {k : Nat} {g : Addr} {F : FC} {pins : List (Addr × Obj)} {σ : L2.St} {H : Hp} {s : Shared} {Q : VK} {A' : Around} {us : List Value} {vs : List V} {E' : Value → Shared → Prop} (I : Inv X pins σ H s)
    (F' : CalOk X.prog X.w X.K X.mg X.base k g [] F) (hr : Room k A') (hf : A'.frames = X.A.frames) (r : Vals vs us) (h : spC X.K X.mg F vs [] H Q (fun _ _ _ => False)) : wpAny (model X.prog X.w) A' (call (.ref g) us) (EP X pins σ Q) E' s := by
  have e := I.env0
  refine wpAny_call (codeAny_mono (F'.run A' X.stack s H us [] vs [] Q (fun _ _ _ => False) hr ⟨by rw [hf]; exact e.frames, e.mod, e.bs, e.bsz, e.funs, e.frf, e.hok, e.bare⟩ r .nil rfl h) fun r s' hq => ?_)
  cases r with
  | error er =>
    obtain ⟨_, _, _, _, _, _, _, _, _, _, _, _, z⟩ := hq
    exact z.elim
  | ok fl =>
    cases fl with
    | ret u => exact I.after hq
    | next => exact False.elim hq
    | brk => exact False.elim hq
    | cont => exact False.elim hq
/-- the value of an own method, no exception -/
def okR (r : R U) : R U := match r with
  | .ok v S => .ok v S
  | _ => .bad
/-- the own method m of u -/
def ownM (T : Tab) (S : Store) (u : U) (m : Str) : Option (Str × Str) := match insU S u with
  | some (c, _) => (T.mth c m).map fun q => (c, q)
  | none => none
abbrev noW : WX := fun _ _ _ _ => False
def rR (K : PySem.W.Frag) (mg : Str → Option Value) (f : Store → List U → R U) : List V → Hp → VK → Prop := fun xs H Q => ∃ w S us, Sto K mg w H S ∧ RepUs K mg w us xs ∧ Out K mg (RepU K mg) noW [] w H (f S us) Q
/-- an operation over arguments that may ask own methods -/
def gOR (f : Store → List U → R U) (a : GA) : G := fun ρ S => (a ρ S).bind fun us S1 => okR (f S1 us)
theorem out_okR {w : Wd} {H : Hp} {r : R U} {σ : L2.St} {Q : VK} (o : Out X.K X.mg (RepU X.K X.mg) W σ w H (okR r) Q) : Out X.K X.mg (RepU X.K X.mg) noW [] w H r Q := by
  cases r with
  | ok v S => exact o
  | exc c fs S => exact o.elim
  | bad => exact o.elim
theorem R_R {f : Store → List U → R U} {gr : GA} {σ : L2.St} {H : Hp} {Q : VK} (h : tI X.K X.mg W (gOR f gr) σ H Q) : tIA X.K X.mg W gr σ H fun xs H1 => rR X.K X.mg f xs H1 Q := by
  obtain ⟨w, S, ρ, s, en, o⟩ := h
  refine tG_then (P := RepUs X.K X.mg) s en o fun w1 H1 S1 d v l1 s1 p1 en1 o1 => ?_
  exact ⟨w1, S1, d, s1, p1, out_okR o1⟩
theorem E_callR {f : Store → List U → R U} {id : String} {x : Str} {p pos : Pos} {e : Expr} {es : List Expr} {gr : GA} (hc : CallR X (.builtin id) (rR X.K X.mg f)) (hg : Gl X x) (hm : X.mg x = none) (hv : bootBuiltins x = some (.builtin id)) (ha : PA X (e :: es) (tIA X.K X.mg W gr)) (hn : x ≠ "__name__") (hdb : (x == ("__debug__" : Str)) = false)
    (he : starEach (e :: es) X.env = (false, eval e X.env) :: starEach es X.env) (hpl : (backTo pos (starEach es X.env)).any (·.1) = false) : PE X (.Call (.Name x p) (e :: es) [] pos) (tI X.K X.mg W (gOR f gr)) := PE_imp (pe_callB hc hg hm hv ha hn hdb he hpl) fun _ _ _ h => R_R h
theorem E_callRT {f : Store → List U → R U} {T : String} {x : Str} {p pos : Pos} {e : Expr} {es : List Expr} {gr : GA} (hc : CallR X (.type T) (rR X.K X.mg f)) (hg : Gl X x) (hm : X.mg x = none) (hv : bootBuiltins x = some (.type T)) (ha : PA X (e :: es) (tIA X.K X.mg W gr)) (hn : x ≠ "__name__") (hdb : (x == ("__debug__" : Str)) = false)
    (he : starEach (e :: es) X.env = (false, eval e X.env) :: starEach es X.env) (hpl : (backTo pos (starEach es X.env)).any (·.1) = false) : PE X (.Call (.Name x p) (e :: es) [] pos) (tI X.K X.mg W (gOR f gr)) := PE_imp (pe_callTy hc hg hm hv ha hn hdb he hpl) fun _ _ _ h => R_R h
/-- what a plain operation over arguments gives -/
def plR (f : FU) : Store → List U → R U := fun S us => match f S us with
  | some z => .ok (.d z) S
  | none => .bad
def boxD : D → Bool
  | .lst _ => true
  | .dct _ => true
  | _ => false
/-- .. a value that is no list or dict -/
def plV (f : FU) : Store → List U → R U := fun S us => match f S us with
  | some z => if boxD z then .bad else .ok (.d z) S
  | none => .bad
theorem rU_of {f : FU} {xs : List V} {H : Hp} {Q : VK} {w : Wd} {S : Store} {us : List U} (st : Sto X.K X.mg w H S) (r : RepUs X.K X.mg w us xs) (o : Out X.K X.mg (RepU X.K X.mg) noW [] w H (plV f S us) Q) : rU X.K X.mg f xs H Q := by
  unfold plV at o
  split at o
  · rename_i z hz
    split at o
    · exact o.elim
    · rename_i hb
      refine ⟨w, S, us, z, st, r, hz, false, ?_⟩
      have e : mkU false z S = (.d z, S) := by cases z <;> rfl
      rw [e]
      exact o
  · exact o.elim
/-! len, repr -/
def lenR (T : Tab) : Store → List U → R U := fun S us => match us with
  | [u] => (match ownM T S u "__len__" with
    | some (_, q) => (match T.call q false [] [u] [] S with
      | .ok (.d (.int i)) S' => if 0 ≤ i ∧ i < 2 ^ 63 then .ok (.d (.int i)) S' else .bad
      | _ => .bad)
    | none => plV (fA cLen) S us)
  | _ => plV (fA cLen) S us
def reprR (T : Tab) : Store → List U → R U := fun S us => match us with
  | [u] => (match ownM T S u "__repr__" with
    | some (_, q) => (match T.call q false [] [u] [] S with
      | .ok (.d (.str x)) S' => .ok (.d (.str x)) S'
      | _ => .bad)
    | none => .bad)
  | _ => .bad
/-- what stands behind an instance -/
theorem own_ins {T : Tab} (hT : TabOk X T) {w : Wd} {H : Hp} {S : Store} {u : U} {v : V} {m c q : Str} (st : Sto X.K X.mg w H S) (r : RepU X.K X.mg w u v) (h : ownM T S u m = some (c, q)) : ∃ a C dx gs f, v = .ref a ∧ X.mg c = some (.ref C) ∧ H a = some (.ins C dx gs) ∧ Meth X.K C m f ∧ DefOk X T 1 q f := by
  unfold ownM at h
  split at h
  · rename_i c' fs hi
    obtain ⟨q', h1, h2⟩ := Option.map_eq_some_iff.mp h
    cases h2
    obtain ⟨a, C, dx, gs, rfl, hc, ha, _⟩ := insU_ok st r hi
    obtain ⟨_, f, hm, d⟩ := hT.mth _ _ _ h1 C hc
    exact ⟨a, C, dx, gs, f, rfl, hc, ha, hm, d⟩
  · cases h
theorem out_ok {w : Wd} {H : Hp} {r : R U} {Q Q' : VK} (o : Out X.K X.mg (RepU X.K X.mg) noW [] w H (okR r) Q) (h : ∀ v H', Q v H' → Q' v H') : Out X.K X.mg (RepU X.K X.mg) noW [] w H (okR r) Q' := o.imp h
theorem cr_len {T : Tab} (hT : TabOk X T) (hc : CallR X (.builtin "len") (rU X.K X.mg (fA cLen))) : CallR X (.builtin "len") (rR X.K X.mg (lenR T)) := by
  intro pins s σ H xs us Q I r ⟨w, S, us', st, rp, o⟩
  have plain : Out X.K X.mg (RepU X.K X.mg) noW [] w H (plV (fA cLen) S us') Q → wpAny (model X.prog X.w) X.A (call (.builtin "len") us) (EP X pins σ Q) X.xe s := fun o => hc pins s σ H xs us Q I r (rU_of st rp o)
  unfold lenR at o
  split at o
  · rename_i u
    split at o
    · rename_i c q hq
      cases rp with
      | cons r1 r2 =>
        cases r2
        cases r with
        | cons rv rn =>
          cases rn
          obtain ⟨a, C, dx, gs, f, rfl, hcg, ha, hm, k, hr, hcal⟩ := own_ins hT st r1 hq
          cases rv
          obtain ⟨mA, O, _⟩ := ins_get I.hok ha
          obtain ⟨od, J, _⟩ := O.look
          obtain ⟨mm, hF⟩ := I.fr
          refine PySem.W.len_K hF I.ok.mod.kin J hm.at_ hm.fn ?_
          have sp : spC X.K X.mg (T.call q false []) [.ref a] [] H (fun v H' => ∃ i, v = .int i ∧ (0 ≤ i ∧ i < 2 ^ 63) ∧ Q v H') (fun _ _ _ => False) := by
            refine ⟨w, S, [u], [], st, .cons r1 .nil, .nil, ?_⟩
            split at o
            · rename_i i S' hi
              rw [hi]
              split at o
              · rename_i hb
                intro w' H' v l s' rv
                cases rv with
                | d rv => cases rv; exact ⟨i, rfl, hb, o w' H' _ l s' (.d (.int i))⟩
              · exact o.elim
            · exact o.elim
          refine wpAny_mono (own_call I (hcal false []) hr.in1 rfl (show Vals [V.ref a] [Value.ref a] from .cons rfl .nil) sp) (fun v s' hv => ?_) fun _ _ z => z
          obtain ⟨x, H', I', rx, i, rfl, hb, hq⟩ := hv
          obtain ⟨t, rfl⟩ := rx
          exact ⟨hb, .int i, H', I'.tok _, ⟨_, rfl⟩, hq⟩
    · exact plain o
  · exact plain o
theorem cr_repr {T : Tab} (hT : TabOk X T) : CallR X (.builtin "repr") (rR X.K X.mg (reprR T)) := by
  intro pins s σ H xs us Q I r ⟨w, S, us', st, rp, o⟩
  unfold reprR at o
  split at o
  · rename_i u
    split at o
    · rename_i c q hq
      cases rp with
      | cons r1 r2 =>
        cases r2
        cases r with
        | cons rv rn =>
          cases rn
          obtain ⟨a, C, dx, gs, f, rfl, hcg, ha, hm, k, hr, hcal⟩ := own_ins hT st r1 hq
          cases rv
          obtain ⟨mA, O, _⟩ := ins_get I.hok ha
          obtain ⟨od, J, _⟩ := O.look
          obtain ⟨mm, hF⟩ := I.fr
          refine PySem.W.repr_K hr.in1.units0 hF I.ok.mod.kin J hm.at_ hm.fn ?_
          have sp : spC X.K X.mg (T.call q false []) [.ref a] [] H (fun v H' => ∃ i, v = .str i ∧ Q v H') (fun _ _ _ => False) := by
            refine ⟨w, S, [u], [], st, .cons r1 .nil, .nil, ?_⟩
            split at o
            · rename_i i S' hi
              rw [hi]
              intro w' H' v l s' rv
              cases rv with
              | d rv => cases rv with
                | str _ h1 h2 => exact ⟨i, rfl, o w' H' _ l s' (.d (.str i h1 h2))⟩
            · exact o.elim
          refine wpAny_mono (own_call I (hcal false []) hr.in1 rfl (show Vals [V.ref a] [Value.ref a] from .cons rfl .nil) sp) (fun v s' hv => ?_) fun _ _ z => z
          obtain ⟨x, H', I', rx, i, rfl, hq⟩ := hv
          obtain ⟨t, rfl⟩ := rx
          exact ⟨.str i, H', I', ⟨_, rfl⟩, hq⟩
    · exact o.elim
  · exact o.elim
/-! comparisons -/
/-- the own method that a comparison asks: its def, its arguments, is the answer turned -/
def ownCmp (T : Tab) (op : CmpOp) (S : Store) (x y : U) : Option (Option (Str × List U × Bool)) := match op with
  | .Eq => (ownM T S x "__eq__").map fun p => match tyU S y with
    | some t => if T.nf p.1 t then some (p.2, [x, y], false) else none
    | none => none
  | .NotEq => (ownM T S x "__eq__").map fun p => match tyU S y with
    | some t => if T.nf p.1 t && T.neq p.1 then some (p.2, [x, y], true) else none
    | none => none
  | .In => (ownM T S y "__contains__").map fun p => some (p.2, [y, x], false)
  | .NotIn => (ownM T S y "__contains__").map fun p => some (p.2, [y, x], true)
  | _ => none
def blR (neg : Bool) (r : R U) : R U := match r with
  | .ok (.d (.bl c)) S => .ok (.d (.bl (c != neg))) S
  | _ => .bad
def cmpR (T : Tab) (op : CmpOp) (f : F2) (x y : U) (S : Store) : R U := match ownCmp T op S x y with
  | some (some (q, us, neg)) => blR neg (T.call q false [] us [] S)
  | some none => .bad
  | none => up false S (f2 f S x y)
def gCmp (T : Tab) (op : CmpOp) (f : F2) (a b : G) : G := fun ρ S => (a ρ S).bind fun x S1 => (b ρ S1).bind fun y S2 => cmpR T op f x y S2
def rC (K : PySem.W.Frag) (mg : Str → Option Value) (T : Tab) (op : CmpOp) (f : F2) : R2 := fun x y H Q => ∃ w S a b, Sto K mg w H S ∧ RepU K mg w a x ∧ RepU K mg w b y ∧ Out K mg (RepU K mg) noW [] w H (cmpR T op f a b S) Q
theorem bl_out {w : Wd} {H : Hp} {r : R U} {Q : VK} {neg : Bool} (o : Out X.K X.mg (RepU X.K X.mg) noW [] w H (blR neg r) Q) : Out X.K X.mg (RepU X.K X.mg) (fun _ _ _ _ => False) [] w H r (fun v H' => ∃ c, v = .bl c ∧ Q (.bl (c != neg)) H') := by
  unfold blR at o
  split at o
  · rename_i c S'
    intro w' H' v l s' rv
    cases rv with
    | d rv => cases rv; exact ⟨c, rfl, o w' H' _ l s' (.d (.bl _))⟩
  · exact o.elim
theorem op_cmp {T : Tab} (hT : TabOk X T) {op : CmpOp} {f : F2} (ho : OpR X (compareOp op) (r2 X.K X.mg f)) : OpR X (compareOp op) (rC X.K X.mg T op f) := by
  intro pins s σ H x y v u Q I rx ry ⟨w, S, a, b, st, ra, rb, o⟩
  unfold cmpR at o
  split at o
  · rename_i q us neg hq
    have o1 := bl_out o
    have eqs : ∀ {p : Str × Str}, ownM T S a "__eq__" = some p → us = [a, b] → q = p.2 → ∀ t, tyU S b = some t → T.nf p.1 t = true →
        ∃ aa C dx gs ff k, x = .ref aa ∧ X.mg p.1 = some (.ref C) ∧ H aa = some (.ins C dx gs) ∧ Meth X.K C "__eq__" ff ∧ Room (k + 1) X.A ∧
          (∀ A', Room k A' → A'.frames = X.A.frames → wpAny (model X.prog X.w) A' (call (.ref ff) [.ref aa, u]) (EP X pins σ fun v H' => ∃ c, v = .bl c ∧ Q (.bl (c != neg)) H') X.xe s) ∧
          (∃ tb, PySem.W.notFirst X.K C tb = true ∧ PySem.W.Looks (model X.prog X.w) s.heap (typeOf u) tb) := by
      intro p hp hus hqq t ht hnf
      obtain ⟨aa, C, dx, gs, ff, rfl, hcg, ha, hm, k, hr, hcal⟩ := own_ins hT st ra hp
      cases rx
      refine ⟨aa, C, dx, gs, ff, k, rfl, hcg, ha, hm, hr, fun A' hr' hf => ?_, ?_⟩
      · refine own_call I (hcal false []) hr' hf (show Vals [V.ref aa, y] [Value.ref aa, u] from .cons rfl (.cons ry .nil)) ⟨w, S, us, [], st, by rw [hus]; exact .cons ra (.cons rb .nil), .nil, ?_⟩
        rw [← hqq] at *; exact o1
      · obtain ⟨n1, n2⟩ := hT.nf _ _ hnf C hcg
        obtain ⟨tv, h1, h2⟩ := ty_repU st rb ht n2
        obtain ⟨P, kx, hP, _⟩ := kit_of I ry h2
        exact ⟨tv, n1 tv h1, kx.ty _ _ I.kIn hP⟩
    have ins : ∀ {p : Str × Str}, ownM T S b "__contains__" = some p → us = [b, a] → q = p.2 →
        ∃ aa C dx gs ff k, y = .ref aa ∧ H aa = some (.ins C dx gs) ∧ Meth X.K C "__contains__" ff ∧ Room (k + 1) X.A ∧
          (∀ A', Room k A' → A'.frames = X.A.frames → wpAny (model X.prog X.w) A' (call (.ref ff) [.ref aa, v]) (EP X pins σ fun v H' => ∃ c, v = .bl c ∧ Q (.bl (c != neg)) H') X.xe s) := by
      intro p hp hus hqq
      obtain ⟨aa, C, dx, gs, ff, rfl, hcg, ha, hm, k, hr, hcal⟩ := own_ins hT st rb hp
      cases ry
      refine ⟨aa, C, dx, gs, ff, k, rfl, ha, hm, hr, fun A' hr' hf => ?_⟩
      refine own_call I (hcal false []) hr' hf (show Vals [V.ref aa, x] [Value.ref aa, v] from .cons rfl (.cons rx .nil)) ⟨w, S, us, [], st, by rw [hus]; exact .cons rb (.cons ra .nil), .nil, ?_⟩
      rw [← hqq] at *; exact o1
    cases op
    case Eq =>
      obtain ⟨p, hp, h2⟩ := Option.map_eq_some_iff.mp (show (ownM T S a "__eq__").map _ = _ from hq)
      split at h2
      · rename_i t ht
        split at h2
        · rename_i hnf
          have h3 := Option.some.inj h2
          obtain ⟨rfl, h4⟩ := Prod.mk.inj h3
          obtain ⟨rfl, rfl⟩ := Prod.mk.inj h4
          obtain ⟨aa, C, dx, gs, ff, k, rfl, hcg, ha, hm, hr, hcall, tb, hn, hlk⟩ := eqs hp rfl rfl t ht hnf
          obtain rfl : v = Value.ref aa := rx
          obtain ⟨mA, O, _⟩ := ins_get I.hok ha
          obtain ⟨od, J, _⟩ := O.look
          obtain ⟨mm, hF⟩ := I.fr
          show wpAny (model X.prog X.w) X.A (richCompare .Eq (.ref aa) u) (EP X pins σ Q) X.xe s
          refine PySem.W.cmp_K (op := .Eq) hr.units0 hF I.ok.mod.kin J hlk hn hm.at_ hm.fn (wpAny_mono (hcall X.A (hr.mono (by omega)) rfl) (fun v s' hv => ?_) fun _ _ z => z)
          obtain ⟨z, H', I', rz, c, rfl, hq⟩ := hv
          obtain rfl : v = Value.bool c := rz
          exact ⟨.bl c, H', I', rfl, by simpa using hq⟩
        · cases h2
      · cases h2
    case NotEq =>
      obtain ⟨p, hp, h2⟩ := Option.map_eq_some_iff.mp (show (ownM T S a "__eq__").map _ = _ from hq)
      split at h2
      · rename_i t ht
        split at h2
        · rename_i hnf0
          have hnf := (Bool.and_eq_true_iff.mp hnf0).1
          have h3 := Option.some.inj h2
          obtain ⟨rfl, h4⟩ := Prod.mk.inj h3
          obtain ⟨rfl, rfl⟩ := Prod.mk.inj h4
          obtain ⟨aa, C, dx, gs, ff, k, rfl, hcg, ha, hm, hr, hcall, tb, hn, hlk⟩ := eqs hp rfl rfl t ht hnf
          obtain ⟨n1, n2⟩ := hT.neq _ (Bool.and_eq_true_iff.mp hnf0).2 C hcg
          obtain rfl : v = Value.ref aa := rx
          obtain ⟨mA, O, _⟩ := ins_get I.hok ha
          obtain ⟨od, J, _⟩ := O.look
          obtain ⟨mm, hF⟩ := I.fr
          show wpAny (model X.prog X.w) X.A (richCompare .NotEq (.ref aa) u) (EP X pins σ Q) X.xe s
          refine PySem.W.ne_ownK hr.units0 hr.in1.units0 hF I.ok.mod.kin J hlk hn n1 hm.at_ hm.fn n2 (wpAny_mono (hcall X.A.in1 hr.in1 rfl) (fun v s' hv => ?_) fun _ _ z => z)
          obtain ⟨z, H', I', rz, c, rfl, hq⟩ := hv
          obtain rfl : v = Value.bool c := rz
          exact ⟨.bl (!c), H', I', rfl, by simpa using hq⟩
        · cases h2
      · cases h2
    case In =>
      obtain ⟨p, hp, h2⟩ := Option.map_eq_some_iff.mp (show (ownM T S b "__contains__").map _ = _ from hq)
      have h3 := Option.some.inj h2
      obtain ⟨rfl, h4⟩ := Prod.mk.inj h3
      obtain ⟨rfl, rfl⟩ := Prod.mk.inj h4
      obtain ⟨aa, C, dx, gs, ff, k, rfl, ha, hm, hr, hcall⟩ := ins hp rfl rfl
      obtain rfl : u = Value.ref aa := ry
      obtain ⟨mA, O, _⟩ := ins_get I.hok ha
      obtain ⟨od, J, _⟩ := O.look
      obtain ⟨mm, hF⟩ := I.fr
      refine PySem.W.in_K hF I.ok.mod.kin J hm.at_ hm.fn (wpAny_mono (hcall X.A (hr.mono (by omega)) rfl) (fun v s' hv => ?_) fun _ _ z => z)
      obtain ⟨z, H', I', rz, c, rfl, hq⟩ := hv
      obtain rfl : v = Value.bool c := rz
      exact wpAny_truthy_bool ⟨.bl c, H', I', rfl, by simpa using hq⟩
    case NotIn =>
      obtain ⟨p, hp, h2⟩ := Option.map_eq_some_iff.mp (show (ownM T S b "__contains__").map _ = _ from hq)
      have h3 := Option.some.inj h2
      obtain ⟨rfl, h4⟩ := Prod.mk.inj h3
      obtain ⟨rfl, rfl⟩ := Prod.mk.inj h4
      obtain ⟨aa, C, dx, gs, ff, k, rfl, ha, hm, hr, hcall⟩ := ins hp rfl rfl
      obtain rfl : u = Value.ref aa := ry
      obtain ⟨mA, O, _⟩ := ins_get I.hok ha
      obtain ⟨od, J, _⟩ := O.look
      obtain ⟨mm, hF⟩ := I.fr
      refine PySem.W.notIn_K hF I.ok.mod.kin J hm.at_ hm.fn (wpAny_mono (hcall X.A (hr.mono (by omega)) rfl) (fun v s' hv => ?_) fun _ _ z => z)
      obtain ⟨z, H', I', rz, c, rfl, hq⟩ := hv
      obtain rfl : v = Value.bool c := rz
      exact wpAny_truthy_bool ⟨.bl (!c), H', I', rfl, by simpa using hq⟩
    all_goals cases hq
  · exact o.elim
  · obtain ⟨z, hz, k⟩ := up_out o
    obtain ⟨xx, hx, hf⟩ := Option.bind_eq_some_iff.mp hz
    obtain ⟨yy, hy, hf⟩ := Option.bind_eq_some_iff.mp hf
    exact ho pins s σ H x y v u Q I rx ry ⟨w, S, xx, yy, z, st, vw_ok st ra hx, vw_ok st rb hy, hf, k⟩
end
end
end Dv
set_option maxRecDepth 100000
set_option maxHeartbeats 1000000
namespace Dv
open PySem PySem.Spec PyProof.Rows L2
noncomputable section
section
variable {X : Cx} {W : WX} {a b e : Expr} {ga gb : G} {pos : Pos} {mu : Bool}
/-! ### own + -/
def ownAdd (T : Tab) (op : Operator) (S : Store) (x y : U) : Option (Option Str) := match op with
  | .Add => (ownM T S x "__add__").map fun p => match tyU S y with
    | some (.c c') => if c' = p.1 ∧ T.sf p.1 = true ∧ T.nf p.1 (.c p.1) = true then some p.2 else none
    | _ => none
  | _ => none
def binR (T : Tab) (mu : Bool) (op : Operator) (f : F2) (x y : U) (S : Store) : R U := match ownAdd T op S x y with
  | some (some q) => T.call q false [] [x, y] [] S
  | some none => .bad
  | none => up mu S (f2 f S x y)
def gBin (T : Tab) (mu : Bool) (op : Operator) (f : F2) (a b : G) : G := fun ρ S => (a ρ S).bind fun x S1 => (b ρ S1).bind fun y S2 => binR T mu op f x y S2
theorem E_bin {T : Tab} (hT : TabOk X T) (tk : Takes X W) {op : Operator} {f : F2} (ho : OpR X (binaryOp op) (r2 X.K X.mg f)) (ha : PE X a (tI X.K X.mg W ga)) (hb : PE X b (tI X.K X.mg W gb)) : PE X (.BinOp a op b pos) (tI X.K X.mg W (gBin T mu op f ga gb)) := by
  refine ⟨fun pins s σ H Q I ⟨w, S, ρ, st, en, o⟩ => ?_⟩
  refine wpAny_BinOp (binT ha hb I (R := fun x y H2 => ∃ w2 S2 u1 u2, Sto X.K X.mg w2 H2 S2 ∧ RepU X.K X.mg w2 u1 x ∧ RepU X.K X.mg w2 u2 y ∧ Out X.K X.mg (RepU X.K X.mg) W σ w2 H2 (binR T mu op f u1 u2 S2) Q) ?_ ?_)
  · exact tG_then st en o fun w1 H1 S1 d v l1 s1 p1 en1 o1 => tG_then s1 en1 o1 fun w2 H2 S2 e u l2 s2 p2 en2 o2 => ⟨w2, S2, d, e, s2, p1.mono l2, p2, o2⟩
  · rintro v u s2 x y H2 I2 rx ry ⟨w2, S2, u1, u2, st2, r1, r2, o2⟩
    unfold binR at o2
    split at o2
    · rename_i q hq
      cases op
      case Add =>
        obtain ⟨p, hp, h2⟩ := Option.map_eq_some_iff.mp (show (ownM T S2 u1 "__add__").map _ = _ from hq)
        split at h2
        · rename_i c' ht
          split at h2
          · rename_i hc
            obtain rfl := Option.some.inj h2
            obtain ⟨rfl, hsf, hnf⟩ := hc
            obtain ⟨aa, C, dx, gs, ff, rfl, hcg, haa, hm, k, hr, hcal⟩ := own_ins hT st2 r1 hp
            obtain ⟨_, n2⟩ := hT.nf _ _ hnf C hcg
            obtain ⟨tv, h1, h3⟩ := ty_repU st2 r2 ht n2
            obtain ⟨P, kx, hP, _⟩ := kit_of I2 ry h3
            have etv : tv = Value.ref C := by
              cases h1 with
              | c h => rw [hcg] at h; cases h; rfl
            subst etv
            obtain rfl : v = Value.ref aa := rx
            obtain ⟨mA, O, _⟩ := ins_get I2.hok haa
            obtain ⟨od, J, _⟩ := O.look
            obtain ⟨mm, hF⟩ := I2.fr
            refine PySem.W.binop_K (op := .Add) hF I2.ok.mod.kin J (kx.ty _ _ I2.kIn hP) (hT.sf _ hsf C hcg) hm.at_ hm.fn ?_
            have z : wpAny (model X.prog X.w) X.A (call (.ref ff) [.ref aa, u] (([] : List Str).zip [])) (EP X pins σ Q) X.xe s2 := run_cal (hcal false []) (hr.mono (by omega)) tk I2 (show Vals [V.ref aa, y] [Value.ref aa, u] from .cons rfl (.cons ry .nil)) .nil rfl ⟨w2, S2, [u1, u2], [], st2, .cons r1 (.cons r2 .nil), .nil, by
              revert o2
              cases T.call p.2 false [] [u1, u2] [] S2 <;> exact fun o2 => o2⟩
            refine wpAny_mono z (fun v s' hv => ?_) fun _ _ z => z
            obtain ⟨y', H', I', ry', hq'⟩ := hv
            cases v with
            | notImplemented => exact absurd ry' (by cases y' <;> intro h <;> first | (obtain ⟨t, h⟩ := h; cases h) | cases h)
            | _ => exact ⟨y', H', I', ry', hq'⟩
          · cases h2
        · cases h2
      all_goals cases hq
    · exact o2.elim
    · obtain ⟨z, hz, k⟩ := up_out o2
      obtain ⟨xx, hx, hf⟩ := Option.bind_eq_some_iff.mp hz
      obtain ⟨yy, hy, hf⟩ := Option.bind_eq_some_iff.mp hf
      exact ho pins s2 σ H2 x y v u Q I2 rx ry ⟨w2, S2, xx, yy, z, st2, vw_ok st2 r1 hx, vw_ok st2 r2 hy, hf, k⟩
/-! ### truth -/
def truR (T : Tab) (u : U) (S : Store) : R Bool := match ownM T S u "__bool__" with
  | some (_, q) => (match T.call q false [] [u] [] S with
    | .ok (.d (.bl c)) S' => .ok c S'
    | _ => .bad)
  | none => match (vw S u).bind dTru with
    | some c => .ok c S
    | none => .bad
def gtTruO (T : Tab) (a : G) : GT := fun ρ S => (a ρ S).bind fun x S1 => truR T x S1
def rT (K : PySem.W.Frag) (mg : Str → Option Value) (T : Tab) : V → Hp → (Bool → Hp → Prop) → Prop := fun x H Q => ∃ w S u, Sto K mg w H S ∧ RepU K mg w u x ∧ Out K mg PB noW [] w H (truR T u S) Q
theorem tru_own {T : Tab} (hT : TabOk X T) : TruR X (rT X.K X.mg T) := by
  intro pins s σ H x v Q I rx ⟨w, S, u, st, ru, o⟩
  unfold truR at o
  split at o
  · rename_i c q hq
    obtain ⟨aa, C, dx, gs, ff, rfl, hcg, haa, hm, k, hr, hcal⟩ := own_ins hT st ru hq
    obtain rfl : v = Value.ref aa := rx
    obtain ⟨mA, O, _⟩ := ins_get I.hok haa
    obtain ⟨od, J, _⟩ := O.look
    obtain ⟨mm, hF⟩ := I.fr
    refine PySem.W.truthy_K hF I.ok.mod.kin J hm.at_ hm.fn ?_
    have sp : spC X.K X.mg (T.call q false []) [.ref aa] [] H (fun v H' => ∃ i, v = .bl i ∧ Q i H') (fun _ _ _ => False) := by
      refine ⟨w, S, [u], [], st, .cons ru .nil, .nil, ?_⟩
      split at o
      · rename_i i S' hi
        rw [hi]
        intro w' H' v l s' rv
        cases rv with
        | d rv => cases rv; exact ⟨i, rfl, o w' H' _ l s' rfl⟩
      · exact o.elim
    refine wpAny_mono (own_call I (hcal false []) (hr.mono (by omega)) rfl (show Vals [V.ref aa] [Value.ref aa] from .cons rfl .nil) sp) (fun v s' hv => ?_) fun _ _ z => z
    obtain ⟨x, H', I', rx, i, rfl, hq⟩ := hv
    obtain rfl : v = Value.bool i := rx
    exact ⟨H', I', hq⟩
  · split at o
    · rename_i k hk
      obtain ⟨y, qx, qt⟩ := Option.bind_eq_some_iff.mp hk
      exact tru_ok pins s σ H x v Q I rx (by
        refine ⟨k, ?_, o w H k (Le.refl _) st rfl⟩
        exact tru_V st (vw_ok st ru qx) qt)
    · exact o.elim
/-! ### f-strings -/
theorem E_fmt (he : PE X e (tI X.K X.mg W ga)) : PE X (.FormattedValue e (-1) none pos) (tI X.K X.mg W (gO1 false strD ga)) := PE_imp (pe_fmt he) fun σ H Q h => by
  have h' := R_1 h
  have fin : ∀ v H, r1 X.K X.mg strD v H Q → (∃ y : Str, v = .str y ∧ y.length ≤ sizeLine ∧ Q (.str y) H) ∨ ∃ i : Int, v = .int i ∧ i.natAbs.log2 < 1920 ∧ Q (.str (toString i)) H := by
    rintro v H ⟨w, S, d, z, st, rd, hz, k⟩
    cases d with
    | int i =>
      obtain rfl := rd.int
      have h2 : (if i.natAbs.log2 < 1920 then some (D.str (Str.ofString (toString i))) else none) = some z := hz
      split at h2
      · rename_i hi
        cases h2
        exact .inr ⟨i, rfl, hi, k.here st (.str _ (strOk_of _) (int_text_fits hi))⟩
      · cases h2
    | str x =>
      obtain ⟨rfl, o1, o2⟩ := rd.str
      cases hz
      exact .inl ⟨x, rfl, o2, k.here st (.str _ o1 o2)⟩
    | _ => cases hz
  obtain ⟨w, S, ρ, st, en, o⟩ := h'
  exact ⟨w, S, ρ, st, en, o.imp fin⟩
/-- the parts' texts, one behind the other -/
def gJs : List G → Str → G
  | [], acc => fun _ S => .ok (.d (.str acc)) S
  | g :: gs, acc => fun ρ S => (g ρ S).bind fun u S1 => match u with
    | .d (.str y) => if (acc ++ y).length ≤ sizeLine then gJs gs (acc ++ y) ρ S1 else .bad
    | _ => .bad
inductive PJ' (X : Cx) (W : WX) : List Expr → List G → Prop where
  | nil : PJ' X W [] []
  | cons {e : Expr} {g : G} {es : List Expr} {gs : List G} (h : PE X e (tI X.K X.mg W g)) (r : PJ' X W es gs) : PJ' X W (e :: es) (g :: gs)
theorem PJ'.to : ∀ {es : List Expr} {gs : List G}, PJ' X W es gs → L2.PJ X es (gs.map fun g => tI X.K X.mg W g)
  | _, _, .nil => .nil
  | _, _, .cons h r => .cons h r.to
theorem js_read : ∀ {gs : List G} {acc : Str} {σ : L2.St} {w : Wd} {H : Hp} {S : Store} {ρ : Env} {Q : VK}, PyData.strOk acc = true → acc.length ≤ sizeLine → Sto X.K X.mg w H S → EnvOk X.K X.mg w ρ σ → Out X.K X.mg (RepU X.K X.mg) W σ w H (gJs gs acc ρ S) Q →
    L2.tJs (gs.map fun g => tI X.K X.mg W g) acc σ H fun out H1 => Q (.str out) H1
  | [], acc, σ, w, H, S, ρ, Q, ha, hl, st, en, o => o w H _ (Le.refl _) st (.d (.str acc ha hl))
  | g :: gs, acc, σ, w, H, S, ρ, Q, ha, hl, st, en, o => by
    refine tG_then (P := RepU X.K X.mg) st en o fun w1 H1 S1 d v l1 s1 p1 en1 o1 => ?_
    split at o1
    · rename_i y
      cases p1 with
      | d p1 => cases p1 with
        | str _ h1 h2 =>
          split at o1
          · rename_i hz
            exact ⟨y, rfl, hz, js_read (strOk_add ha h1) hz s1 en1 o1⟩
          · exact o1.elim
    · exact o1.elim
theorem E_joined {v1 v2 : Expr} {rest : List Expr} {gs : List G} (h : PJ' X W (v1 :: v2 :: rest) gs) : PE X (.JoinedStr (v1 :: v2 :: rest) pos) (tI X.K X.mg W (gJs gs Str.empty)) := PE_imp (pe_joined h.to) fun σ H Q ⟨w, S, ρ, st, en, o⟩ => js_read (by decide +kernel) (Nat.zero_le _) st en o
end
end
end Dv
set_option maxRecDepth 100000
set_option maxHeartbeats 1000000
namespace Dv
open PySem PySem.Spec PyProof.Rows L2
noncomputable section
/-! ### statements -/
inductive RS where
  | nx (ρ : Env) (S : Store)
  | rt (d : U) (S : Store)
  | bk (ρ : Env) (S : Store)
  | ct (ρ : Env) (S : Store)
  | exc (c : Str) (fs : List (Str × D)) (ρ : Env) (S : Store)
  | bad
abbrev GS := Env → Store → RS
abbrev GTg := U → Env → Store → Option (Env × Store)
abbrev GTgs := List U → Env → Store → Option (Env × Store)
section
variable (K : PySem.W.Frag) (mg : Str → Option Value)
def OutS (W : WX) (w : Wd) (H : Hp) (r : RS) (E : Ends) : Prop :=
  match r with
  | .nx ρ' S' => ∀ w' H' σ', Le w w' → Sto K mg w' H' S' → EnvOk K mg w' ρ' σ' → E.nx σ' H'
  | .rt d S' => ∀ w' H' v, Le w w' → Sto K mg w' H' S' → RepU K mg w' d v → E.rt v H'
  | .bk ρ' S' => ∀ w' H' σ', Le w w' → Sto K mg w' H' S' → EnvOk K mg w' ρ' σ' → E.bk σ' H'
  | .ct ρ' S' => ∀ w' H' σ', Le w w' → Sto K mg w' H' S' → EnvOk K mg w' ρ' σ' → E.ct σ' H'
  | .exc c fs ρ' S' => ∀ w' H' σ' cls dd, Le w w' → Sto K mg w' H' S' → EnvOk K mg w' ρ' σ' → RepX K mg w' c fs cls dd → W cls dd σ' H'
  | .bad => False
def tSt (W : WX) (g : GS) : TS := fun E σ H => ∃ w S ρ, Sto K mg w H S ∧ EnvOk K mg w ρ σ ∧ OutS K mg W w H (g ρ S) E
/-- a target -/
def OutE (w : Wd) (H : Hp) (r : Option (Env × Store)) (Q : L2.St → Hp → Prop) : Prop :=
  match r with
  | some (ρ', S') => ∀ w' H' σ', Le w w' → Sto K mg w' H' S' → EnvOk K mg w' ρ' σ' → Q σ' H'
  | none => False
def tTg (g : GTg) : TG := fun v σ H Q => ∃ w S ρ d, Sto K mg w H S ∧ EnvOk K mg w ρ σ ∧ RepU K mg w d v ∧ OutE K mg w H (g d ρ S) Q
def tTgs (g : GTgs) : TGs := fun vs σ H Q => ∃ w S ρ ds, Sto K mg w H S ∧ EnvOk K mg w ρ σ ∧ RepUs K mg w ds vs ∧ OutE K mg w H (g ds ρ S) Q
end
section
variable {K : PySem.W.Frag} {mg : Str → Option Value} {w w' : Wd} {H H' : Hp} {W : WX} {σ : L2.St} {ρ : Env} {S : Store}
theorem OutS.mono {r : RS} {E : Ends} (h : OutS K mg W w H r E) (l : Le w w') : OutS K mg W w' H' r E := by
  cases r with
  | nx ρ' S' => exact fun w2 H2 v l2 s2 p2 => h w2 H2 v (l.trans l2) s2 p2
  | rt d S' => exact fun w2 H2 v l2 s2 p2 => h w2 H2 v (l.trans l2) s2 p2
  | bk ρ' S' => exact fun w2 H2 v l2 s2 p2 => h w2 H2 v (l.trans l2) s2 p2
  | ct ρ' S' => exact fun w2 H2 v l2 s2 p2 => h w2 H2 v (l.trans l2) s2 p2
  | exc c fs ρ' S' => exact fun w2 H2 v cls dd l2 s2 p2 => h w2 H2 v cls dd (l.trans l2) s2 p2
  | bad => exact h
theorem OutE.mono {r : Option (Env × Store)} {Q : L2.St → Hp → Prop} (h : OutE K mg w H r Q) (l : Le w w') : OutE K mg w' H' r Q := by
  cases r with
  | some p => exact fun w2 H2 v l2 s2 p2 => h w2 H2 v (l.trans l2) s2 p2
  | none => exact h
/-- behind an expression in a statement -/
def bindS {α : Type} (ρ : Env) (m : R α) (f : α → Store → RS) : RS := match m with
  | .ok a S => f a S
  | .exc c fs S => .exc c fs ρ S
  | .bad => .bad
@[simp] theorem bindS_ok {α : Type} (ρ : Env) (a : α) (S : Store) (f : α → Store → RS) : bindS ρ (R.ok a S) f = f a S := rfl
@[simp] theorem bindS_exc {α : Type} (ρ : Env) (c : Str) (fs : List (Str × D)) (S : Store) (f : α → Store → RS) : bindS ρ (R.exc c fs S : R α) f = .exc c fs ρ S := rfl
@[simp] theorem bindS_bad {α : Type} (ρ : Env) (f : α → Store → RS) : bindS ρ (R.bad : R α) f = .bad := rfl
theorem tG_thenS {α β : Type} {P : Wd → α → β → Prop} {ga : Env → Store → R α} {k : α → Store → RS} {E : Ends} {Q' : β → Hp → Prop}
    (s : Sto K mg w H S) (e : EnvOk K mg w ρ σ) (o : OutS K mg W w H (bindS ρ (ga ρ S) k) E)
    (hQ : ∀ w1 H1 S1 d v, Le w w1 → Sto K mg w1 H1 S1 → P w1 d v → EnvOk K mg w1 ρ σ → OutS K mg W w1 H1 (k d S1) E → Q' v H1) : tG K mg P W ga σ H Q' := by
  refine ⟨w, S, ρ, s, e, ?_⟩
  cases q : ga ρ S with
  | ok d S1 =>
    rw [q] at o
    exact fun w1 H1 v l1 s1 p1 => hQ w1 H1 S1 d v l1 s1 p1 (e.mono l1) (OutS.mono o l1)
  | exc c fs S1 =>
    rw [q] at o
    exact fun w' H' cls dd l1 s1 p1 => o w' H' σ cls dd l1 s1 (e.mono l1) p1
  | bad =>
    rw [q] at o
    exact o
end
/-! the statements' denotations -/
def sNil : GS := fun ρ S => .nx ρ S
def sSeq (a b : GS) : GS := fun ρ S => match a ρ S with
  | .nx ρ' S' => b ρ' S'
  | r => r
def sDrop (a : G) : GS := fun ρ S => bindS ρ (a ρ S) fun _ S1 => .nx ρ S1
def sRet (a : G) : GS := fun ρ S => bindS ρ (a ρ S) fun d S1 => .rt d S1
def sRetN : GS := fun _ S => .rt (.d .non) S
def sIf (t : GT) (a b : GS) : GS := fun ρ S => bindS ρ (t ρ S) fun c S1 => if c = true then a ρ S1 else b ρ S1
def sAsg (a : G) (t : GTg) : GS := fun ρ S => bindS ρ (a ρ S) fun d S1 => match t d ρ S1 with
  | some (ρ', S2) => .nx ρ' S2
  | none => .bad
def sBreak : GS := fun ρ S => .bk ρ S
def sCont : GS := fun ρ S => .ct ρ S
def sBad : GS := fun _ _ => .bad
/-! the targets' -/
def tgName (i : Nat) : GTg := fun d ρ S => some (ρ.set i (some d), S)
def tgNil : GTgs
  | [], ρ, S => some (ρ, S)
  | _ :: _, _, _ => none
def tgCons (t : GTg) (u : GTgs) : GTgs
  | [], _, _ => none
  | d :: ds, ρ, S => (t d ρ S).bind fun p => u ds p.1 p.2
/-- the items of a value that is unpacked -/
def itemsU (S : Store) (u : U) : Option (List U) := match u with
  | .ref n => (match S[n]? with
    | some (.lsu us) => some us
    | _ => ((vw S u).bind itemsD).map fun ds => ds.map U.d)
  | u => ((vw S u).bind itemsD).map fun ds => ds.map U.d
def tgTup (n : Nat) (u : GTgs) : GTg := fun d ρ S => (itemsU S d).bind fun ds => if ds.length = n then u ds ρ S else none
def putD (kvs : List (D × D)) (k v : D) : List (D × D) :=
  if (kvs.any fun p => decide (keyD p.1 = keyD k)) = true then kvs.map (fun p => if keyD p.1 = keyD k then (p.1, v) else p) else kvs ++ [(k, v)]
def dPut (S : Store) (o i d : U) : Option Store := match o with
  | .ref m => (fr S d).bind fun p => (match p.2[m]? with
    | some (.lst ds) => (match i with
      | .d (.int k) => (ixN ds.length k).map fun j => p.2.set m (.lst (ds.set j p.1))
      | _ => none)
    | some (.lsu ds) => (match i with
      | .d (.int k) => (ixN ds.length k).map fun j => p.2.set m (.lsu (ds.set j (.d p.1)))
      | _ => none)
    | some (.dct kvs) => (match i with
      | .d k => if isKey k ∧ kvs.length < 1000000 then some (p.2.set m (.dct (putD kvs k p.1))) else none
      | _ => none)
    | _ => none)
  | _ => none
def tgSub (o i : G) : GTg := fun d ρ S => match o ρ S with
  | .ok x S1 => match i ρ S1 with
    | .ok y S2 => (dPut S2 x y d).map fun S3 => (ρ, S3)
    | _ => none
  | _ => none
def setF (f : Str) (u : U) : List (Str × U) → List (Str × U)
  | [] => [(f, u)]
  | (g, x) :: r => if g = f then (g, u) :: r else (g, x) :: setF f u r
def attrPut (T : Tab) (S : Store) (o : U) (f : Str) (d : U) : Option Store := match o with
  | .ref m => (match S[m]? with
    | some (.ins c fs) => if T.fld c f = true ∧ fs.length < 1000 then some (S.set m (.ins c (setF f d fs))) else none
    | _ => none)
  | _ => none
def tgAttr (T : Tab) (o : G) (f : Str) : GTg := fun d ρ S => match o ρ S with
  | .ok x S1 => (attrPut T S1 x f d).map fun S3 => (ρ, S3)
  | _ => none
def tgBad : GTg := fun _ _ _ => none
section
variable {X : Cx} {W : WX} {e a : Expr} {es : List Expr} {ga : G} {st : Stmt} {sts : List Stmt} {pos : Pos} {gs hs : GS} {tg : Expr} {gt : GTg} {gts : GTgs} {t : GT}
theorem S_bad : PS X st (tSt X.K X.mg W sBad) := ⟨fun _ _ _ _ _ _ ⟨_, _, _, _, _, o⟩ => o.elim⟩
theorem Ss_nil : PSs X [] (tSt X.K X.mg W sNil) := PSs_imp pss_nil fun E σ H ⟨w, S, ρ, s, en, o⟩ => o w H σ (Le.refl _) s en
theorem Ss_cons (h1 : PS X st (tSt X.K X.mg W gs)) (h2 : PSs X sts (tSt X.K X.mg W hs)) : PSs X (st :: sts) (tSt X.K X.mg W (sSeq gs hs)) := PSs_imp (pss_cons h1 h2) fun E σ H ⟨w, S, ρ, s, en, o⟩ => by
  refine ⟨w, S, ρ, s, en, ?_⟩
  have e : sSeq gs hs ρ S = match gs ρ S with
    | .nx ρ' S' => hs ρ' S'
    | r => r := rfl
  rw [e] at o
  cases q : gs ρ S with
  | nx ρ' S' =>
    rw [q] at o
    exact fun w' H' σ' l1 s1 e1 => ⟨w', S', ρ', s1, e1, OutS.mono o l1⟩
  | rt d S' => rw [q] at o; exact o
  | bk ρ' S' => rw [q] at o; exact o
  | ct ρ' S' => rw [q] at o; exact o
  | exc c fs ρ' S' => rw [q] at o; exact o
  | bad => rw [q] at o; exact o
theorem Ss_one (h1 : PS X st (tSt X.K X.mg W gs)) : PSs X [st] (tSt X.K X.mg W gs) := pss_one h1
theorem S_pass : PS X (.Pass pos) (tSt X.K X.mg W sNil) := PS_imp ps_pass fun E σ H ⟨w, S, ρ, s, en, o⟩ => o w H σ (Le.refl _) s en
theorem S_break : PS X (.Break pos) (tSt X.K X.mg W sBreak) := PS_imp ps_break fun E σ H ⟨w, S, ρ, s, en, o⟩ => o w H σ (Le.refl _) s en
theorem S_cont : PS X (.Continue pos) (tSt X.K X.mg W sCont) := PS_imp ps_continue fun E σ H ⟨w, S, ρ, s, en, o⟩ => o w H σ (Le.refl _) s en
theorem S_drop (he : PE X e (tI X.K X.mg W ga)) (hs : swapsWith e none pos.line X.env = pure false) : PS X (.Expr e pos) (tSt X.K X.mg W (sDrop ga)) := PS_imp (ps_expr he hs) fun E σ H ⟨w, S, ρ, s, en, o⟩ =>
  tG_thenS s en o fun w1 H1 S1 d v l1 s1 p1 en1 o1 => o1 w1 H1 σ (Le.refl _) s1 en1
theorem S_ret (he : PE X e (tI X.K X.mg W ga)) : PS X (.Return (some e) pos) (tSt X.K X.mg W (sRet ga)) := PS_imp (ps_ret he) fun E σ H ⟨w, S, ρ, s, en, o⟩ =>
  tG_thenS s en o fun w1 H1 S1 d v l1 s1 p1 en1 o1 => o1 w1 H1 v (Le.refl _) s1 p1
theorem S_retN : PS X (.Return none pos) (tSt X.K X.mg W sRetN) := PS_imp ps_retN fun E σ H ⟨w, S, ρ, s, en, o⟩ => o w H .non (Le.refl _) s (.d .non)
theorem S_if {c : Expr} {x y : List Stmt} (hc : PT X c (tIT X.K X.mg W t)) (ha : PSs X x (tSt X.K X.mg W gs)) (hb : PSs X y (tSt X.K X.mg W hs)) : PS X (.If c x y pos) (tSt X.K X.mg W (sIf t gs hs)) := PS_imp (ps_if hc ha hb) fun E σ H ⟨w, S, ρ, s, en, o⟩ =>
  tG_thenS s en o fun w1 H1 S1 d v l1 s1 p1 en1 o1 => by
    have e : d = v := p1
    subst e
    cases d with
    | true => exact iteT ⟨w1, S1, ρ, s1, en1, o1⟩
    | false => exact iteF ⟨w1, S1, ρ, s1, en1, o1⟩
theorem S_asg (he : PE X e (tI X.K X.mg W ga)) (hg : PG X tg (tTg X.K X.mg gt)) (hs : swapsWithSole [tg] e pos.line X.env = pure false) (hw : swappedStores [tg] e X.env = pure none) (h1 : (assignEach [tg] X.env).map (·.2) = [assign tg X.env]) :
    PS X (.Assign [tg] e pos) (tSt X.K X.mg W (sAsg ga gt)) := PS_imp (ps_asg he hg hs hw h1) fun E σ H ⟨w, S, ρ, s, en, o⟩ =>
  tG_thenS s en o fun w1 H1 S1 d v l1 s1 p1 en1 o1 => by
    refine ⟨w1, S1, ρ, d, s1, en1, p1, ?_⟩
    cases q : gt d ρ S1 with
    | some p => rw [q] at o1; exact o1
    | none => rw [q] at o1; exact o1
theorem G_bad : PG X tg (tTg X.K X.mg tgBad) := ⟨fun _ _ _ _ _ _ _ _ _ ⟨_, _, _, _, _, _, _, o⟩ => o.elim⟩
theorem PG_imp {t t' : TG} (h : PG X tg t) (w : ∀ v σ H Q, t' v σ H Q → t v σ H Q) : PG X tg t' := ⟨fun pins s σ H v u Q I r q => h.run pins s σ H v u Q I r (w _ _ _ _ q)⟩
theorem PGs_imp {es : List Expr} {t t' : TGs} (h : PGs X es t) (w : ∀ v σ H Q, t' v σ H Q → t v σ H Q) : PGs X es t' := ⟨fun pins s σ H v u Q I r q => h.run pins s σ H v u Q I r (w _ _ _ _ q)⟩
theorem G_name {i : Nat} {x : Str} (hN : X.N.Nodup) (hi : X.N[i]? = some x) (hx : Loc X.env.scope x) (hf : X.fn x = true ∨ X.env.scope.names.lookup x = some .local) : PG X (.Name x pos) (tTg X.K X.mg (tgName i)) :=
  PG_imp (pg_name hN hi hx hf) fun v σ H Q ⟨w, S, ρ, d, s, en, r, o⟩ => o w H _ (Le.refl _) s (en.set r i)
theorem Gs_nil : PGs X [] (tTgs X.K X.mg tgNil) := PGs_imp pgs_nil fun vs σ H Q ⟨w, S, ρ, ds, s, en, r, o⟩ => by
  cases r with
  | nil => exact ⟨rfl, o w H σ (Le.refl _) s en⟩
  | cons _ _ => exact o.elim
theorem Gs_cons (h1 : PG X e (tTg X.K X.mg gt)) (h2 : PGs X es (tTgs X.K X.mg gts)) (hs : (assignEach (e :: es) X.env).map (·.2) = assign e X.env :: (assignEach es X.env).map (·.2)) : PGs X (e :: es) (tTgs X.K X.mg (tgCons gt gts)) :=
  PGs_imp (pgs_cons h1 h2 hs) fun vs σ H Q ⟨w, S, ρ, ds, s, en, r, o⟩ => by
    cases r with
    | nil => exact o.elim
    | @cons d v ds vs rd rt =>
      refine ⟨v, vs, rfl, w, S, ρ, d, s, en, rd, ?_⟩
      have o' : OutE X.K X.mg w H ((gt d ρ S).bind fun p => gts ds p.1 p.2) Q := o
      cases q : gt d ρ S with
      | none => rw [q] at o'; exact o'.elim
      | some p =>
        rw [q] at o'
        exact fun w' H' σ' l1 s1 e1 => ⟨w', p.2, p.1, ds, s1, e1, rt.mono l1, OutE.mono o' l1⟩
theorem itemsU_ok {w : Wd} {H : Hp} {S : Store} {u : U} {v : V} {us : List U} (st : Sto X.K X.mg w H S) (r : RepU X.K X.mg w u v) (h : itemsU S u = some us) : ∃ a vs, v = .ref a ∧ RepUs X.K X.mg w us vs ∧ (SqL X.K H a vs ∨ SqT X.K H a vs) := by
  have gen : (((vw S u).bind itemsD).map fun ds => ds.map U.d) = some us → ∃ a vs, v = .ref a ∧ RepUs X.K X.mg w us vs ∧ (SqL X.K H a vs ∨ SqT X.K H a vs) := fun h => by
    obtain ⟨ds, h1, rfl⟩ := Option.map_eq_some_iff.mp h
    obtain ⟨x, h2, h3⟩ := Option.bind_eq_some_iff.mp h1
    obtain ⟨a, vs, rfl, ra, hq⟩ := items_rep st (vw_ok st r h2) h3
    exact ⟨a, vs, rfl, ra.us, hq.imp_right fun q => q.1⟩
  unfold itemsU at h
  split at h
  · rename_i n
    split at h
    · rename_i us' e1
      cases h
      cases r with
      | ref ha =>
        obtain ⟨vs, h1, h2⟩ := st.ok n _ _ e1 ha
        exact ⟨_, vs, rfl, h2, .inl (SqL.of h1)⟩
    · exact gen h
  · exact gen h
theorem G_tup {n k : Nat} (hc : X.calm = true) (h : PGs X es (tTgs X.K X.mg gts)) (hn : (assignEach es X.env).length = n) (hst : (assignEach es X.env).findIdx? (·.1) = none) : PG X (.Tuple es k pos) (tTg X.K X.mg (tgTup n gts)) :=
  ⟨fun pins s σ H v u Q I r ⟨w, S, ρ, d, st, en, rd, o⟩ => by
    have o' : OutE X.K X.mg w H ((itemsU S d).bind fun ds => if ds.length = n then gts ds ρ S else none) Q := o
    cases q : itemsU S d with
    | none => rw [q] at o'; exact o'.elim
    | some ds =>
      rw [q] at o'
      have o2 : OutE X.K X.mg w H (if ds.length = n then gts ds ρ S else none) Q := o'
      by_cases hl : ds.length = n
      · rw [if_pos hl] at o2
        obtain ⟨a, vs, rfl, ra, hq⟩ := itemsU_ok st rd q
        rcases hq with hq | hq
        · exact (pg_lst hc h hn hst).run pins s σ H _ u Q I r ⟨a, vs, rfl, hq, by rw [← ra.length]; exact hl, w, S, ρ, ds, st, en, ra, o2⟩
        · exact (pg_tup hc h hn hst).run pins s σ H _ u Q I r ⟨a, vs, rfl, hq, by rw [← ra.length]; exact hl, w, S, ρ, ds, st, en, ra, o2⟩
      · rw [if_neg hl] at o2; exact o2.elim⟩
def rPut (K : PySem.W.Frag) (mg : Str → Option Value) : TSet := fun o i v H Q => ∃ w S x y d S', Sto K mg w H S ∧ RepU K mg w x o ∧ RepU K mg w y i ∧ RepU K mg w d v ∧ dPut S x y d = some S' ∧ ∀ w' H', Le w w' → Sto K mg w' H' S' → Q H'
theorem put_rep {K : PySem.W.Frag} {mg : Str → Option Value} {w : Wd} {kvs : List (D × D)} {ps : List (Key × V)} {k d : D} {v : V} {q : Key} (hk : keyD k = some q) (rk : Rep K mg w k (kV q)) (rd : Rep K mg w d v) (r : RepK K mg w kvs ps) : RepK K mg w (putD kvs k d) (putK ps q v) := by
  have hany : ∀ {kvs : List (D × D)} {ps : List (Key × V)}, RepK K mg w kvs ps → (kvs.any fun p => decide (keyD p.1 = keyD k)) = ps.any fun kv => decide (kv.1 = q) := by
    intro kvs ps r
    induction kvs generalizing ps with
    | nil => cases r; rfl
    | cons p kvs ih =>
      cases r with
      | cons hk' _ h t => rw [List.any_cons, List.any_cons, ih t, hk, hk']; simp
  have hmap : ∀ {kvs : List (D × D)} {ps : List (Key × V)}, RepK K mg w kvs ps → RepK K mg w (kvs.map fun p => if keyD p.1 = keyD k then (p.1, d) else p) (ps.map fun kv => if kv.1 = q then (kv.1, v) else kv) := by
    intro kvs ps r
    induction kvs generalizing ps with
    | nil => cases r; exact .nil
    | cons p kvs ih =>
      cases r with
      | @cons k' d' q' v' _ vs hk' kr h t =>
        rw [List.map_cons, List.map_cons, hk, hk']
        by_cases e : q' = q
        · subst e
          simp only [if_true]
          exact .cons hk' kr rd (hk ▸ ih t)
        · rw [if_neg (by simpa using e), if_neg e]
          exact .cons hk' kr h (hk ▸ ih t)
  have happ : ∀ {kvs : List (D × D)} {ps : List (Key × V)}, RepK K mg w kvs ps → RepK K mg w (kvs ++ [(k, d)]) (ps ++ [(q, v)]) := by
    intro kvs ps r
    induction kvs generalizing ps with
    | nil => cases r; exact .cons hk rk rd .nil
    | cons p kvs ih =>
      cases r with
      | cons hk' kr h t => exact .cons hk' kr h (ih t)
  unfold putD putK
  rw [hany r]
  split
  · exact hmap r
  · exact happ r
theorem p_put (hu : X.A.units + 1 < cLine) : PSet X (rPut X.K X.mg) := by
  intro pins s σ H o i v ov iv u Q I ro ri rv ⟨w, S, x, y, d, S', st, rx, ry, rd, h, k⟩
  unfold dPut at h
  split at h
  · rename_i m
    obtain ⟨p, h1, h2⟩ := Option.bind_eq_some_iff.mp h
    obtain ⟨w1, l1, st1, rd1⟩ := fr_ok st rd h1
    cases rx with
    | @ref _ a ha0 =>
      have ha := pre_get l1.i ha0
      split at h2
      · rename_i ds e1
        split at h2
        · rename_i n
          obtain ⟨j, h3, h4⟩ := Option.map_eq_some_iff.mp h2
          subst h4
          cases ry with
          | d ry =>
            cases ry
            obtain ⟨vs, h0, ra⟩ := st1.ok m _ a e1 ha
            refine set_list pins s σ H _ _ v ov iv u Q I ro ri rv ⟨a, vs, n, j, rfl, rfl, h0, by rw [← ra.length]; exact h3, ?_⟩
            exact k w1 _ l1 (st1.set (c' := .lst (ds.set j p.1)) (o := .lst (vs.set j v)) e1 rfl ha ⟨_, upd_same, ra.set rd1 j⟩)
        · cases h2
      · rename_i ds e1
        split at h2
        · rename_i n
          obtain ⟨j, h3, h4⟩ := Option.map_eq_some_iff.mp h2
          subst h4
          cases ry with
          | d ry =>
            cases ry
            obtain ⟨vs, h0, ra⟩ := st1.ok m _ a e1 ha
            refine set_list pins s σ H _ _ v ov iv u Q I ro ri rv ⟨a, vs, n, j, rfl, rfl, h0, by rw [← ra.length]; exact h3, ?_⟩
            exact k w1 _ l1 (st1.set (c' := .lsu (ds.set j (.d p.1))) (o := .lst (vs.set j v)) e1 rfl ha ⟨_, upd_same, ra.set (.d rd1) j⟩)
        · cases h2
      · rename_i kvs e1
        split at h2
        · rename_i key
          split at h2
          · rename_i hk
            cases h2
            obtain ⟨q, hq⟩ := Option.isSome_iff_exists.mp hk.1
            cases ry with
            | d ry =>
              obtain rfl := key_rep hq ry
              obtain ⟨ps, h0, ra⟩ := st1.ok m _ a e1 ha
              obtain rfl : ov = Value.ref a := ro
              have g : DPut H a (kV q) v (upd H a (.dK (putK ps q v))) := DPut.k h0 (by rw [← ra.length, sizeLine_eq]; have := hk.2; omega)
              refine d_setItem hu I g ri rv fun s' I' => ⟨_, I', ?_⟩
              exact k w1 _ l1 (st1.set (c' := .dct (putD kvs key p.1)) (o := .dK (putK ps q v)) e1 rfl ha ⟨_, upd_same, put_rep hq (ry.mono l1) rd1 ra⟩)
          · cases h2
        · cases h2
      · cases h2
  · cases h
theorem G_sub {o i : Expr} {go gi : G} (hu : X.A.units + 1 < cLine) (ho : PE X o (tI X.K X.mg W go)) (hi : PE X i (tI X.K X.mg W gi))
    (ha : ∀ v, assign (.Subscript o i pos) X.env v = (do
      let ov ← holding [v] (eval o X.env)
      let iv ← holding [v, ov] (eval i X.env)
      standAt pos
      holding [v, ov, iv] (setItem ov iv v)
      release [v, ov, iv] [])) : PG X (.Subscript o i pos) (tTg X.K X.mg (tgSub go gi)) :=
  PG_imp (pg_sub ho hi (p_put hu) ha) fun v σ H Q ⟨w, S, ρ, d, st, en, rd, out⟩ => by
    have out' : OutE X.K X.mg w H (match go ρ S with
      | .ok x S1 => match gi ρ S1 with
        | .ok y S2 => (dPut S2 x y d).map fun S3 => (ρ, S3)
        | _ => none
      | _ => none) Q := out
    refine ⟨w, S, ρ, st, en, ?_⟩
    cases q : go ρ S with
    | exc c fs S1 => rw [q] at out'; exact out'.elim
    | bad => rw [q] at out'; exact out'.elim
    | ok x S1 =>
      rw [q] at out'
      refine fun w1 H1 v1 l1 s1 p1 => ⟨w1, S1, ρ, s1, en.mono l1, ?_⟩
      cases q2 : gi ρ S1 with
      | exc c fs S1 => simp only [q2] at out'; exact out'.elim
      | bad => simp only [q2] at out'; exact out'.elim
      | ok y S2 =>
        simp only [q2] at out'
        refine fun w2 H2 v2 l2 s2 p2 => ?_
        cases q3 : dPut S2 x y d with
        | none => rw [q3] at out'; exact out'.elim
        | some S3 =>
          rw [q3] at out'
          exact ⟨w2, S2, x, y, d, S3, s2, p1.mono l2, p2, rd.mono (l1.trans l2), q3, fun w3 H3 l3 s3 => out' w3 H3 σ ((l1.trans l2).trans l3) s3 (en.mono ((l1.trans l2).trans l3))⟩
/-- o.f = .. -/
theorem setF_rep {K : PySem.W.Frag} {mg : Str → Option Value} {w : Wd} {f : Str} {u : U} {v : V} (ru : RepU K mg w u v) : ∀ {fs : List (Str × U)} {gs : List (Str × V)}, RepUF K mg w fs gs → RepUF K mg w (setF f u fs) (putF f v gs)
  | _, _, .nil => .cons ru .nil
  | _, _, .cons (f := g) h t => by
    unfold setF putF
    by_cases e : g = f
    · rw [if_pos e, if_pos e]; exact .cons ru t
    · rw [if_neg e, if_neg e]; exact .cons h (setF_rep ru t)
theorem pg_attr {o : Expr} {f : Str} {to : TE} (ho : PE X o to) : PG X (.Attribute o f pos) (fun v σ H Q => to σ H fun x H1 => ∃ a C dx fs, x = .ref a ∧ H1 a = some (.ins C dx fs) ∧ Cls X.K C ∧ NoAttr X.K C f ∧ fs.length < 1000 ∧ Q σ (upd H1 a (.ins C dx (putF f v fs)))) := by
  refine ⟨fun pins s σ H v u Q I r h => ?_⟩
  show wpAny _ _ (do
    let ov ← holding [u] (eval o X.env)
    standAt pos.atName
    holding [u, ov] (setAttr ov f u)
    release [u, ov] []) _ _ s
  refine wpAny_bind (wpAny_holding (thn (ho.run pins s σ H _ I h) fun ov s1 ⟨x, H1, I1, rx, a, C, dx, fs, ex, ea, c, n, hl, q⟩ => ?_))
  subst ex
  obtain rfl : ov = Value.ref a := rx
  refine wpAny_bind (wpAny_standAt (wpAny_bind (wpAny_holding (setattr_ok I1 ea c n hl r fun s2 I2 => ?_))))
  exact wpAny_release ⟨σ, _, I2, q⟩
theorem G_attr {T : Tab} (hT : TabOk X T) {o : Expr} {go : G} {f : Str} (ho : PE X o (tI X.K X.mg W go)) : PG X (.Attribute o f pos) (tTg X.K X.mg (tgAttr T go f)) :=
  PG_imp (pg_attr ho) fun v σ H Q ⟨w, S, ρ, d, st, en, rd, out⟩ => by
    have out' : OutE X.K X.mg w H (match go ρ S with
      | .ok x S1 => (attrPut T S1 x f d).map fun S3 => (ρ, S3)
      | _ => none) Q := out
    refine ⟨w, S, ρ, st, en, ?_⟩
    cases q : go ρ S with
    | exc c fs S1 => rw [q] at out'; exact out'.elim
    | bad => rw [q] at out'; exact out'.elim
    | ok x S1 =>
      rw [q] at out'
      refine fun w1 H1 v1 l1 s1 p1 => ?_
      dsimp only at out'
      cases q3 : attrPut T S1 x f d with
      | none => rw [q3] at out'; exact out'.elim
      | some S3 =>
        rw [q3] at out'
        unfold attrPut at q3
        split at q3
        · rename_i m
          split at q3
          · rename_i c fs e1
            split at q3
            · rename_i hf
              cases q3
              cases p1 with
              | @ref _ a ha =>
                obtain ⟨C, dx, gs, h0, h1, h2⟩ := s1.ok m _ a e1 ha
                obtain ⟨c1, c2⟩ := hT.fld c f hf.1 C h0
                exact ⟨a, C, dx, gs, rfl, h1, c1, c2, by rw [← h2.length]; exact hf.2, out' w1 _ σ l1 (s1.set (c' := .ins c (setF f d fs)) (o := .ins C dx (putF f v gs)) e1 rfl ha ⟨C, dx, _, h0, upd_same, setF_rep (rd.mono l1) h2⟩) (en.mono l1)⟩
            · cases q3
          · cases q3
        · cases q3
end
end
end Dv
set_option maxRecDepth 100000
set_option maxHeartbeats 1000000
namespace PySem.W
open PySem PySem.Spec PySem.Calls PyProof.Rows
section
variable {prog : Program} {w : World} {A : Around} {E : Value → Shared → Prop} {s : Shared} {l : Addr} {items : Array Value} {n i : Nat} {Q : List Value → Shared → Prop}
/-- what the interpreter hands on: the items ahead, a new list, the items behind -/
def StarEnd (items : Array Value) (n i : Nat) (s : Shared) (Q : List Value → Shared → Prop) : Prop := ∀ (g : Heap) (tk : Nat), (∀ b o, s.heap.get? b = some o → g.get? b = some o) →
  Q (items.toList.take i ++ [.ref g.objs.size] ++ (items.toList.drop i).drop (items.size + 1 - n)) { s with heap := g.push (seqObj "list" ((items.toList.drop i).take (items.size + 1 - n)).toArray 0), toks := tk }
theorem star_end (g : Heap) (tk : Nat) (hi : i < n) (hn : n ≤ items.size + 1) (hz : items.size ≤ 16384) (kp : ∀ b o, s.heap.get? b = some o → g.get? b = some o) (h : StarEnd items n i s Q) :
    wpAny (model prog w) A (if (items.toList.drop i).length < n - 1 - i then (rule "unpack.too-few" >>= fun _ => raiseError "ValueError" "x") else newList ((items.toList.drop i).take ((items.toList.drop i).length - (n - 1 - i))) >>= fun d => pure (items.toList.take i ++ [d] ++ (items.toList.drop i).drop ((items.toList.drop i).length - (n - 1 - i)))) Q E { s with heap := g, toks := tk } := by
  have e1 : (items.toList.drop i).length = items.size - i := by simp
  have e2 : (items.toList.drop i).length - (n - 1 - i) = items.size + 1 - n := by omega
  rw [if_neg (by omega), e2]
  refine wpAny_bind (wpAny_newList (wpAny_pure (h g tk kp)) ?_)
  rw [List.length_take, e1, sizeLine_eq]; omega
theorem star_list (hl : s.heap.IsList l items) (hh : A.handled = none) (hi : i < n) (hn : n ≤ items.size + 1) (hz : items.size ≤ 16384) (h : StarEnd items n i s Q) : wpAny (model prog w) A (unpackItems (.ref l) n (some i)) Q E s := by
  have nl : l ≠ s.heap.objs.size := let ⟨_, q, _⟩ := hl; Nat.ne_of_lt (Heap.lt_size q)
  unfold unpackItems
  refine wpAny_bind ?_
  unfold notIterableAtAll
  refine wpAny_bind (wpAny_specialOf hl.typeIs slot_list_iter.lookup (wpAny_pure ?_))
  rw [if_neg (by decide)]
  refine wpAny_bind (wpAny_holding (wpAny_pyIter_list hl (wpAny_bind (wpAny_holding (kun_draw nl i 0 _ _ ⟨_, Heap.get?_push_size _ rfl, rfl, rfl⟩ (hl.push _) (by omega) fun h₁ it1 hs₁ => ?_)))))
  have l1 : h₁.IsList l items := (hl.push _).extBut hs₁.extBut nl
  rw [Nat.zero_add] at it1
  obtain ⟨oi, hoi, _⟩ := id it1
  obtain ⟨ol, hol, _⟩ := id l1
  have q : (items.toList.take i).length = i := by rw [List.length_take, Array.length_toList]; omega
  rw [List.drop_zero, if_neg (by omega)]
  refine wpAny_bind (wpAny_holding (kun_collect (s := { s with heap := h₁ }) (T := "list_iterator") (.inr (.inr (.inl rfl))) (Walks.list (A := A.in1) hh s.heap.objs.size l nl items) (fun _ _ st => st.1.typeIs) (k := i) (by omega) ⟨it1, l1⟩ (Heap.lt_size hoi) (Heap.lt_size hol) (fun g tk hk => ?_) (by rw [sizeLine_eq]; omega)))
  have := star_end (prog := prog) (w := w) (A := A) (E := E) g tk hi hn hz (fun b o e => hk b o (Nat.ne_of_lt (Heap.lt_size e)) (hs₁.extBut b o (Nat.ne_of_lt (Heap.lt_size e)) (Heap.get?_push_of_some _ e))) h
  rw [if_neg (by simp; omega)] at this
  show wpAny _ _ (if (items.toList.drop i).length < n - 1 - i then _ else _) _ _ _
  rw [if_neg (by simp; omega)]
  exact this
theorem star_tup (hl : IsTup s.heap l items) (hh : A.handled = none) (hi : i < n) (hn : n ≤ items.size + 1) (hz : items.size ≤ 16384) (h : StarEnd items n i s Q) : wpAny (model prog w) A (unpackItems (.ref l) n (some i)) Q E s := by
  have nl : l ≠ s.heap.objs.size := let ⟨_, q, _⟩ := hl; Nat.ne_of_lt (Heap.lt_size q)
  unfold unpackItems
  refine wpAny_bind ?_
  unfold notIterableAtAll
  refine wpAny_bind (wpAny_specialOf hl.typeIs slot_tuple_iter.lookup (wpAny_pure ?_))
  rw [if_neg (by decide)]
  refine wpAny_bind (wpAny_holding (iter_tuple hl (wpAny_bind (wpAny_holding (draw_tuple nl i 0 _ _ ⟨_, Heap.get?_push_size _ rfl, rfl, rfl⟩ (hl.push _) (by omega) fun h₁ it1 hs₁ => ?_)))))
  have l1 : IsTup h₁ l items := (hl.push _).extBut hs₁.extBut nl
  rw [Nat.zero_add] at it1
  obtain ⟨oi, hoi, _⟩ := id it1
  obtain ⟨ol, hol, _⟩ := id l1
  have q : (items.toList.take i).length = i := by rw [List.length_take, Array.length_toList]; omega
  rw [List.drop_zero, if_neg (by omega)]
  refine wpAny_bind (wpAny_holding (kun_collect (s := { s with heap := h₁ }) (T := "tuple_iterator") (.inr (.inr (.inr rfl))) (Walks.tuple (A := A.in1) hh s.heap.objs.size l nl items) (fun _ _ st => st.1.typeIs) (k := i) (by omega) ⟨it1, l1⟩ (Heap.lt_size hoi) (Heap.lt_size hol) (fun g tk hk => ?_) (by rw [sizeLine_eq]; omega)))
  have := star_end (prog := prog) (w := w) (A := A) (E := E) g tk hi hn hz (fun b o e => hk b o (Nat.ne_of_lt (Heap.lt_size e)) (hs₁.extBut b o (Nat.ne_of_lt (Heap.lt_size e)) (Heap.get?_push_of_some _ e))) h
  rw [if_neg (by simp; omega)] at this
  show wpAny _ _ (if (items.toList.drop i).length < n - 1 - i then _ else _) _ _ _
  rw [if_neg (by simp; omega)]
  exact this
end
end PySem.W
namespace Dv
open PySem PySem.Spec PyProof.Rows L2
noncomputable section
def datas : List U → Option (List D)
  | [] => some []
  | .d x :: r => (datas r).map (x :: ·)
  | .ref _ :: _ => none
theorem datas_rep {K : PySem.W.Frag} {mg : Str → Option Value} {w : Wd} : ∀ {us : List U} {ds : List D} {vs : List V}, datas us = some ds → RepUs K mg w us vs → Reps K mg w ds vs
  | [], ds, _, h, .nil => by cases h; exact .nil
  | .d x :: r, ds, _, h, .cons ru rt => by
    have h' : (datas r).map (x :: ·) = some ds := h
    obtain ⟨es, h1, rfl⟩ := Option.map_eq_some_iff.mp h'
    cases ru with
    | d rx => exact .cons rx (datas_rep h1 rt)
  | .ref n :: r, ds, _, h, _ => by cases h
theorem datas_map (ds : List D) : datas (ds.map U.d) = some ds := by
  induction ds with
  | nil => rfl
  | cons d ds ih =>
    show (datas (ds.map U.d)).map (d :: ·) = _
    rw [ih]; rfl
/-- a, *b, c = .. : n targets, the starred one at i -/
def tgStar (n i : Nat) (u : GTgs) : GTg := fun d ρ S => (itemsU S d).bind fun ds => if i < n ∧ n ≤ ds.length + 1 ∧ ds.length ≤ 16384 then
  (datas ((ds.drop i).take (ds.length + 1 - n))).bind fun ms => u (ds.take i ++ [.d (.lst ms)] ++ (ds.drop i).drop (ds.length + 1 - n)) ρ S else none
section
variable {X : Cx}
theorem RepUs.take' {K : PySem.W.Frag} {mg : Str → Option Value} {w : Wd} : ∀ {ds : List U} {vs : List V} (n : Nat), RepUs K mg w ds vs → RepUs K mg w (ds.take n) (vs.take n)
  | _, _, 0, _ => .nil
  | _, _, _ + 1, .nil => .nil
  | _, _, n + 1, .cons h t => .cons h (RepUs.take' n t)
theorem RepUs.drop' {K : PySem.W.Frag} {mg : Str → Option Value} {w : Wd} : ∀ {ds : List U} {vs : List V} (n : Nat), RepUs K mg w ds vs → RepUs K mg w (ds.drop n) (vs.drop n)
  | _, _, 0, r => r
  | _, _, _ + 1, .nil => .nil
  | _, _, n + 1, .cons _ t => RepUs.drop' n t
theorem G_star {n i k : Nat} {es : List Expr} {gts : GTgs} {pos : Pos} (hc : X.calm = true) (h : PGs X es (tTgs X.K X.mg gts)) (hn : (assignEach es X.env).length = n) (hst : (assignEach es X.env).findIdx? (·.1) = some i) : PG X (.Tuple es k pos) (tTg X.K X.mg (tgStar n i gts)) := by
  refine ⟨fun pins s σ H v u Q I r ⟨w, S, ρ, d, st, en, rd, o⟩ => ?_⟩
  have o' : OutE X.K X.mg w H ((itemsU S d).bind fun ds => if i < n ∧ n ≤ ds.length + 1 ∧ ds.length ≤ 16384 then
    (datas ((ds.drop i).take (ds.length + 1 - n))).bind fun ms => gts (ds.take i ++ [.d (.lst ms)] ++ (ds.drop i).drop (ds.length + 1 - n)) ρ S else none) Q := o
  cases q : itemsU S d with
  | none => rw [q] at o'; exact o'.elim
  | some ds =>
    rw [q] at o'
    have o2 : OutE X.K X.mg w H (if i < n ∧ n ≤ ds.length + 1 ∧ ds.length ≤ 16384 then
      (datas ((ds.drop i).take (ds.length + 1 - n))).bind fun ms => gts (ds.take i ++ [.d (.lst ms)] ++ (ds.drop i).drop (ds.length + 1 - n)) ρ S else none) Q := o'
    by_cases hl : i < n ∧ n ≤ ds.length + 1 ∧ ds.length ≤ 16384
    · rw [if_pos hl] at o2
      cases q2 : datas ((ds.drop i).take (ds.length + 1 - n)) with
      | none => rw [q2] at o2; exact o2.elim
      | some ms =>
        rw [q2] at o2
        have o3 : OutE X.K X.mg w H (gts (ds.take i ++ [.d (.lst ms)] ++ (ds.drop i).drop (ds.length + 1 - n)) ρ S) Q := o2
        obtain ⟨a, vs, rfl, ra, hq⟩ := itemsU_ok st rd q
        cases r
        have hln := ra.length
        have fin : ∀ (its : List Value), Vals vs its → PySem.W.StarEnd its.toArray n i s (fun us s' => wpAny (model X.prog X.w) X.A (assignInOrder ((assignEach es X.env).map (·.2)) us) (fun _ s' => ∃ σ' H', Inv X pins σ' H' s' ∧ Q σ' H') X.xe s') := by
          intro its rv g tk kp
          have hsz : its.toArray.size = ds.length := by rw [List.size_toArray, ← rv.length, ← hln]
          have I1 : Inv X pins σ H { s with heap := g, toks := tk } := I.kept kp
          have hp : H g.objs.size = none := I1.hok.fresh (Nat.le_refl _)
          have rm : Vals ((vs.drop i).take (ds.length + 1 - n)) ((its.drop i).take (ds.length + 1 - n)) := (rv.drop i).take _
          have hml : ((its.drop i).take (ds.length + 1 - n)).length ≤ sizeLine := by
            rw [List.length_take, sizeLine_eq]; omega
          have I2 : Inv X pins σ (upd H g.objs.size (.lst ((vs.drop i).take (ds.length + 1 - n)))) { s with heap := g.push (seqObj "list" ((its.drop i).take (ds.length + 1 - n)).toArray 0), toks := tk } :=
            I1.laid (t' := tk) (fun b u e => Heap.get?_push_of_some _ e) (Nat.le_refl _) ⟨by rw [rm.length]; exact hml, _, 0, rm, Heap.get?_push_size _ rfl⟩
          have l1 : Le w (w.put g.objs.size (.lst ((vs.drop i).take (ds.length + 1 - n)))) := Le.put (st.noC hp)
          have rml : Rep X.K X.mg (w.put g.objs.size (.lst ((vs.drop i).take (ds.length + 1 - n)))) (.lst ms) (.ref g.objs.size) := .lst put_at ((datas_rep q2 ((RepUs.drop' i ra).take' _)).mono l1)
          rw [hsz]
          refine h.run pins _ σ _ (vs.take i ++ [V.ref g.objs.size] ++ (vs.drop i).drop (ds.length + 1 - n)) _ Q I2 (((rv.take i).append (show Vals [V.ref g.objs.size] [Value.ref g.objs.size] from .cons rfl .nil)).append ((rv.drop i).drop _)) ?_
          exact ⟨_, S, ρ, _, st.put hp, en.mono l1, (((RepUs.take' i ra).mono l1).append (.cons (.d rml) .nil)).append ((RepUs.drop' _ (RepUs.drop' i ra)).mono l1), OutE.mono o3 l1⟩
        have unp : wpAny (model X.prog X.w) X.A (unpackItems (.ref a) n (some i)) (fun us s' => wpAny (model X.prog X.w) X.A (assignInOrder ((assignEach es X.env).map (·.2)) us) (fun _ s' => ∃ σ' H', Inv X pins σ' H' s' ∧ Q σ' H') X.xe s') X.xe s := by
          rcases hq with hq | hq
          · obtain ⟨its, rv, pl, hz⟩ := I.list hq
            have hsz : its.toArray.size = ds.length := by rw [List.size_toArray, ← rv.length, ← hln]
            exact PySem.W.star_list pl.isList (I.ok.hd hc) hl.1 (by rw [hsz]; exact hl.2.1) (by rw [hsz]; exact hl.2.2) (fin its rv)
          · obtain ⟨its, rv, pl, hz⟩ := I.tuple hq
            have hsz : its.toArray.size = ds.length := by rw [List.size_toArray, ← rv.length, ← hln]
            exact PySem.W.star_tup pl (I.ok.hd hc) hl.1 (by rw [hsz]; exact hl.2.1) (by rw [hsz]; exact hl.2.2) (fin its rv)
        rw [PyProof.Rows.assign_Tuple]
        refine wpAny_bind (wpAny_standAt ?_)
        unfold unpack
        rw [hn, hst]
        exact wpAny_bind (wpAny_holding unp)
    · rw [if_neg hl] at o2; exact o2.elim
end
end
end Dv
set_option maxRecDepth 100000
set_option maxHeartbeats 1000000
namespace Dv
open PySem PySem.Spec PyProof.Rows L2
noncomputable section
/-! ### what is walked: the i-th item at a store; none: no answer, some none: the end -/
abbrev Src := Nat → Store → Option (Option U)
def cellU : Cell → Option (List U)
  | .lst ds => some (ds.map U.d)
  | .lsu us => some us
  | .fz (.lst ds) => some (ds.map U.d)
  | _ => none
def srcCell (m : Nat) : Src := fun i S => ((S[m]?).bind cellU).map fun us => us[i]?
def srcItems (ds : List D) : Src := fun i _ => some ((ds[i]?).map U.d)
def srcRange (lo : Int) (n : Nat) : Src := fun i _ => some (if i < n then some (.d (.int (lo + i))) else none)
def srcEnum (s : Src) : Src := fun i S => match s i S with
  | some (some (.d x)) => some (some (.d (.tup [.int i, x])))
  | some none => some none
  | _ => none
def srcZip (s t : Src) : Src := fun i S => match s i S, t i S with
  | some (some (.d x)), some (some (.d y)) => some (some (.d (.tup [x, y])))
  | some none, some _ => some none
  | some _, some none => some none
  | _, _ => none
def SrcOk (K : PySem.W.Frag) (mg : Str → Option Value) (w : Wd) (src : Src) (J : It) : Prop :=
  ∀ w' H' S' i, Le w w' → Sto K mg w' H' S' → match src i S' with
    | none => True
    | some none => J.stop i H'
    | some (some d) => J.go i H' ∧ ∀ x H'', J.yld i H' x H'' → ∃ w'', Le w' w'' ∧ Sto K mg w'' H'' S' ∧ RepU K mg w'' d x
/-- a list, or a tuple, as a source -/
def LsSrc (K : PySem.W.Frag) (mg : Str → Option Value) (w : Wd) (tp : Bool) (a : Addr) (src : Src) : Prop :=
  ∀ w' H' S' i, Le w w' → Sto K mg w' H' S' → match src i S' with
    | none => True
    | some o => ∃ vs us, (if tp = true then SqT K H' a vs else SqL K H' a vs) ∧ RepUs K mg w' us vs ∧ o = us[i]?
abbrev GI := Env → Store → R Src
abbrev tSr (K : PySem.W.Frag) (mg : Str → Option Value) (W : WX) (g : GI) : TI := tG K mg (SrcOk K mg) W g
/-- a list (false) or tuple (true) that is walked -/
def seqSrc (S : Store) : U → Option (Bool × Src)
  | .d (.tup ds) => some (true, srcItems ds)
  | .d (.lst ds) => some (false, srcItems ds)
  | .d (.fl ds) => some (false, srcItems ds)
  | .ref m => match S[m]? with
    | some (.lst _) => some (false, srcCell m)
    | some (.lsu _) => some (false, srcCell m)
    | some (.fz (.lst ds)) => some (false, srcItems ds)
    | _ => none
  | _ => none
def iterU (S : Store) (u : U) : Option Src := match u with
  | .d (.str x) => some (srcItems (x.cps.toList.map fun c => .str ⟨#[c]⟩))
  | .d (.dct kvs) => some (srcItems (kvs.map fun p => p.1))
  | u => (seqSrc S u).map fun p => p.2
def upI (o : Option Src) (S : Store) : R Src := match o with
  | some s => .ok s S
  | none => .bad
def giE (a : G) : GI := fun ρ S => (a ρ S).bind fun d S1 => upI (iterU S1 d) S1
def rangeOf1 : List U → Option Src
  | [.d (.int j)] => if -(2 ^ 62) ≤ j ∧ j < 2 ^ 62 then some (srcRange 0 j.toNat) else none
  | _ => none
def rangeOf2 : List U → Option Src
  | [.d (.int i), .d (.int j)] => if -(2 ^ 62) ≤ i ∧ i < 2 ^ 62 ∧ -(2 ^ 62) ≤ j ∧ j < 2 ^ 62 then some (srcRange i (j - i).toNat) else none
  | _ => none
def giRange1 (a : GA) : GI := fun ρ S => (a ρ S).bind fun ds S1 => upI (rangeOf1 ds) S1
def giRange2 (a : GA) : GI := fun ρ S => (a ρ S).bind fun ds S1 => upI (rangeOf2 ds) S1
def enumOf (S : Store) : List U → Option Src
  | [u] => match seqSrc S u with
    | some (false, s) => some (srcEnum s)
    | _ => none
  | _ => none
def giEnum (a : GA) : GI := fun ρ S => (a ρ S).bind fun ds S1 => upI (enumOf S1 ds) S1
def zipOf (S : Store) : List U → Option Src
  | [u, v] => match seqSrc S u, seqSrc S v with
    | some (false, s), some (false, t) => some (srcZip s t)
    | some (true, s), some (true, t) => some (srcZip s t)
    | _, _ => none
  | _ => none
def giZip (a : GA) : GI := fun ρ S => (a ρ S).bind fun ds S1 => upI (zipOf S1 ds) S1
section
variable {K : PySem.W.Frag} {mg : Str → Option Value} {w : Wd} {H : Hp} {S : Store}
theorem getU_map {ds : List D} {i : Nat} : (ds.map U.d)[i]? = (ds[i]?).map U.d := List.getElem?_map ..
theorem ls_cell {m : Nat} {a : Addr} (h : w.ι[m]? = some a) : LsSrc K mg w false a (srcCell m) := by
  intro w' H' S' i l st
  unfold srcCell
  cases e : S'[m]? with
  | none => trivial
  | some c =>
    have hok := st.ok m c a e (pre_get l.i h)
    cases c with
    | lst ds => obtain ⟨vs, h1, r⟩ := hok; exact ⟨vs, _, by rw [if_neg (by simp)]; exact SqL.of h1, r.us, rfl⟩
    | lsu us => obtain ⟨vs, h1, r⟩ := hok; exact ⟨vs, _, by rw [if_neg (by simp)]; exact SqL.of h1, r, rfl⟩
    | fz x =>
      cases x with
      | lst ds =>
        have hok' : Rep K mg w' (.lst ds) (.ref a) := hok
        cases hok' with
        | lst h1 r => exact ⟨_, _, by rw [if_neg (by simp)]; exact SqL.of (st.cs _ _ h1), r.us, rfl⟩
      | _ => trivial
    | _ => trivial
theorem ls_data {d : D} {v : V} {tp : Bool} {src : Src} (r : Rep K mg w d v) (h : seqSrc S (.d d) = some (tp, src)) : ∃ a, v = .ref a ∧ LsSrc K mg w tp a src ∧ ∀ H, Sto K mg w H S → ∃ vs, if tp = true then SqT K H a vs else SqL K H a vs := by
  cases r with
  | tup ha ra =>
    cases h
    refine ⟨_, rfl, fun w' H' S' i l st => ?_, fun H st => ⟨_, by rw [if_pos rfl]; exact ha.t st⟩⟩
    exact ⟨_, _, by rw [if_pos rfl]; exact (ha.mono l).t st, (ra.mono l).us, getU_map.symm⟩
  | lst ha ra =>
    cases h
    refine ⟨_, rfl, fun w' H' S' i l st => ?_, fun H st => ⟨_, by rw [if_neg (by simp)]; exact SqL.of (st.cs _ _ ha)⟩⟩
    exact ⟨_, _, by rw [if_neg (by simp)]; exact SqL.of (st.cs _ _ (l.c _ _ ha)), (ra.mono l).us, getU_map.symm⟩
  | fl ha ra =>
    cases h
    refine ⟨_, rfl, fun w' H' S' i l st => ?_, fun H st => ⟨_, by rw [if_neg (by simp)]; exact ha.l st⟩⟩
    exact ⟨_, _, by rw [if_neg (by simp)]; exact (ha.mono l).l st, (ra.mono l).us, getU_map.symm⟩
  | _ => cases h
theorem seqSrc_ok {u : U} {v : V} {tp : Bool} {src : Src} (st : Sto K mg w H S) (r : RepU K mg w u v) (h : seqSrc S u = some (tp, src)) : ∃ a, v = .ref a ∧ LsSrc K mg w tp a src ∧ ∃ vs, if tp = true then SqT K H a vs else SqL K H a vs := by
  cases r with
  | d r => obtain ⟨a, h1, h2, h3⟩ := ls_data r h; exact ⟨a, h1, h2, h3 H st⟩
  | @ref m a ha =>
    have h' : (match S[m]? with
      | some (.lst _) => some (false, srcCell m)
      | some (.lsu _) => some (false, srcCell m)
      | some (.fz (.lst ds)) => some (false, srcItems ds)
      | _ => none) = some (tp, src) := h
    split at h'
    · rename_i ds e1
      cases h'
      obtain ⟨vs, h1, _⟩ := st.ok m _ a e1 ha
      exact ⟨a, rfl, ls_cell ha, vs, by rw [if_neg (by simp)]; exact SqL.of h1⟩
    · rename_i ds e1
      cases h'
      obtain ⟨vs, h1, _⟩ := st.ok m _ a e1 ha
      exact ⟨a, rfl, ls_cell ha, vs, by rw [if_neg (by simp)]; exact SqL.of h1⟩
    · rename_i ds e1
      have r1 : Rep K mg w (.lst ds) (.ref a) := st.ok m _ a e1 ha
      obtain ⟨b, q1, q2, q3⟩ := ls_data (S := S) r1 h'
      cases q1
      exact ⟨a, rfl, q2, q3 H st⟩
    · cases h'
theorem LsSrc.it {tp : Bool} {a : Addr} {src : Src} (h : LsSrc K mg w tp a src) : SrcOk K mg w src (if tp = true then Itt K a else Itl K a) := by
  intro w' H' S' i l st
  have q := h w' H' S' i l st
  cases e : src i S' with
  | none => trivial
  | some o =>
    rw [e] at q
    obtain ⟨vs, us, hq, ru, rfl⟩ := q
    cases e2 : us[i]? with
    | none =>
      have hl : vs.length ≤ i := by rw [← ru.length]; exact List.getElem?_eq_none_iff.mp e2
      cases tp with
      | true => exact ⟨vs, by simpa using hq, hl⟩
      | false => exact ⟨vs, by simpa using hq, hl⟩
    | some u =>
      obtain ⟨v, h2, h3⟩ := ru.get e2
      cases tp with
      | true =>
        have hq' : SqT K H' a vs := by simpa using hq
        refine ⟨⟨vs, v, hq', h2⟩, fun x H'' y => ?_⟩
        obtain ⟨rfl, y⟩ := y
        have e := y vs hq'
        rw [h2] at e; cases e
        exact ⟨w', Le.refl _, st, h3⟩
      | false =>
        have hq' : SqL K H' a vs := by simpa using hq
        refine ⟨⟨vs, v, hq', h2⟩, fun x H'' y => ?_⟩
        obtain ⟨rfl, y⟩ := y
        have e := y vs hq'
        rw [h2] at e; cases e
        exact ⟨w', Le.refl _, st, h3⟩
theorem src_str {x : Str} (hx : PyData.strOk x = true) : SrcOk K mg w (srcItems (x.cps.toList.map fun c => .str ⟨#[c]⟩)) (Its x) := by
  intro w' H' S' i l st
  unfold srcItems
  rw [List.getElem?_map, Array.getElem?_toList]
  cases q : x.cps[i]? with
  | none => exact Array.getElem?_eq_none_iff.mp q
  | some c =>
    refine ⟨(Array.getElem?_eq_some_iff.mp q).1, fun v H'' y => ?_⟩
    obtain ⟨rfl, c', h1, rfl⟩ := y
    rw [q] at h1; cases h1
    refine ⟨w', Le.refl _, st, .d (.str _ ?_ ?_)⟩
    · have : c < 0x110000 := by
        have h2 := Array.all_eq_true_iff_forall_mem.mp hx c (Array.mem_of_getElem? q)
        simpa using h2
      simpa [PyData.strOk] using this
    · rw [sizeLine_eq]; show (1 : Nat) ≤ _; omega
theorem src_keys {kvs : List (D × D)} {ps : List (Key × V)} {a : Addr} {o : Obj} (ha : w.C a = some (.frz o (.dK ps))) (r : RepK K mg w kvs ps) : SrcOk K mg w (srcItems (kvs.map fun p => p.1)) (Itk a o ps) := by
  intro w' H' S' i l st
  have hH := st.cs _ _ (l.c _ _ ha)
  unfold srcItems
  rw [List.getElem?_map]
  have get : ∀ {kvs : List (D × D)} {ps : List (Key × V)} {i : Nat} {p : D × D}, RepK K mg w kvs ps → kvs[i]? = some p → ∃ q v, ps[i]? = some (q, v) ∧ keyD p.1 = some q ∧ Rep K mg w' p.1 (kV q) := by
    intro kvs
    induction kvs with
    | nil => intro ps i p r e; simp at e
    | cons p0 kvs ih =>
      intro ps i p r e
      cases r with
      | cons hk kr h t =>
        cases i with
        | zero => simp at e; subst e; exact ⟨_, _, rfl, hk, kr.mono l⟩
        | succ i => simpa using ih t (by simpa using e)
  cases q : kvs[i]? with
  | none => exact ⟨hH, by rw [← r.length]; exact List.getElem?_eq_none_iff.mp q⟩
  | some p =>
    obtain ⟨k, v, h1, h2, h3⟩ := get r q
    refine ⟨⟨hH, (List.getElem?_eq_some_iff.mp h1).1⟩, fun x H'' y => ?_⟩
    obtain ⟨rfl, k', v', e, rfl⟩ := y
    rw [h1] at e; cases e
    exact ⟨w', Le.refl _, st, .d h3⟩
theorem src_range {lo : Int} {n : Nat} : SrcOk K mg w (srcRange lo n) (Itr lo n) := by
  intro w' H' S' i l st
  unfold srcRange
  by_cases h : i < n
  · rw [if_pos h]
    refine ⟨h, fun v H'' y => ?_⟩
    obtain ⟨rfl, rfl⟩ := y
    exact ⟨w', Le.refl _, st, .d (.int _)⟩
  · rw [if_neg h]
    exact Nat.le_of_not_lt h
theorem src_enum {a : Addr} {src : Src} (h : LsSrc K mg w false a src) : SrcOk K mg w (srcEnum src) (Ite K a) := by
  intro w' H' S' i l st
  have q := h w' H' S' i l st
  unfold srcEnum
  cases e : src i S' with
  | none => trivial
  | some o =>
    rw [e] at q
    obtain ⟨vs, us, hq, ru, rfl⟩ := q
    have hq' : SqL K H' a vs := by simpa using hq
    cases e2 : us[i]? with
    | none => exact ⟨vs, hq', by rw [← ru.length]; exact List.getElem?_eq_none_iff.mp e2⟩
    | some u =>
      cases u with
      | ref _ => trivial
      | d x =>
        obtain ⟨v, h2, h3⟩ := ru.get e2
        cases h3 with
        | d h3 =>
          refine ⟨⟨vs, v, hq', h2⟩, fun y H'' yy => ?_⟩
          obtain ⟨T, z, rfl, hT, rfl, hz⟩ := yy
          have e := hz vs hq'
          rw [h2] at e; cases e
          have l2 : Le w' (w'.put T (.tup [.int (i : Nat), v])) := Le.put (st.noC hT)
          exact ⟨_, l2, st.put hT, .d (.tup (.inl put_at) (.cons (.int _) (.cons (h3.mono l2) .nil)))⟩
theorem src_zip {tp : Bool} {a b : Addr} {s t : Src} (h : LsSrc K mg w tp a s) (h' : LsSrc K mg w tp b t) : SrcOk K mg w (srcZip s t) (if tp = true then RZ.ItzT K a b else Itz K a b) := by
  intro w' H' S' i l st
  have q := h w' H' S' i l st
  have q' := h' w' H' S' i l st
  unfold srcZip
  cases e1 : s i S' with
  | none => cases t i S' <;> trivial
  | some o1 =>
    rw [e1] at q
    obtain ⟨vs, us, hq, ru, rfl⟩ := q
    cases e2 : t i S' with
    | none => cases us[i]? with
      | none => trivial
      | some u => cases u <;> trivial
    | some o2 =>
      rw [e2] at q'
      obtain ⟨ws, zs, hq', ru', rfl⟩ := q'
      have stop : (us[i]? = none ∨ zs[i]? = none) → (if tp = true then RZ.ItzT K a b else Itz K a b).stop i H' := fun hh => by
        have hl : vs.length ≤ i ∨ ws.length ≤ i := by
          rcases hh with hh | hh
          · exact .inl (by rw [← ru.length]; exact List.getElem?_eq_none_iff.mp hh)
          · exact .inr (by rw [← ru'.length]; exact List.getElem?_eq_none_iff.mp hh)
        cases tp with
        | true => exact ⟨vs, ws, by simpa using hq, by simpa using hq', hl⟩
        | false => exact ⟨vs, ws, by simpa using hq, by simpa using hq', hl⟩
      cases g1 : us[i]? with
      | none => exact stop (.inl g1)
      | some u1 =>
        cases g2 : zs[i]? with
        | none =>
          cases u1 <;> exact stop (.inr g2)
        | some u2 =>
          cases u1 with
          | ref _ => trivial
          | d x1 =>
            cases u2 with
            | ref _ => trivial
            | d x2 =>
              obtain ⟨y1, k1, rd1⟩ := ru.get g1
              obtain ⟨y2, k2, rd2⟩ := ru'.get g2
              cases rd1 with
              | d rd1 =>
                cases rd2 with
                | d rd2 =>
                  have fin : ∀ {T : Addr} {a1 b1 : V} {H'' : Hp}, H' T = none → H'' = upd H' T (.tup [a1, b1]) → a1 = y1 → b1 = y2 → ∃ w'', Le w' w'' ∧ Sto K mg w'' H'' S' ∧ RepU K mg w'' (.d (.tup [x1, x2])) (.ref T) := fun {T a1 b1 H''} hT e ea eb => by
                    subst e; subst ea; subst eb
                    have l2 : Le w' (w'.put T (.tup [a1, b1])) := Le.put (st.noC hT)
                    exact ⟨_, l2, st.put hT, .d (.tup (.inl put_at) (.cons (rd1.mono l2) (.cons (rd2.mono l2) .nil)))⟩
                  cases tp with
                  | true =>
                    have p1 : SqT K H' a vs := by simpa using hq
                    have p2 : SqT K H' b ws := by simpa using hq'
                    refine ⟨⟨vs, ws, y1, y2, p1, p2, k1, k2⟩, fun v H'' yy => ?_⟩
                    obtain ⟨T, u, w0, rfl, hT, e, h3, h4⟩ := yy
                    have z1 := h3 _ p1
                    have z2 := h4 _ p2
                    rw [k1] at z1; rw [k2] at z2
                    exact fin hT e (Option.some.inj z1).symm (Option.some.inj z2).symm
                  | false =>
                    have p1 : SqL K H' a vs := by simpa using hq
                    have p2 : SqL K H' b ws := by simpa using hq'
                    refine ⟨⟨vs, ws, y1, y2, p1, p2, k1, k2⟩, fun v H'' yy => ?_⟩
                    obtain ⟨T, u, w0, rfl, hT, e, h3, h4⟩ := yy
                    have z1 := h3 _ p1
                    have z2 := h4 _ p2
                    rw [k1] at z1; rw [k2] at z2
                    exact fin hT e (Option.some.inj z1).symm (Option.some.inj z2).symm
end
section
variable {X : Cx} {W : WX} {tg e : Expr} {ga : G} {gr : GA} {pos p tpos : Pos}
theorem PI_imp {t t' : TI} (h : PI X tg e t) (w : ∀ σ H R, t' σ H R → t σ H R) : PI X tg e t' := ⟨fun pins s σ H R I q => h.run pins s σ H R I (w _ _ _ q)⟩
theorem upI_out {w : Wd} {H : Hp} {σ : L2.St} {S1 : Store} {o : Option Src} {R : It → Hp → Prop} (h : Out X.K X.mg (SrcOk X.K X.mg) W σ w H (upI o S1) R) (s1 : Sto X.K X.mg w H S1) : ∃ src, o = some src ∧ ∀ J, SrcOk X.K X.mg w src J → R J H := by
  cases o with
  | none => exact h.elim
  | some src => exact ⟨src, rfl, fun J hJ => h w H J (Le.refl _) s1 hJ⟩
theorem I_expr (he : PE X e (tI X.K X.mg W ga)) : PI X tg e (tSr X.K X.mg W (giE ga)) := by
  refine ⟨fun pins s σ H R I ⟨w, S, ρ, st, en, o⟩ => ?_⟩
  have fin : ∀ {pins : List (Addr × Obj)} {s : Shared} {σ : L2.St} {H : Hp}, Inv X pins σ H s → ∀ b ∈ [s.heap.objs.size], FpOk X pins H b := fun I b hb => by
    have e : b = _ := List.mem_singleton.mp hb
    subst e
    exact I.fpOk (Nat.le_refl _) (I.hok.fresh (Nat.le_refl _))
  have main : tI X.K X.mg W ga σ H fun x H1 => (∃ a xs, x = .ref a ∧ SqL X.K H1 a xs ∧ R (Itl X.K a) H1) ∨ (∃ a xs, x = .ref a ∧ SqT X.K H1 a xs ∧ R (Itt X.K a) H1) ∨ (∃ z, x = .str z ∧ R (Its z) H1) ∨ ∃ d o kvs, x = .ref d ∧ H1 d = some (.frz o (.dK kvs)) ∧ R (Itk d o kvs) H1 := by
    refine tG_then (P := RepU X.K X.mg) (P' := SrcOk X.K X.mg) st en o fun w1 H1 S1 d v l1 s1 p1 en1 o1 => ?_
    obtain ⟨src, hd, k⟩ := upI_out o1 s1
    have seq : (seqSrc S1 d).map (fun p => p.2) = some src → (∃ a xs, v = .ref a ∧ SqL X.K H1 a xs ∧ R (Itl X.K a) H1) ∨ (∃ a xs, v = .ref a ∧ SqT X.K H1 a xs ∧ R (Itt X.K a) H1) ∨ (∃ z, v = .str z ∧ R (Its z) H1) ∨ ∃ d o kvs, v = .ref d ∧ H1 d = some (.frz o (.dK kvs)) ∧ R (Itk d o kvs) H1 := fun h => by
      obtain ⟨⟨tp, src'⟩, h1, h2⟩ := Option.map_eq_some_iff.mp h
      cases h2
      obtain ⟨a, rfl, hl, vs, hq⟩ := seqSrc_ok s1 p1 h1
      have kk := k _ hl.it
      cases tp with
      | true => exact .inr (.inl ⟨a, vs, rfl, by simpa using hq, by simpa using kk⟩)
      | false => exact .inl ⟨a, vs, rfl, by simpa using hq, by simpa using kk⟩
    cases d with
    | ref n => exact seq hd
    | d x =>
      cases x with
      | str z =>
        cases hd
        cases p1 with
        | d p1 => cases p1 with | str _ hx _ => exact .inr (.inr (.inl ⟨z, rfl, k _ (src_str hx)⟩))
      | dct kvs =>
        cases hd
        cases p1 with
        | d p1 =>
          cases p1 with
          | dct h r => exact .inr (.inr (.inr ⟨_, _, _, rfl, s1.cs _ _ h, k _ (src_keys h r)⟩))
      | _ => exact seq hd
  refine thn (he.run pins s σ H _ I main) fun v s1 ⟨x, H1, I1, r1, q1⟩ => ?_
  rcases q1 with ⟨a, xs, rfl, hq, q⟩ | ⟨a, xs, rfl, hq, q⟩ | ⟨z, rfl, q⟩ | ⟨d, o, kvs, rfl, hd, q⟩
  · cases r1
    obtain ⟨its, rv, pl, hz⟩ := I1.list hq
    exact wpAny_pyIter_list pl.isList ⟨s1.heap.objs.size, [s1.heap.objs.size], _, _, H1, rfl, I1.kept (t' := s1.toks) fun b o e => Heap.get?_push_of_some _ e, turn_list a _, ⟨_, Heap.get?_push_size _ rfl, rfl, rfl⟩, fin I1, q⟩
  · cases r1
    obtain ⟨its, rv, pl, hz⟩ := I1.tuple hq
    exact wpAny_pyIter_tuple (show s1.heap.IsTuple a its.toArray from pl) ⟨s1.heap.objs.size, [s1.heap.objs.size], _, _, H1, rfl, I1.kept (t' := s1.toks) fun b o e => Heap.get?_push_of_some _ e, turn_tuple a _, ⟨_, Heap.get?_push_size _ rfl, rfl, rfl⟩, fin I1, q⟩
  · obtain ⟨t, rfl⟩ := r1
    cases ha : z.cps.all (· < 128)
    · exact wpAny_pyIter_wide ha (pi_one (tk := s1.toks) I1 _ (turn_str _ z t "str_iterator" (.inr rfl)) ⟨_, Heap.get?_push_size _ rfl, rfl, rfl⟩ q)
    · exact wpAny_pyIter_ascii ha (pi_one (tk := s1.toks) I1 _ (turn_str _ z t "str_ascii_iterator" (.inl rfl)) ⟨_, Heap.get?_push_size _ rfl, rfl, rfl⟩ q)
  · obtain rfl : v = Value.ref d := r1
    obtain ⟨hs, hgd, hx, es, ep, vs, hdt, hsz, kv, hm⟩ := I1.frzK hd
    refine iter_keys hs hgd hx hdt (pi_one (tk := s1.toks) I1 _ (turn_keys _ hdt) ⟨_, Heap.get?_push_size _ rfl, rfl, ?_⟩ q)
    rw [hsz] <;> rfl
theorem I_range1 {a : Expr} (hg : Gl X "range") (hm : X.mg "range" = none) (ha : PA X [a] (tIA X.K X.mg W gr)) (hs : starEach [a] X.env = [(false, eval a X.env)]) : PI X tg (.Call (.Name "range" p) [a] [] pos) (tSr X.K X.mg W (giRange1 gr)) :=
  PI_imp (pi_range1 hg hm ha hs) fun σ H R ⟨w, S, ρ, st, en, o⟩ => tG_then (P := RepUs X.K X.mg) (P' := SrcOk X.K X.mg) st en o fun w1 H1 S1 ds vs l1 s1 p1 en1 o1 => by
    obtain ⟨src, h1, k⟩ := upI_out o1 s1
    unfold rangeOf1 at h1
    split at h1
    · rename_i j
      split at h1
      · rename_i hc
        cases h1
        cases p1 with
        | cons r rr => cases rr; cases r with | d r => cases r; exact ⟨j, rfl, hc.1, hc.2, k _ src_range⟩
      · cases h1
    · cases h1
theorem I_range2 {a b : Expr} (hg : Gl X "range") (hm : X.mg "range" = none) (ha : PA X [a, b] (tIA X.K X.mg W gr)) (hs : starEach [a, b] X.env = [(false, eval a X.env), (false, eval b X.env)]) (hs2 : starEach [b] X.env = [(false, eval b X.env)]) : PI X tg (.Call (.Name "range" p) [a, b] [] pos) (tSr X.K X.mg W (giRange2 gr)) :=
  PI_imp (pi_range2 hg hm ha hs hs2) fun σ H R ⟨w, S, ρ, st, en, o⟩ => tG_then (P := RepUs X.K X.mg) (P' := SrcOk X.K X.mg) st en o fun w1 H1 S1 ds vs l1 s1 p1 en1 o1 => by
    obtain ⟨src, h1, k⟩ := upI_out o1 s1
    unfold rangeOf2 at h1
    split at h1
    · rename_i i j
      split at h1
      · rename_i hc
        cases h1
        cases p1 with
        | cons r rr =>
          cases r with
          | d r =>
            cases r
            cases rr with
            | cons r rr => cases rr; cases r with | d r => cases r; exact ⟨i, j, rfl, hc, k _ src_range⟩
      · cases h1
    · cases h1
theorem I_enum {a : Expr} {elts : List Expr} {kk : Nat} (hg : Gl X "enumerate") (hm : X.mg "enumerate" = none) (ha : PA X [a] (tIA X.K X.mg W gr)) (hs : starEach [a] X.env = [(false, eval a X.env)]) : PI X (.Tuple elts kk tpos) (.Call (.Name "enumerate" p) [a] [] pos) (tSr X.K X.mg W (giEnum gr)) :=
  PI_imp (pi_enum hg hm ha hs) fun σ H R ⟨w, S, ρ, st, en, o⟩ => tG_then (P := RepUs X.K X.mg) (P' := SrcOk X.K X.mg) st en o fun w1 H1 S1 ds vs l1 s1 p1 en1 o1 => by
    obtain ⟨src, h1, k⟩ := upI_out o1 s1
    unfold enumOf at h1
    split at h1
    · rename_i u
      split at h1
      · rename_i s hs
        cases h1
        cases p1 with
        | cons r rr =>
          cases rr
          obtain ⟨a, rfl, hl, xs, hq⟩ := seqSrc_ok s1 r hs
          exact ⟨a, xs, rfl, by simpa using hq, k _ (src_enum hl)⟩
      · cases h1
    · cases h1
theorem I_zip {a b : Expr} {elts : List Expr} {kk : Nat} (hg : Gl X "zip") (hm : X.mg "zip" = none) (ha : PA X [a, b] (tIA X.K X.mg W gr)) (hs : starEach [a, b] X.env = (false, eval a X.env) :: starEach [b] X.env) (hpl : (backTo pos (starEach [b] X.env)).any (·.1) = false) :
    PI X (.Tuple elts kk tpos) (.Call (.Name "zip" p) [a, b] [] pos) (tSr X.K X.mg W (giZip gr)) :=
  PI_imp (RZ.pi_zipA hg hm ha hs hpl) fun σ H R ⟨w, S, ρ, st, en, o⟩ => tG_then (P := RepUs X.K X.mg) (P' := SrcOk X.K X.mg) st en o fun w1 H1 S1 ds vs l1 s1 p1 en1 o1 => by
    obtain ⟨src, h1, k⟩ := upI_out o1 s1
    unfold zipOf at h1
    split at h1
    · rename_i u v
      cases p1 with
      | cons r rr =>
        cases rr with
        | cons r2 rr =>
          cases rr
          split at h1
          · rename_i s t e1 e2
            cases h1
            obtain ⟨a, rfl, hl, xs, hq⟩ := seqSrc_ok s1 r e1
            obtain ⟨b, rfl, hl', ys, hq'⟩ := seqSrc_ok s1 r2 e2
            exact ⟨a, b, xs, ys, rfl, .inl ⟨by simpa using hq, by simpa using hq', by simpa using k _ (src_zip hl hl')⟩⟩
          · rename_i s t e1 e2
            cases h1
            obtain ⟨a, rfl, hl, xs, hq⟩ := seqSrc_ok s1 r e1
            obtain ⟨b, rfl, hl', ys, hq'⟩ := seqSrc_ok s1 r2 e2
            exact ⟨a, b, xs, ys, rfl, .inr ⟨by simpa using hq, by simpa using hq', by simpa using k _ (src_zip hl hl')⟩⟩
          · cases h1
    · cases h1
end
end
end Dv
set_option maxRecDepth 100000
set_option maxHeartbeats 1000000
namespace Dv
open PySem PySem.Spec PyProof.Rows L2
noncomputable section
/-! ### loops -/
def forGo (src : Src) (tg : GTg) (body : GS) : Nat → Nat → Env → Store → RS
  | 0, _, _, _ => .bad
  | n + 1, i, ρ, S => match src i S with
    | none => .bad
    | some none => .nx ρ S
    | some (some d) => match tg d ρ S with
      | none => .bad
      | some (ρ1, S1) => match body ρ1 S1 with
        | .nx ρ2 S2 => forGo src tg body n (i + 1) ρ2 S2
        | .ct ρ2 S2 => forGo src tg body n (i + 1) ρ2 S2
        | .bk ρ2 S2 => .nx ρ2 S2
        | r => r
theorem lim_ex : ∃ n : Nat, 1000000 ≤ n := ⟨1000000, Nat.le_refl _⟩
/-- more turns than any loop takes (sealed: nothing unfolds it) -/
def lim : Nat := Classical.choose lim_ex
theorem lim_big : 1000000 ≤ lim := Classical.choose_spec lim_ex
def sFor (it : GI) (tg : GTg) (body : GS) : GS := fun ρ S => bindS ρ (it ρ S) fun src S1 => forGo src tg body lim 0 ρ S1
def whileGo (t : GT) (body : GS) : Nat → Env → Store → RS
  | 0, _, _ => .bad
  | n + 1, ρ, S => bindS ρ (t ρ S) fun c S1 => if c = true then (match body ρ S1 with
      | .nx ρ2 S2 => whileGo t body n ρ2 S2
      | .ct ρ2 S2 => whileGo t body n ρ2 S2
      | .bk ρ2 S2 => .nx ρ2 S2
      | r => r) else .nx ρ S1
def sWhile (t : GT) (body : GS) : GS := fun ρ S => whileGo t body lim ρ S
section
variable {X : Cx} {W : WX} {e iter tg : Expr} {body : List Stmt} {gi : GI} {gt : GTg} {gs : GS} {t : GT} {pos : Pos}
theorem S_for (hp : PassesOwn (model X.prog X.w) X.A X.env X.xe) (hc : X.calm = true) (hi : PI X tg iter (tSr X.K X.mg W gi)) (hg : PG X tg (tTg X.K X.mg gt)) (hb : PSs X body (tSt X.K X.mg W gs))
    (hs : ∀ x, foldedSetIterable iter X.env x = pure x) : PS X (.For tg iter body [] pos) (tSt X.K X.mg W (sFor gi gt gs)) := PS_imp (ps_for hp hc hi hg hb hs) fun E σ H ⟨w, S, ρ, st, en, o⟩ =>
  tG_thenS (P := SrcOk X.K X.mg) st en o fun w1 H1 S1 src J l1 s1 hJ en1 o1 => by
    refine ⟨fun i m σ' H' => ∃ w' S' ρ', Le w1 w' ∧ Sto X.K X.mg w' H' S' ∧ EnvOk X.K X.mg w' ρ' σ' ∧ OutS X.K X.mg W w' H' (forGo src gt gs m i ρ' S') E, ⟨lim, w1, S1, ρ, Le.refl _, s1, en1, o1⟩, ?_⟩
    rintro i m σ' H' ⟨w', S', ρ', l2, s2, en2, o2⟩
    cases m with
    | zero => exact o2.elim
    | succ m =>
      have hJ' := hJ w' H' S' i l2 s2
      have o2' : OutS X.K X.mg W w' H' (match src i S' with
        | none => .bad
        | some none => .nx ρ' S'
        | some (some d) => match gt d ρ' S' with
          | none => .bad
          | some (ρ1, S1) => match gs ρ1 S1 with
            | .nx ρ2 S2 => forGo src gt gs m (i + 1) ρ2 S2
            | .ct ρ2 S2 => forGo src gt gs m (i + 1) ρ2 S2
            | .bk ρ2 S2 => .nx ρ2 S2
            | r => r) E := o2
      cases q : src i S' with
      | none => rw [q] at o2'; exact o2'.elim
      | some od =>
        rw [q] at o2' hJ'
        cases od with
        | none => exact .inl ⟨hJ', o2' w' H' σ' (Le.refl _) s2 en2⟩
        | some d =>
          obtain ⟨go, yl⟩ := hJ'
          refine .inr ⟨go, fun σ3 H3 => ∃ w3 S3 ρ3, Le w1 w3 ∧ Sto X.K X.mg w3 H3 S3 ∧ EnvOk X.K X.mg w3 ρ3 σ3 ∧ OutS X.K X.mg W w3 H3 (forGo src gt gs m (i + 1) ρ3 S3) E, fun σ3 H3 h3 => ⟨m, Nat.lt_succ_self _, h3⟩, fun x H3 y => ?_⟩
          obtain ⟨w3, l3, s3, rd⟩ := yl x H3 y
          refine ⟨w3, S', ρ', d, s3, en2.mono l3, rd, ?_⟩
          have o3 := OutS.mono (H' := H3) o2' l3
          dsimp only at o3
          cases q2 : gt d ρ' S' with
          | none => rw [q2] at o3; exact o3.elim
          | some p =>
            obtain ⟨ρ4, S4⟩ := p
            rw [q2] at o3
            refine fun w4 H4 σ4 l4 s4 en4 => ⟨w4, S4, ρ4, s4, en4, ?_⟩
            have o4 := OutS.mono (H' := H4) o3 l4
            dsimp only at o4
            cases q3 : gs ρ4 S4 with
            | nx ρ5 S5 => rw [q3] at o4; exact fun w5 H5 σ5 l5 s5 en5 => ⟨w5, S5, ρ5, l2.trans (l3.trans (l4.trans l5)), s5, en5, OutS.mono o4 l5⟩
            | ct ρ5 S5 => rw [q3] at o4; exact fun w5 H5 σ5 l5 s5 en5 => ⟨w5, S5, ρ5, l2.trans (l3.trans (l4.trans l5)), s5, en5, OutS.mono o4 l5⟩
            | bk ρ5 S5 => rw [q3] at o4; exact o4
            | rt d5 S5 => rw [q3] at o4; exact o4
            | exc c fs ρ5 S5 => rw [q3] at o4; exact o4
            | bad => rw [q3] at o4; exact o4.elim
theorem S_while (hp : PassesOwn (model X.prog X.w) X.A X.env X.xe) (hc : PT X e (tIT X.K X.mg W t)) (hb : PSs X body (tSt X.K X.mg W gs)) : PS X (.While e body [] pos) (tSt X.K X.mg W (sWhile t gs)) := PS_imp (ps_while hp hc hb) fun E σ H ⟨w, S, ρ, st, en, o⟩ => by
  refine ⟨fun m σ' H' => ∃ w' S' ρ', Le w w' ∧ Sto X.K X.mg w' H' S' ∧ EnvOk X.K X.mg w' ρ' σ' ∧ OutS X.K X.mg W w' H' (whileGo t gs m ρ' S') E, ⟨lim, w, S, ρ, Le.refl _, st, en, o⟩, ?_⟩
  rintro m σ' H' ⟨w', S', ρ', l2, s2, en2, o2⟩
  cases m with
  | zero => exact o2.elim
  | succ m =>
    have o2' : OutS X.K X.mg W w' H' (bindS ρ' (t ρ' S') fun c S1 => if c = true then (match gs ρ' S1 with
      | .nx ρ2 S2 => whileGo t gs m ρ2 S2
      | .ct ρ2 S2 => whileGo t gs m ρ2 S2
      | .bk ρ2 S2 => .nx ρ2 S2
      | r => r) else .nx ρ' S1) E := o2
    refine tG_thenS (P := PB) s2 en2 o2' fun w3 H3 S3 c c' l3 s3 hcc en3 o3 => ?_
    have e : c = c' := hcc
    subst e
    cases c with
    | false => exact iteF (o3 w3 H3 σ' (Le.refl _) s3 en3)
    | true =>
      have o4 : OutS X.K X.mg W w3 H3 (match gs ρ' S3 with
        | .nx ρ2 S2 => whileGo t gs m ρ2 S2
        | .ct ρ2 S2 => whileGo t gs m ρ2 S2
        | .bk ρ2 S2 => .nx ρ2 S2
        | r => r) E := o3
      refine iteT ⟨fun σ3 H3 => ∃ w3 S3 ρ3, Le w w3 ∧ Sto X.K X.mg w3 H3 S3 ∧ EnvOk X.K X.mg w3 ρ3 σ3 ∧ OutS X.K X.mg W w3 H3 (whileGo t gs m ρ3 S3) E, fun σ3 H3 h3 => ⟨m, Nat.lt_succ_self _, h3⟩, w3, S3, ρ', s3, en3, ?_⟩
      cases q3 : gs ρ' S3 with
      | nx ρ5 S5 => rw [q3] at o4; exact fun w5 H5 σ5 l5 s5 en5 => ⟨w5, S5, ρ5, l2.trans (l3.trans l5), s5, en5, OutS.mono o4 l5⟩
      | ct ρ5 S5 => rw [q3] at o4; exact fun w5 H5 σ5 l5 s5 en5 => ⟨w5, S5, ρ5, l2.trans (l3.trans l5), s5, en5, OutS.mono o4 l5⟩
      | bk ρ5 S5 => rw [q3] at o4; exact o4
      | rt d5 S5 => rw [q3] at o4; exact o4
      | exc c fs ρ5 S5 => rw [q3] at o4; exact o4
      | bad => rw [q3] at o4; exact o4.elim
end
/-! ### comprehensions -/
def wipeD (ρ : Env) : List Nat → Env
  | [] => ρ
  | v :: vs => (wipeD ρ vs).set v none
/-- a comprehension's target: a name, or a tuple of names -/
inductive CT where
  | one (i : Nat)
  | tup (is : List Nat)
def setAll : List Nat → List U → Env → Env
  | i :: is, d :: ds, ρ => setAll is ds (ρ.set i (some d))
  | _, _, ρ => ρ
def CT.put : CT → U → Env → Option Env
  | .one i, d, ρ => some (ρ.set i (some d))
  | .tup is, .d (.tup ds), ρ => if ds.length = is.length then some (setAll is (ds.map U.d) ρ) else none
  | .tup _, _, _ => none
/-- the list that grows is the store's thing n -/
def lcGo (src : Src) (ct : CT) (t : Option GT) (el : G) (n : Nat) (ρw : Env) : Nat → Nat → Store → Option Store
  | 0, _, _ => none
  | m + 1, i, S => match src i S with
    | none => none
    | some none => some S
    | some (some d) => match ct.put d ρw with
      | none => none
      | some ρ1 =>
        let r : R Bool := match t with
          | none => .ok true S
          | some t => t ρ1 S
        match r with
        | .ok true S1 => match el ρ1 S1 with
          | .ok y S2 => match fr S2 y with
            | some (x, S3) => match S3[n]? with
              | some (.lst acc) => if acc.length < sizeLine then lcGo src ct t el n ρw m (i + 1) (S3.set n (.lst (acc ++ [x]))) else none
              | _ => none
            | none => none
          | _ => none
        | .ok false S1 => lcGo src ct t el n ρw m (i + 1) S1
        | _ => none
/-- a new list at n, made data unless it is to change -/
def frzLst (mu : Bool) (S0 S : Store) : R U := match S[S0.length]? with
  | some (.lst ds) => if mu = false ∧ keepP S0 S then .ok (.d (.lst ds)) (S.take S0.length) else .ok (.ref S0.length) S
  | _ => .ok (.ref S0.length) S
def gLc (mu : Bool) (it : GI) (ct : CT) (t : Option GT) (el : G) (vs : List Nat) : G := fun ρ S => (it ρ S).bind fun src S1 => match lcGo src ct t el S1.length (wipeD ρ vs) lim 0 (S1 ++ [.lst []]) with
  | some S2 => frzLst mu S1 S2
  | none => .bad
section
variable {K : PySem.W.Frag} {mg : Str → Option Value} {w w' : Wd} {H H' : Hp} {ρ : Env} {σ : L2.St} {S S' : Store}
theorem frzLst_out {W : WX} {Q : VK} {x : Addr} {mu : Bool} (s : Sto K mg w H S) (l : Le w w') (s' : Sto K mg w' H' S') (hx : w'.ι[S.length]? = some x) (o : Out K mg (RepU K mg) W σ w H (frzLst mu S S') Q) : Q (.ref x) H' := by
  have keep : Out K mg (RepU K mg) W σ w H (.ok (.ref S.length) S') Q → Q (.ref x) H' := fun o => o w' H' _ l s' (.ref hx)
  unfold frzLst at o
  split at o
  · rename_i ds e1
    split at o
    · rename_i hk
      obtain ⟨vs, h1, h2⟩ := s'.ok _ _ x e1 hx
      have r2 : Rep K mg (w'.put x (.lst vs)) (.lst ds) (.ref x) := .lst put_at (h2.mono (Le.put (s'.sep _ _ x e1 rfl hx)))
      obtain ⟨l2, s2⟩ := s'.fix e1 rfl hx h1 r2
      have l3 := l.trans l2
      have hk2 : keepP S (S'.set S.length (.fz (.lst ds))) := ⟨by rw [List.length_set]; exact hk.2.1, fun j d hj e => by
        rw [List.getElem?_set_ne (by omega)] at e
        exact hk.2.2 j d hj e⟩
      have s3 := s.cut l3 s2 hk2
      have e4 : (S'.set S.length (.fz (.lst ds))).take S.length = S'.take S.length := by
        rw [List.take_set_of_le (Nat.le_refl _)]
      rw [e4] at s3
      exact o _ H' _ (Le.cut l3) s3 (.d (Rep.cut (w' := w'.put x (.lst vs)) (w1 := w.cut (w'.put x (.lst vs))) rfl r2))
    · exact keep o
  · exact keep o
theorem EnvOk.wipe1 (h : EnvOk K mg w ρ σ) (i : Nat) (o : Option V) : EnvOk K mg w (ρ.set i none) (σ.set i o) := by
  refine ⟨by simp [h.1], fun j d e => ?_⟩
  by_cases hj : i = j
  · subst hj
    have hl : i < ρ.length := by
      have := (List.getElem?_eq_some_iff.mp e).1
      simpa using this
    rw [List.getElem?_set_self hl] at e
    cases e
  · rw [List.getElem?_set_ne hj] at e
    obtain ⟨w, h1, h2⟩ := h.2 j d e
    exact ⟨w, by rw [List.getElem?_set_ne hj]; exact h1, h2⟩
theorem EnvOk.wipe (h : EnvOk K mg w ρ σ) : ∀ vs, EnvOk K mg w (wipeD ρ vs) (wipe σ vs)
  | [] => h
  | v :: vs => (EnvOk.wipe h vs).wipe1 v none
theorem set_none_comm (σ : L2.St) (i v : Nat) (o : Option V) (h : i ≠ v) : (σ.set i o).set v none = (σ.set v none).set i o := List.set_comm _ _ h
theorem wipe_set {i : Nat} {o : Option V} : ∀ {vs : List Nat} {σ : L2.St}, i ∈ vs → wipe (σ.set i o) vs = wipe σ vs
  | v :: vs, σ, h => by
    unfold wipe
    by_cases hv : i ∈ vs
    · rw [wipe_set hv]
    · have e : i = v := (List.mem_cons.mp h).resolve_right hv
      subst e
      have aux : ∀ (vs : List Nat) (σ : L2.St), i ∉ vs → wipe (σ.set i o) vs = (wipe σ vs).set i o := by
        intro vs
        induction vs with
        | nil => intro σ _; rfl
        | cons w ws ih =>
          intro σ hw
          unfold wipe
          rw [ih σ fun m => hw (List.mem_cons_of_mem _ m)]
          exact set_none_comm _ _ _ _ fun e => hw (by rw [e]; exact List.mem_cons_self)
      rw [aux vs σ hv, List.set_set]
theorem wipe_wipe : ∀ (vs : List Nat) (σ : L2.St), wipe (wipe σ vs) vs = wipe σ vs := by
  intro vs σ
  have aux : ∀ us : List Nat, (∀ u ∈ us, u ∈ vs) → wipe (wipe σ us) vs = wipe σ vs := by
    intro us
    induction us with
    | nil => intro _; rfl
    | cons u us ih =>
      intro h
      show wipe ((wipe σ us).set u none) vs = _
      rw [wipe_set (h u List.mem_cons_self)]
      exact ih fun w hw => h w (List.mem_cons_of_mem _ hw)
  exact aux vs fun _ h => h
end
/-- how a comprehension's target stores -/
structure CtOk (K : PySem.W.Frag) (ct : CT) (vs : List Nat) (g : TG) : Prop where
  run : ∀ (mg : Str → Option Value) (w : Wd) (H : Hp) (S : Store) (ρ ρ1 : Env) (σ : L2.St) (d : U) (x : V) (Q : L2.St → Hp → Prop), Sto K mg w H S → EnvOk K mg w ρ σ → RepU K mg w d x → ct.put d ρ = some ρ1 → (∀ σ1, EnvOk K mg w ρ1 σ1 → wipe σ1 vs = wipe σ vs → Q σ1 H) → g x σ H Q
theorem ct_one {K : PySem.W.Frag} {i : Nat} {vs : List Nat} (h : i ∈ vs) : CtOk K (.one i) vs (L2.gName i) := ⟨fun mg w H S ρ ρ1 σ d x Q st en rd hp q => by
  cases hp
  exact q _ (en.set rd i) (wipe_set h)⟩
def namesTg : List Nat → TGs
  | [] => L2.gNil
  | i :: is => L2.gCons (L2.gName i) (namesTg is)
theorem ct_tup {K : PySem.W.Frag} {is : List Nat} {vs : List Nat} (h : ∀ i ∈ is, i ∈ vs) : CtOk K (.tup is) vs (L2.gTup K is.length (namesTg is)) := ⟨fun mg w H S ρ ρ1 σ d x Q st en rd hp q => by
  cases rd with
  | ref _ => cases hp
  | d rd =>
  cases rd with
  | @tup ds a ws ha ra =>
    have hp' : (if ds.length = is.length then some (setAll is (ds.map U.d) ρ) else none) = some ρ1 := hp
    by_cases hl : ds.length = is.length
    · rw [if_pos hl] at hp'
      cases hp'
      refine ⟨a, ws, rfl, ha.t st, by rw [← ra.length]; exact hl, ?_⟩
      have aux : ∀ (is : List Nat) (ds : List U) (ws : List V) (ρ : Env) (σ' : L2.St), ds.length = is.length → (∀ i ∈ is, i ∈ vs) → RepUs K mg w ds ws → EnvOk K mg w ρ σ' → wipe σ' vs = wipe σ vs →
          (∀ σ1, EnvOk K mg w (setAll is ds ρ) σ1 → wipe σ1 vs = wipe σ vs → Q σ1 H) → namesTg is ws σ' H Q := by
        intro is
        induction is with
        | nil =>
          intro ds ws ρ σ' hl _ r en hw q
          have : ds = [] := List.eq_nil_of_length_eq_zero hl
          subst this
          cases r
          exact ⟨rfl, q σ' en hw⟩
        | cons i is ih =>
          intro ds ws ρ σ' hl hm r en hw q
          cases r with
          | nil => simp at hl
          | @cons d v ds ws rd rt =>
            exact ⟨v, ws, rfl, ih ds ws _ _ (by simpa using hl) (fun j hj => hm j (List.mem_cons_of_mem _ hj)) rt (en.set rd i) (by rw [wipe_set (hm i List.mem_cons_self)]; exact hw) q⟩
      exact aux is (ds.map U.d) ws ρ σ (by simpa using hl) h ra.us en rfl q
    · rw [if_neg hl] at hp'; cases hp'
  | _ => cases hp⟩
section
variable {X : Cx} {W : WX}
/-- the tests of a comprehension, one or none -/
def PtsOk (K : PySem.W.Frag) (mg : Str → Option Value) (t : Option GT) (tt : TT) : Prop := match t with
  | none => tt = tYes
  | some t => tt = tIT K mg (fun _ _ _ _ => False) t
theorem lc_read {gi : GI} {ct : CT} {t : Option GT} {el : G} {vs : List Nat} {g : TG} {tt : TT} {mu : Bool} (hct : CtOk X.K ct vs g) (ht : PtsOk X.K X.mg t tt) {σ : L2.St} {H : Hp} {Q : VK}
    (h : tI X.K X.mg W (gLc mu gi ct t el vs) σ H Q) : tLc (tSr X.K X.mg W gi) g tt (tI X.K X.mg (fun _ _ _ _ => False) el) vs σ H Q := by
  obtain ⟨w, S, ρ, st, en, o⟩ := h
  refine tG_then (P := SrcOk X.K X.mg) st en o fun w1 H1 S1 src J l1 s1 hJ en1 o1 => ?_
  intro Da hD
  cases q0 : lcGo src ct t el S1.length (wipeD ρ vs) lim 0 (S1 ++ [.lst []]) with
  | none => rw [q0] at o1; exact o1.elim
  | some S2 =>
    rw [q0] at o1
    have o1' : Out X.K X.mg (RepU X.K X.mg) W σ w1 H1 (frzLst mu S1 S2) Q := o1
    have eDa : (w1.push Da).ι[S1.length]? = some Da := push_at s1
    have enw := en1.wipe vs
    refine ⟨fun i m H' => ∃ w' S', Le (w1.push Da) w' ∧ Sto X.K X.mg w' H' S' ∧ lcGo src ct t el S1.length (wipeD ρ vs) m i S' = some S2, ⟨lim, w1.push Da, S1 ++ [.lst []], Le.refl _, s1.push (c := .lst []) hD ⟨[], upd_same, .nil⟩, q0⟩, ?_⟩
    rintro i m H' ⟨w', S', l2, s2, hgo⟩
    have l12 : Le w1 w' := Le.push.trans l2
    cases m with
    | zero => cases hgo
    | succ m =>
      have hJ' := hJ w' H' S' i l12 s2
      unfold lcGo at hgo
      cases q : src i S' with
      | none => rw [q] at hgo; cases hgo
      | some od =>
        rw [q] at hgo hJ'
        cases od with
        | none =>
          have e : S' = S2 := Option.some.inj hgo
          subst e
          exact .inl ⟨hJ', frzLst_out s1 l12 s2 (pre_get l2.i eDa) o1'⟩
        | some d =>
          obtain ⟨go, yl⟩ := hJ'
          refine .inr ⟨go, fun H3 => ∃ w3 S3, Le (w1.push Da) w3 ∧ Sto X.K X.mg w3 H3 S3 ∧ lcGo src ct t el S1.length (wipeD ρ vs) m (i + 1) S3 = some S2, fun H3 h3 => ⟨m, Nat.lt_succ_self _, h3⟩, fun x H3 y => ?_⟩
          obtain ⟨w3, l3, s3, rd⟩ := yl x H3 y
          dsimp only at hgo
          cases q2 : ct.put d (wipeD ρ vs) with
          | none => rw [q2] at hgo; cases hgo
          | some ρ1 =>
            rw [q2] at hgo
            dsimp only at hgo
            refine hct.run X.mg w3 H3 S' (wipeD ρ vs) ρ1 (wipe σ vs) d x _ s3 ((enw.mono l12).mono l3) rd q2 fun σ1 en3 hw => ?_
            refine ⟨by rw [hw, wipe_wipe], ?_⟩
            -- behind the test
            have fin : ∀ (c : Bool) (S4 : Store) (w4 : Wd) (H4 : Hp), Le w3 w4 → Sto X.K X.mg w4 H4 S4 → EnvOk X.K X.mg w4 ρ1 σ1 →
                (match (R.ok c S4 : R Bool) with
                  | .ok true S1' => match el ρ1 S1' with
                    | .ok y S2' => match fr S2' y with
                      | some (x, S3') => match S3'[S1.length]? with
                        | some (.lst acc) => if acc.length < sizeLine then lcGo src ct t el S1.length (wipeD ρ vs) m (i + 1) (S3'.set S1.length (.lst (acc ++ [x]))) else none
                        | _ => none
                      | none => none
                    | _ => none
                  | .ok false S1' => lcGo src ct t el S1.length (wipeD ρ vs) m (i + 1) S1'
                  | _ => none) = some S2 →
                (if c = true then tI X.K X.mg (fun _ _ _ _ => False) el σ1 H4 fun y H5 => ∃ acc, H5 Da = some (.lst acc) ∧ acc.length < sizeLine ∧ (∃ w3 S3, Le (w1.push Da) w3 ∧ Sto X.K X.mg w3 (upd H5 Da (.lst (acc ++ [y]))) S3 ∧ lcGo src ct t el S1.length (wipeD ρ vs) m (i + 1) S3 = some S2)
                  else ∃ w3 S3, Le (w1.push Da) w3 ∧ Sto X.K X.mg w3 H4 S3 ∧ lcGo src ct t el S1.length (wipeD ρ vs) m (i + 1) S3 = some S2) := by
              intro c S4 w4 H4 l4 s4 en4 h4
              cases c with
              | false => exact iteF ⟨w4, S4, l2.trans (l3.trans l4), s4, h4⟩
              | true =>
                refine iteT ⟨w4, S4, ρ1, s4, en4, ?_⟩
                dsimp only at h4
                cases q5 : el ρ1 S4 with
                | exc c fs S5 => rw [q5] at h4; cases h4
                | bad => rw [q5] at h4; cases h4
                | ok y S5 =>
                  rw [q5] at h4
                  dsimp only at h4
                  refine fun w5 H5 v5 l5 s5 r5 => ?_
                  cases q7 : fr S5 y with
                  | none => rw [q7] at h4; cases h4
                  | some p =>
                    obtain ⟨z, S6⟩ := p
                    rw [q7] at h4
                    dsimp only at h4
                    obtain ⟨w6, l6, s6, r6⟩ := fr_ok s5 r5 q7
                    dsimp only at s6 r6
                    cases q6 : S6[S1.length]? with
                    | none => rw [q6] at h4; cases h4
                    | some cell =>
                      rw [q6] at h4
                      cases cell with
                      | lst acc =>
                        dsimp only at h4
                        by_cases hl : acc.length < sizeLine
                        · rw [if_pos hl] at h4
                          have l7 : Le (w1.push Da) w6 := l2.trans (l3.trans (l4.trans (l5.trans l6)))
                          have eD6 : w6.ι[S1.length]? = some Da := pre_get l7.i eDa
                          obtain ⟨vacc, hH, racc⟩ := s6.ok _ _ Da q6 eD6
                          refine ⟨vacc, hH, by rw [← racc.length]; exact hl, w6, _, l7, s6.set (c' := .lst (acc ++ [z])) (o := .lst (vacc ++ [v5])) q6 rfl eD6 ⟨_, upd_same, racc.append (.cons r6 .nil)⟩, h4⟩
                        · rw [if_neg hl] at h4; cases h4
                      | _ => cases h4
            cases t with
            | none =>
              have e : tt = tYes := ht
              subst e
              exact fin true S' w3 H3 (Le.refl _) s3 en3 hgo
            | some t =>
              have e : tt = tIT X.K X.mg (fun _ _ _ _ => False) t := ht
              subst e
              refine ⟨w3, S', ρ1, s3, en3, ?_⟩
              dsimp only at hgo
              cases q4 : t ρ1 S' with
              | exc c fs S5 => rw [q4] at hgo; cases hgo
              | bad => rw [q4] at hgo; cases hgo
              | ok c S4 =>
                rw [q4] at hgo
                refine fun w4 H4 c' l4 s4 hcc => ?_
                have e : c = c' := hcc
                subst e
                exact fin c S4 w4 H4 l4 s4 (en3.mono l4) hgo
end
end
end Dv
set_option maxRecDepth 100000
set_option maxHeartbeats 1000000
namespace Dv
open PySem PySem.Spec PyProof.Rows L2
noncomputable section
/-! ### what is known of the names -/
inductive BF where
  | len | all | any | isi | sorted | repr
  deriving DecidableEq
def BF.id : BF → String
  | .len => "len" | .all => "all" | .any => "any" | .isi => "isinstance" | .sorted => "sorted" | .repr => "repr"
def BF.f (kit : KitT) : BF → FU
  | .len => fA cLen | .all => fA cAll | .any => fA cAny | .isi => isiU kit | .sorted => fA cSorted | .repr => fun _ _ => none
inductive BT where
  | int | tuple | list | str | bool | dict | set
  deriving DecidableEq
def BT.id : BT → String
  | .int => "int" | .tuple => "tuple" | .list => "list" | .str => "str" | .bool => "bool" | .dict => "dict" | .set => "set"
def BT.f : BT → Option FU
  | .int => some (fA cInt) | .tuple => some (fA cTuple) | .list => some (fA cList) | .str => some (fA cStr) | _ => none
inductive IT where
  | range | enumerate | zip
  deriving DecidableEq
inductive GK where
  | cst (d : D)
  | fn (q : Str)
  | cls
  | bf (b : BF)
  | ty (t : BT)
  | it (i : IT)
def IT.name : IT → Str
  | .range => "range" | .enumerate => "enumerate" | .zip => "zip"
structure SC where
  N : List Str
  sc : Scope
  st : Str → Bool
  gk : Str → Option GK
  /-- names, attributes that hold lists or dicts which change -/
  muN : Str → Bool
  muA : Str → Bool
  /-- is what it returns to change later -/
  rm : Bool
  /-- may its operators ask methods of the program's own -/
  own : Bool
structure GkOk (X : Cx) (T : Tab) (gk : Str → Option GK) : Prop where
  cst : ∀ x d, gk x = some (.cst d) → ∃ u v, X.mg x = some u ∧ RelV v u ∧ ∀ w, Rep X.K X.mg w d v
  fn : ∀ x q, gk x = some (.fn q) → ∃ f, X.mg x = some (.ref f) ∧ PySem.W.keepIn X.K (.ref f) = true ∧ DefOk X T 0 q f
  cls : ∀ x, gk x = some .cls → ∃ C, X.mg x = some (.ref C)
  bf : ∀ x b, gk x = some (.bf b) → X.mg x = none ∧ bootBuiltins x = some (.builtin b.id) ∧ x ≠ "__name__"
  ty : ∀ x b, gk x = some (.ty b) → X.mg x = none ∧ bootBuiltins x = some (.type b.id) ∧ x ≠ "__name__"
  it : ∀ x i, gk x = some (.it i) → X.mg x = none ∧ x = i.name
structure Ctx (X : Cx) (W : WX) (T : Tab) (c : SC) : Prop where
  N : X.N = c.N
  nd : c.N.Nodup
  sc : X.env.scope = c.sc
  st : ∀ x, c.st x = true → Loc X.env.scope x ∧ (X.fn x = true ∨ X.env.scope.names.lookup x = some .local)
  calm : X.calm = true
  gk : GkOk X T c.gk
  tab : TabOk X T
  tk : Takes X W
  units : X.A.units + 65 < cLine
/-! ### the evaluator -/
structure Ev where
  e : Bool → Expr → G
  t : Expr → GT
def visB (sc : Scope) (x : Str) : Bool := match sc.names.lookup x with
  | some .local => true
  | some .cell => true
  | some .free => true
  | _ => false
def glB (sc : Scope) (x : Str) : Bool := match sc.names.lookup x with
  | some .globalImplicit => true
  | _ => false
def dbg (x : Str) : Bool := (x == ("__debug__" : Str)) || (x == ("__classdict__" : Str))
def ixOf (N : List Str) (x : Str) : Option Nat := N.findIdx? (· == x)
def nameG (c : SC) (x : Str) : G := if dbg x then gBad else if visB c.sc x then (match ixOf c.N x with
  | some i => gV i
  | none => gBad) else if glB c.sc x then (match c.gk x with
    | some (.cst d) => gC d
    | some (.ty b) => gC (.ty b.id)
    | some .cls => gC (.gl x)
    | _ => gBad) else gBad
def binF : Operator → Option F2
  | .Add => some oAdd
  | .Sub => some oSub
  | .Mult => some oMul
  | .Mod => some oMod
  | .FloorDiv => some oFdiv
  | .Pow => some oPow
  | _ => none
def cmpF : CmpOp → Option F2
  | .Eq => some oEq
  | .NotEq => some oNe
  | .In => some oIn
  | .NotIn => some oNotIn
  | .Is => some oIs
  | .IsNot => some oIsNot
  | .Lt => some (oCmpI fun i j => decide (i < j))
  | .LtE => some (oCmpI fun i j => decide (i ≤ j))
  | .Gt => some (oCmpI fun i j => decide (j < i))
  | .GtE => some (oCmpI fun i j => decide (j ≤ i))
def isStar : Expr → Bool
  | .Starred _ _ => true
  | _ => false
def argsG (f : Expr → G) : List Expr → GA
  | [] => gNil
  | e :: es => gCons (f e) (argsG f es)
def argsD (f : Expr → G) : List Expr → GAD
  | [] => dNil
  | e :: es => dCons (f e) (argsD f es)
/-- *a, .. in a call, in a display -/
def gSpl (a : G) (r : GA) : GA := fun ρ S => (a ρ S).bind fun u S1 => match itemsU S1 u with
  | some us => (r ρ S1).bind fun xs S2 => .ok (us ++ xs) S2
  | none => .bad
def dSpl (a : G) (r : GAD) : GAD := fun ρ S => (a ρ S).bind fun u S1 => match (itemsU S1 u).bind datas with
  | some ds => (r ρ S1).bind fun xs S2 => .ok (ds ++ xs) S2
  | none => .bad
def dCap (a : GAD) : GAD := fun ρ S => (a ρ S).bind fun ds S1 => if ds.length ≤ 1000 then .ok ds S1 else .bad
def argsS (f : Expr → G) : List Expr → GA
  | [] => gNil
  | .Starred e _ :: es => gSpl (f e) (argsS f es)
  | e :: es => gCons (f e) (argsS f es)
def argsDS (f : Expr → G) : List Expr → GAD
  | [] => dNil
  | .Starred e _ :: es => dSpl (f e) (argsDS f es)
  | e :: es => dCons (f e) (argsDS f es)
def starHd : List Expr → Bool
  | e :: _ => isStar e
  | [] => false
/-- the parts of an f-string -/
def partsG (f : Expr → G) (k : Const → G) : List Expr → Option (List G)
  | [] => some []
  | .Constant (.str x) _ _ :: es => (partsG f k es).map (k (.str x) :: ·)
  | .FormattedValue e (-1) none _ :: es => (partsG f k es).map (gO1 false strD (f e) :: ·)
  | _ :: _ => none
def kwsG (f : Expr → G) : List Keyword → GA
  | [] => gNil
  | ⟨_, e, _⟩ :: es => gCons (f e) (kwsG f es)
def kwNames : List Keyword → Option (List Str)
  | [] => some []
  | ⟨some n, _, _⟩ :: r => (kwNames r).map (n :: ·)
  | ⟨none, _, _⟩ :: _ => none
def boolE (op : BoolOp) (f : Expr → G) : List Expr → G
  | [] => gBad
  | [a] => f a
  | a :: rest => match op with
    | .And => gAnd (f a) (boolE op f rest)
    | .Or => gOr (f a) (boolE op f rest)
def boolT (op : BoolOp) (f : Expr → GT) : List Expr → GT
  | [] => gBadT
  | [a] => f a
  | a :: rest => match op with
    | .And => gtAnd (f a) (boolT op f rest)
    | .Or => gtOr (f a) (boolT op f rest)
def partG (f : Expr → G) : Option Expr → GO
  | none => goN
  | some e => goS (f e)
def subG (mu : Bool) (f : Expr → G) (a b : Expr) : G := match b with
  | .Slice lo hi none _ => gSl mu (f a) (partG f lo) (partG f hi)
  | b => if isSlice b then gBad else gIx (f a) (f b)
def cmpG (T : Tab) (c : SC) (f : Expr → G) (a : Expr) (ops : List CmpOp) (bs : List Expr) : G := match ops, bs with
  | [op], [b] => if behindInMarks op b then gBad else (match cmpF op with
    | some g => if c.own then gCmp T op g (f a) (f b) else gO2 false g (f a) (f b)
    | none => gBad)
  | [op, op'], [b, c] => if lastMarks [op, op'] [b, c] then gBad else (match cmpF op, cmpF op' with
    | some g, some g' => gChain g g' (f a) (f b) (f c)
    | _, _ => gBad)
  | _, _ => gBad
def oNeg : F1
  | .int i => some (.int (-i))
  | _ => none
def superB (o : Expr) : Bool := match o with
  | .Call (.Name _ _) [] [] _ => true
  | _ => false
/-- len(set(a)) -/
def lenSetB (c : SC) (b : BF) (as : List Expr) : Option Expr := match b, as with
  | .len, [.Call (.Name y _) [a] [] _] => (match c.gk y with
    | some (.ty .set) => if glB c.sc y && !dbg y && !isStar a then some a else none
    | _ => none)
  | .sorted, [.Call (.Name y _) [a] [] _] => (match c.gk y with
    | some (.ty .set) => if glB c.sc y && !dbg y && !isStar a then some a else none
    | _ => none)
  | _, _ => none
def setG (mu : Bool) (b : BF) (g : G) : G := match b with
  | .sorted => gO1 mu cSortSet g
  | _ => gO1 false cLenSet g
def mutM (m : Str) : Bool := ["append", "clear", "extend", "insert", "pop", "remove", "sort", "reverse", "update", "setdefault"].any fun x => m == (x : Str)
def isCallE : Expr → Bool
  | .Call _ _ _ _ => true
  | _ => false
/-- what a method is asked of -/
def recvG (m : Str) (f fm : Expr → G) (o : Expr) : G := if mutM m && isCallE o then fm o else f o
/-- C.m, a staticmethod of the class C -/
def statB (T : Tab) (c : SC) (o : Expr) (m : Str) : Option Str := match o with
  | .Name x _ => if dbg x || visB c.sc x || !glB c.sc x then none else (match c.gk x with
    | some .cls => T.stt x m
    | _ => none)
  | _ => none
def callG (T : Tab) (c : SC) (mu : Bool) (f fm : Expr → G) (fn : Expr) (as : List Expr) (ks : List Keyword) (cpos : Pos) : G :=
  if starHd as then gBad else match kwNames ks with
  | none => gBad
  | some kn => match fn with
    | .Name x _ => if dbg x || !glB c.sc x then gBad else (match c.gk x with
      | some (.fn q) => gCall (T.call q mu kn) (argsS f as) (kwsG f ks)
      | some .cls => (match T.cls x with
        | some (q, b) => gCall (mkIns b x (T.call q false kn)) (argsS f as) (kwsG f ks)
        | none => gBad)
      | some (.bf b) => if as.isEmpty || !ks.isEmpty || as.any isStar then gBad else (match lenSetB c b as with
        | some a => setG mu b (f a)
        | none => if c.own then (match b with
          | .len => gOR (lenR T) (argsG f as)
          | .repr => gOR (reprR T) (argsG f as)
          | b => gOU mu (b.f T.kit) (argsG f as)) else gOU mu (b.f T.kit) (argsG f as))
      | some (.ty t) => if as.isEmpty || !ks.isEmpty || as.any isStar then gBad else (match t.f with
        | some g => gOU mu g (argsG f as)
        | none => gBad)
      | _ => gBad)
    | .Attribute o m apos => if superB o || !(apos.endLine == cpos.line) || !decide (as.length + ks.length < 20) || as.any isStar then gBad else (match statB T c o m with
      | some q => gCall (T.call q mu kn) (argsG f as) (kwsG f ks)
      | none => gMeth T m mu kn (recvG m f fm o) (argsG f as) (kwsG f ks))
    | _ => gBad
def iterG (c : SC) (f : Expr → G) (tg iter : Expr) : GI := match iter with
  | .Call (.Name x p) as ks _ => if glB c.sc x && !(as.any isStar) && ks.isEmpty then (match c.gk x with
    | some (.it .range) => (match as with
      | [a] => giRange1 (argsG f [a])
      | [a, b] => giRange2 (argsG f [a, b])
      | _ => fun _ _ => .bad)
    | some (.it .enumerate) => (match as, tg with
      | [a], .Tuple _ _ _ => giEnum (argsG f [a])
      | _, _ => fun _ _ => .bad)
    | some (.it .zip) => (match as, tg with
      | [a, b], .Tuple _ _ _ => giZip (argsG f [a, b])
      | _, _ => fun _ _ => .bad)
    | _ => giE (f iter)) else giE (f iter)
  | .Set _ _ _ => fun _ _ => .bad
  | _ => giE (f iter)
def ixSt (c : SC) (x : Str) : Option Nat := if c.st x then ixOf c.N x else none
def namesOf (c : SC) : List Expr → Option (List Nat)
  | [] => some []
  | .Name x _ :: r => (ixSt c x).bind fun i => (namesOf c r).map (i :: ·)
  | _ :: _ => none
def ctOf (c : SC) : Expr → Option CT
  | .Name x _ => (ixSt c x).map .one
  | .Tuple es _ _ => (namesOf c es).map .tup
  | _ => none
def ownOf (N : List Str) : List (Str × NameKind) → List (Str × Nat)
  | [] => []
  | (x, k) :: r => match k with
    | .local => (match ixOf N x with
      | some i => (x, i) :: ownOf N r
      | none => ownOf N r)
    | .cell => (match ixOf N x with
      | some i => (x, i) :: ownOf N r
      | none => ownOf N r)
    | _ => ownOf N r
def blkSC (c : SC) (scope : Scope) : SC := { c with sc := relS scope c.sc, st := fun x => match scope.names.lookup x, (relS scope c.sc).names.lookup x with
  | some .local, some .local => true
  | some .cell, some .cell => true
  | _, _ => false }
def ctIn (vs : List Nat) : CT → Bool
  | .one i => decide (i ∈ vs)
  | .tup is => is.all fun i => decide (i ∈ vs)
def lcG (mu : Bool) (c : SC) (r : SC → Ev) (elt : Expr) (gens : List Comprehension) (scope : Scope) : G := match gens with
  | [⟨tg, iter, ifs, 0⟩] =>
    let own := ownOf c.N scope.names
    let c' := blkSC c scope
    match ctOf c' tg with
    | none => gBad
    | some ct => if blkC c.N c.sc scope own && ctIn (own.map (·.2)) ct then (match ifs with
      | [] => gLc mu (iterG c ((r c).e false) tg iter) ct none ((r c').e false elt) (own.map (·.2))
      | [t] => gLc mu (iterG c ((r c).e false) tg iter) ct (some ((r c').t t)) ((r c').e false elt) (own.map (·.2))
      | _ => gBad) else gBad
  | _ => gBad
def strGood (x : Str) : Bool := PyData.strOk x && decide (x.length ≤ 100000)
def constG : Const → G
  | .int i => gC (.int i)
  | .bool b => gC (.bl b)
  | .none => gC .non
  | .str x => if strGood x then gC (.str x) else gBad
  | _ => gBad
def exprStep (T : Tab) (c : SC) (r : SC → Ev) (mu : Bool) : Expr → G
  | .Constant k _ _ => constG k
  | .Name x _ => nameG c x
  | .BinOp a op b _ => (match binF op with
    | some f => if c.own then gBin T mu op f ((r c).e false a) ((r c).e false b) else gO2 mu f ((r c).e false a) ((r c).e false b)
    | none => gBad)
  | .UnaryOp op a _ => (match op with
    | .Not => gNot ((r c).e false a)
    | .USub => gO1 false oNeg ((r c).e false a)
    | _ => gBad)
  | .BoolOp op es _ => boolE op ((r c).e false) es
  | .Compare a ops bs _ => cmpG T c ((r c).e false) a ops bs
  | .IfExp t a b _ => gIf ((r c).t t) ((r c).e mu a) ((r c).e mu b)
  | .Tuple es _ _ => if es.any isStar then gTup (dCap (argsDS ((r c).e false) es)) else if !decide (es.length ≤ 1000) then gBad else gTup (argsD ((r c).e false) es)
  | .List es _ => if es.any isStar then (if mu then gBad else gLst false (dCap (argsDS ((r c).e false) es))) else if !decide (es.length ≤ 1000) then gBad else if mu then gLstM (argsG ((r c).e false) es) else gLst false (argsD ((r c).e false) es)
  | .Dict ks vs _ => (match ks, vs with
    | [], [] => gDct0 mu
    | _, _ => gBad)
  | .Subscript a b _ => subG mu ((r c).e false) a b
  | .Attribute o f _ => if superB o then gBad else gAttr T f ((r c).e false o)
  | .Call fn as ks cpos => callG T c mu ((r c).e false) ((r c).e true) fn as ks cpos
  | .ListComp elt gens scope _ => lcG mu c r elt gens scope
  | .JoinedStr vs _ => (match vs with
    | v1 :: v2 :: rest => (match partsG ((r c).e false) constG (v1 :: v2 :: rest) with
      | some gs => gJs gs Str.empty
      | none => gBad)
    | _ => gBad)
  | _ => gBad
def truG (T : Tab) (c : SC) (g : G) : GT := if c.own then gtTruO T g else gtTru g
def testStep (T : Tab) (c : SC) (r : SC → Ev) : Expr → GT
  | .BoolOp op es _ => boolT op (r c).t es
  | .UnaryOp op a _ => (match op with
    | .Not => gtNot ((r c).t a)
    | _ => gBadT)
  | .Compare a ops bs _ => (match ops, bs with
    | [op], [b] => if behindInMarks op b then gBadT else (match cmpF op with
      | some g => if c.own then gtB (gCmp T op g ((r c).e false a) ((r c).e false b)) else gtB (gO2 false g ((r c).e false a) ((r c).e false b))
      | none => gBadT)
    | _, _ => gtB (cmpG T c ((r c).e false) a ops bs))
  | .Name x p => truG T c ((r c).e false (.Name x p))
  | .Call fn as ks p => truG T c ((r c).e false (.Call fn as ks p))
  | .Attribute a b p => truG T c ((r c).e false (.Attribute a b p))
  | .Subscript a b p => truG T c ((r c).e false (.Subscript a b p))
  | _ => gBadT
def evs (T : Tab) : Nat → SC → Ev
  | 0, _ => ⟨fun _ _ => gBad, fun _ => gBadT⟩
  | n + 1, c => ⟨exprStep T c (evs T n), testStep T c (evs T n)⟩
/-! ### it is right -/
theorem ixOf_ok {N : List Str} {x : Str} {i : Nat} (h : ixOf N x = some i) : N[i]? = some x := by
  unfold ixOf at h
  rw [List.findIdx?_eq_some_iff_getElem] at h
  obtain ⟨h1, h2, _⟩ := h
  rw [List.getElem?_eq_getElem h1]
  have : N[i] = x := by simpa using h2
  rw [this]
theorem visB_ok {sc : Scope} {x : Str} (h : visB sc x = true) : Vis sc x := by
  unfold visB at h
  split at h <;> first | exact .inl (by assumption) | exact .inr (.inl (by assumption)) | exact .inr (.inr (by assumption)) | cases h
theorem glB_ok {sc : Scope} {x : Str} (h : glB sc x = true) : sc.names.lookup x = some .globalImplicit := by
  unfold glB at h
  split at h
  · assumption
  · cases h
theorem dbg_ok {x : Str} (h : dbg x = false) : (x == ("__debug__" : Str)) = false ∧ (x == ("__classdict__" : Str)) = false := by
  unfold dbg at h
  exact Bool.or_eq_false_iff.mp h
theorem star_ok {e : Expr} {es : List Expr} {env : PySem.Env} (h : isStar e = false) : starEach (e :: es) env = (false, eval e env) :: starEach es env := star1 e es env (by cases e <;> first | rfl | cases h)
theorem stars_ok : ∀ {es : List Expr} {env : PySem.Env} {pos : Pos}, es.any isStar = false → (backTo pos (starEach es env)).any (·.1) = false
  | [], env, pos, _ => by simp [starEach, backTo]
  | e :: es, env, pos, h => by
    rw [List.any_cons, Bool.or_eq_false_iff] at h
    rw [star_ok h.1]
    show (false || (backTo pos (starEach es env)).any (·.1)) = false
    rw [stars_ok h.2]
    rfl
theorem starsAll_ok : ∀ {es : List Expr} {env : PySem.Env} {pos : Pos}, es.any isStar = false → (backTo pos (starEach es env)).all (fun x => !x.1) = true
  | [], env, pos, _ => by simp [starEach, backTo]
  | e :: es, env, pos, h => by
    rw [List.any_cons, Bool.or_eq_false_iff] at h
    rw [star_ok h.1]
    show (true && (backTo pos (starEach es env)).all (fun x => !x.1)) = true
    rw [starsAll_ok h.2]
    rfl
theorem argsG_len {f : Expr → G} : ∀ {es : List Expr} {ρ : Env} {S : Store} {ds : List U} {S' : Store}, argsG f es ρ S = .ok ds S' → ds.length = es.length
  | [], ρ, S, ds, S', h => by cases h; rfl
  | e :: es, ρ, S, ds, S', h => by
    have h' : ((f e ρ S).bind fun x S1 => (argsG f es ρ S1).bind fun xs S2 => R.ok (x :: xs) S2) = .ok ds S' := h
    cases q : f e ρ S with
    | ok d S1 =>
      rw [q] at h'
      have h2 : ((argsG f es ρ S1).bind fun xs S2 => R.ok (d :: xs) S2) = .ok ds S' := h'
      cases q2 : argsG f es ρ S1 with
      | ok xs S2 =>
        rw [q2] at h2
        cases h2
        rw [List.length_cons, List.length_cons, argsG_len q2]
      | exc c fs S2 => rw [q2] at h2; cases h2
      | bad => rw [q2] at h2; cases h2
    | exc c fs S1 => rw [q] at h'; cases h'
    | bad => rw [q] at h'; cases h'
theorem argsD_len {f : Expr → G} : ∀ {es : List Expr} {ρ : Env} {S : Store} {ds : List D} {S' : Store}, argsD f es ρ S = .ok ds S' → ds.length = es.length
  | [], ρ, S, ds, S', h => by cases h; rfl
  | e :: es, ρ, S, ds, S', h => by
    have h' : ((f e ρ S).bind fun u S1 => (upF (fr S1 u)).bind fun x S2 => (argsD f es ρ S2).bind fun xs S3 => R.ok (x :: xs) S3) = .ok ds S' := h
    cases q : f e ρ S with
    | ok u S1 =>
      rw [q] at h'
      have h2 : ((upF (fr S1 u)).bind fun x S2 => (argsD f es ρ S2).bind fun xs S3 => R.ok (x :: xs) S3) = .ok ds S' := h'
      cases q1 : upF (fr S1 u) with
      | ok x S2 =>
        rw [q1] at h2
        have h3 : ((argsD f es ρ S2).bind fun xs S3 => R.ok (x :: xs) S3) = .ok ds S' := h2
        cases q2 : argsD f es ρ S2 with
        | ok xs S3 =>
          rw [q2] at h3
          cases h3
          rw [List.length_cons, List.length_cons, argsD_len q2]
        | exc c fs S2 => rw [q2] at h3; cases h3
        | bad => rw [q2] at h3; cases h3
      | exc c fs S1 => rw [q1] at h2; cases h2
      | bad => rw [q1] at h2; cases h2
    | exc c fs S1 => rw [q] at h'; cases h'
    | bad => rw [q] at h'; cases h'
theorem kwsG_len {f : Expr → G} : ∀ {ks : List Keyword} {kn : List Str} {ρ : Env} {S : Store} {ds : List U} {S' : Store}, kwNames ks = some kn → kwsG f ks ρ S = .ok ds S' → ds.length = kn.length
  | [], kn, ρ, S, ds, S', hk, h => by cases h; cases hk; rfl
  | ⟨none, e, p⟩ :: es, kn, ρ, S, ds, S', hk, h => by cases hk
  | ⟨some n, e, p⟩ :: es, kn, ρ, S, ds, S', hk, h => by
    have hk' : (kwNames es).map (n :: ·) = some kn := hk
    obtain ⟨ms, hm, rfl⟩ := Option.map_eq_some_iff.mp hk'
    have h' : ((f e ρ S).bind fun x S1 => (kwsG f es ρ S1).bind fun xs S2 => R.ok (x :: xs) S2) = .ok ds S' := h
    cases q : f e ρ S with
    | ok d S1 =>
      rw [q] at h'
      have h2 : ((kwsG f es ρ S1).bind fun xs S2 => R.ok (d :: xs) S2) = .ok ds S' := h'
      cases q2 : kwsG f es ρ S1 with
      | ok xs S2 =>
        rw [q2] at h2
        cases h2
        rw [List.length_cons, List.length_cons, kwsG_len hm q2]
      | exc c fs S2 => rw [q2] at h2; cases h2
      | bad => rw [q2] at h2; cases h2
    | exc c fs S1 => rw [q] at h'; cases h'
    | bad => rw [q] at h'; cases h'
theorem kw_facts {env : PySem.Env} {pos : Pos} : ∀ {ks : List Keyword} {kn : List Str}, kwNames ks = some kn → (backToKw pos (keywordEach ks env)).all (·.1.isSome) = true ∧ (backToKw pos (keywordEach ks env)).filterMap (·.1) = kn
  | [], kn, h => by cases h; simp [keywordEach, backToKw]
  | ⟨none, e, p⟩ :: es, kn, h => by cases h
  | ⟨some n, e, p⟩ :: es, kn, h => by
    have hk' : (kwNames es).map (n :: ·) = some kn := h
    obtain ⟨ms, hm, rfl⟩ := Option.map_eq_some_iff.mp hk'
    obtain ⟨a, b⟩ := kw_facts (env := env) (pos := pos) hm
    refine ⟨?_, ?_⟩
    · show (true && (backToKw pos (keywordEach es env)).all (·.1.isSome)) = true
      rw [a]; rfl
    · show n :: (backToKw pos (keywordEach es env)).filterMap (·.1) = _
      rw [b]
section
variable {X : Cx} {W : WX} {T : Tab} {c : SC}
theorem Ctx.gl (cx : Ctx X W T c) {x : Str} (h : glB c.sc x = true) : Gl X x := by
  show X.env.scope.names.lookup x = _
  rw [cx.sc]
  exact glB_ok h
theorem name_ok (cx : Ctx X W T c) (x : Str) (pos : Pos) : PE X (.Name x pos) (tI X.K X.mg W (nameG c x)) := by
  unfold nameG
  by_cases hd : dbg x = true
  · rw [if_pos hd]; exact E_bad
  · rw [if_neg hd]
    obtain ⟨d1, d2⟩ := dbg_ok (Bool.eq_false_iff.mpr hd)
    by_cases hv : visB c.sc x = true
    · rw [if_pos hv]
      split
      · rename_i i hi
        exact E_var (pe_var (by rw [cx.N]; exact ixOf_ok hi) (by rw [cx.sc]; exact visB_ok hv) d1 d2)
      · exact E_bad
    · rw [if_neg hv]
      by_cases hg : glB c.sc x = true
      · rw [if_pos hg]
        split
        · rename_i d hk
          obtain ⟨u, v, h1, h2, h3⟩ := cx.gk.cst x d hk
          exact E_const (pe_glob (cx.gl hg) h1 h2 d1) h3
        · rename_i b hk
          obtain ⟨h1, h2, h3⟩ := cx.gk.ty x b hk
          exact E_const (pe_bltn (cx.gl hg) h1 h2 (show RelV (.ty b.id) (.type b.id) from rfl) h3 d1) fun w => .ty _
        · rename_i hk
          obtain ⟨C, h1⟩ := cx.gk.cls x hk
          exact E_const (pe_glob (cx.gl hg) h1 (show RelV (.ref C) (.ref C) from rfl) d1) fun w => .gl h1
        · exact E_bad
      · rw [if_neg hg]; exact E_bad
theorem bin_ok (cx : Ctx X W T c) {op : Operator} {f : F2} (h : binF op = some f) : OpR X (binaryOp op) (r2 X.K X.mg f) := by
  cases op <;> first | (cases h; exact o_add) | (cases h; exact o_sub) | (cases h; exact o_mul) | (cases h; exact o_mod) | (cases h; exact o_fdiv) | (cases h; exact o_pow) | cases h
theorem cmp_ok (cx : Ctx X W T c) {op : CmpOp} {f : F2} (h : cmpF op = some f) : OpR X (compareOp op) (r2 X.K X.mg f) := by
  have hu := cx.units
  have hu2 : X.A.units + 64 < cLine := by omega
  cases op <;> cases h
  · exact o_eq hu2
  · exact o_ne hu2
  · exact o_cmpI op_lt
  · exact o_cmpI op_le
  · exact o_cmpI op_gt
  · exact o_cmpI op_ge
  · exact o_is
  · exact o_isnot
  · exact o_in hu
  · exact o_notin hu
theorem cmpO_read {op : CmpOp} {g : F2} {ga gb : G} {σ : L2.St} {H : Hp} {Q : VK} (h : tI X.K X.mg W (gCmp T op g ga gb) σ H Q) : tI X.K X.mg W ga σ H fun x H1 => tI X.K X.mg W gb σ H1 fun y H2 => rC X.K X.mg T op g x y H2 Q := by
  obtain ⟨w, S, ρ, s, en, o⟩ := h
  refine tG_then s en o fun w1 H1 S1 d v l1 s1 p1 en1 o1 => tG_then s1 en1 o1 fun w2 H2 S2 e w l2 s2 p2 en2 o2 => ⟨w2, S2, d, e, s2, p1.mono l2, p2, ?_⟩
  revert o2
  have nx : ∀ c fs S', cmpR T op g d e S2 ≠ .exc c fs S' := fun c fs S' => by
    unfold cmpR
    split
    · unfold blR; split <;> (intro z; cases z)
    · intro z; cases z
    · unfold up; split <;> (intro z; cases z)
  cases q : cmpR T op g d e S2 with
  | ok v S' => exact fun o => o
  | exc c fs S' => exact absurd q (nx c fs S')
  | bad => exact fun o => o
theorem E_cmpO (hT : TabOk X T) {op : CmpOp} {g : F2} {a b : Expr} {ga gb : G} {pos : Pos} (ho : OpR X (compareOp op) (r2 X.K X.mg g)) (ha : PE X a (tI X.K X.mg W ga)) (hb : PE X b (tI X.K X.mg W gb)) (hm : behindInMarks op b = false) : PE X (.Compare a [op] [b] pos) (tI X.K X.mg W (gCmp T op g ga gb)) := PE_imp (pe_cmpR (op_cmp hT ho) ha hb hm) fun _ _ _ => cmpO_read
theorem T_cmpO (hT : TabOk X T) {op : CmpOp} {g : F2} {a b : Expr} {ga gb : G} {pos : Pos} (ho : OpR X (compareOp op) (r2 X.K X.mg g)) (ha : PE X a (tI X.K X.mg W ga)) (hb : PE X b (tI X.K X.mg W gb)) (hm : behindInMarks op b = false) : PT X (.Compare a [op] [b] pos) (tIT X.K X.mg W (gtB (gCmp T op g ga gb))) :=
  PT_imp (pt_cmpR (op_cmp hT ho) ha hb hm) fun σ H Q h => cmpO_read (gtB_read h)
theorem tru_ok' (hT : TabOk X T) {e : Expr} {g : G} (ha : PE X e (tI X.K X.mg W g)) (he : ∀ whole, isTrue e X.env whole = (do let v ← whole; standAt e.pos; holding [v] (truthy v))) : PT X e (tIT X.K X.mg W (truG T c g)) := by
  unfold truG
  split
  · refine PT_imp (pt_truthR ha (tru_own hT) he) fun σ H Q ⟨w, S, ρ, s, en, o⟩ => tG_then s en o fun w1 H1 S1 d v l1 s1 p1 en1 o1 => ⟨w1, S1, d, s1, p1, ?_⟩
    revert o1
    have nx : ∀ c fs S', truR T d S1 ≠ .exc c fs S' := fun c fs S' => by
      unfold truR
      split
      · split <;> (intro z; cases z)
      · split <;> (intro z; cases z)
    cases q : truR T d S1 with
    | ok v S' => exact fun o => o
    | exc c fs S' => exact absurd q (nx c fs S')
    | bad => exact fun o => o
  · exact T_truth ha he
theorem args_ok {f : Expr → G} (hf : ∀ e, PE X e (tI X.K X.mg W (f e))) : ∀ {es : List Expr}, es.any isStar = false → PA X es (tIA X.K X.mg W (argsG f es))
  | [], _ => A_nil
  | e :: es, h => by
    rw [List.any_cons, Bool.or_eq_false_iff] at h
    exact A_cons (hf e) (args_ok hf h.2) (star_ok h.1)
theorem argsD_ok {f : Expr → G} (hf : ∀ e, PE X e (tI X.K X.mg W (f e))) : ∀ {es : List Expr}, es.any isStar = false → PA X es (tIAD X.K X.mg W (argsD f es))
  | [], _ => AD_nil
  | e :: es, h => by
    rw [List.any_cons, Bool.or_eq_false_iff] at h
    exact AD_cons (hf e) (argsD_ok hf h.2) (star_ok h.1)
theorem PA_star {e : Expr} {es : List Expr} {p : Pos} {ga : G} {gr : GA} (he : PE X e (tI X.K X.mg W ga)) (hr : PA X es (tIA X.K X.mg W gr)) : PA X (.Starred e p :: es) (tIA X.K X.mg W (gSpl ga gr)) :=
  PA_imp (StX.pa_star he hr (by simp [starEach])) fun σ H Q ⟨w, S, ρ, s, en, o⟩ => tG_then s en o fun w1 H1 S1 d v l1 s1 p1 en1 o1 => by
    split at o1
    · rename_i us hus
      obtain ⟨a, vs, rfl, ra, hq⟩ := itemsU_ok s1 p1 hus
      exact ⟨a, vs, rfl, hq.symm, tG_then (P := RepUs X.K X.mg) s1 en1 o1 fun w2 H2 S2 ds vs2 l2 s2 p2 en2 o2 => o2 w2 H2 _ (Le.refl _) s2 ((ra.mono l2).append p2)⟩
    · exact o1.elim
theorem PA_starD {e : Expr} {es : List Expr} {p : Pos} {ga : G} {gr : GAD} (he : PE X e (tI X.K X.mg W ga)) (hr : PA X es (tIAD X.K X.mg W gr)) : PA X (.Starred e p :: es) (tIAD X.K X.mg W (dSpl ga gr)) :=
  PA_imp (StX.pa_star he hr (by simp [starEach])) fun σ H Q ⟨w, S, ρ, s, en, o⟩ => tG_then s en o fun w1 H1 S1 d v l1 s1 p1 en1 o1 => by
    split at o1
    · rename_i ds hds
      obtain ⟨us, hus, hd⟩ := Option.bind_eq_some_iff.mp hds
      obtain ⟨a, vs, rfl, ra, hq⟩ := itemsU_ok s1 p1 hus
      exact ⟨a, vs, rfl, hq.symm, tG_then (P := Reps X.K X.mg) s1 en1 o1 fun w2 H2 S2 ds vs2 l2 s2 p2 en2 o2 => o2 w2 H2 _ (Le.refl _) s2 (((datas_rep hd ra).mono l2).append p2)⟩
    · exact o1.elim
theorem argsS_ok {f : Expr → G} (hf : ∀ e, PE X e (tI X.K X.mg W (f e))) : ∀ {es : List Expr}, PA X es (tIA X.K X.mg W (argsS f es))
  | [] => A_nil
  | e :: es => by
    by_cases h : isStar e = true
    · cases e <;> first | exact PA_star (hf _) (argsS_ok hf) | cases h
    · have e1 : argsS f (e :: es) = gCons (f e) (argsS f es) := by cases e <;> first | rfl | exact absurd rfl h
      rw [e1]
      exact A_cons (hf e) (argsS_ok hf) (star_ok (Bool.eq_false_iff.mpr h))
theorem argsDS_ok {f : Expr → G} (hf : ∀ e, PE X e (tI X.K X.mg W (f e))) : ∀ {es : List Expr}, PA X es (tIAD X.K X.mg W (argsDS f es))
  | [] => AD_nil
  | e :: es => by
    by_cases h : isStar e = true
    · cases e <;> first | exact PA_starD (hf _) (argsDS_ok hf) | cases h
    · have e1 : argsDS f (e :: es) = dCons (f e) (argsDS f es) := by cases e <;> first | rfl | exact absurd rfl h
      rw [e1]
      exact AD_cons (hf e) (argsDS_ok hf) (star_ok (Bool.eq_false_iff.mpr h))
theorem cap_ok {es : List Expr} {g : GAD} (h : PA X es (tIAD X.K X.mg W g)) : PA X es (tIAD X.K X.mg W (dCap g)) := PA_imp h fun σ H Q ⟨w, S, ρ, s, en, o⟩ => by
  refine ⟨w, S, ρ, s, en, ?_⟩
  have o' : Out X.K X.mg (Reps X.K X.mg) W σ w H ((g ρ S).bind fun ds S1 => if ds.length ≤ 1000 then R.ok ds S1 else .bad) Q := o
  cases q : g ρ S with
  | ok ds S1 =>
    rw [q] at o'
    have o2 : Out X.K X.mg (Reps X.K X.mg) W σ w H (if ds.length ≤ 1000 then R.ok ds S1 else .bad) Q := o'
    split at o2
    · exact o2
    · exact o2.elim
  | exc c fs S1 => rw [q] at o'; exact o'
  | bad => rw [q] at o'; exact o'
theorem cap_len {g : GAD} : ∀ ρ S ds S', dCap g ρ S = .ok ds S' → ds.length ≤ 1000 := fun ρ S ds S' h => by
  have h' : ((g ρ S).bind fun ds S1 => if ds.length ≤ 1000 then R.ok ds S1 else .bad) = .ok ds S' := h
  cases q : g ρ S with
  | ok xs S1 =>
    rw [q] at h'
    have h2 : (if xs.length ≤ 1000 then R.ok xs S1 else .bad) = .ok ds S' := h'
    split at h2
    · cases h2; assumption
    · cases h2
  | exc c fs S1 => rw [q] at h'; cases h'
  | bad => rw [q] at h'; cases h'
theorem kws_ok {f : Expr → G} (hf : ∀ e, PE X e (tI X.K X.mg W (f e))) : ∀ {ks : List Keyword}, PK X ks (tIA X.K X.mg W (kwsG f ks))
  | [] => K_nil
  | ⟨nm, e, p⟩ :: ks => K_cons (hf e) (kws_ok hf)
theorem argsF_ok {f : Expr → G} (hf : ∀ e, PE X e (tI X.K X.mg W (f e))) {es : List Expr} {ks : List Keyword} {kn : List Str} (pos : Pos) (h : starHd es = false) (hk : kwNames ks = some kn) : ArgsF X W es ks pos kn (argsS f es) (kwsG f ks) := by
  obtain ⟨a, b⟩ := kw_facts (env := X.env) (pos := pos) hk
  refine ⟨argsS_ok hf, kws_ok hf, a, b, fun e => by subst e; rfl, fun e r q => ?_, fun ρ S ws S' q => kwsG_len hk q⟩
  subst q
  exact star_ok h
theorem argsS_plain {f : Expr → G} : ∀ {es : List Expr}, es.any isStar = false → argsS f es = argsG f es
  | [], _ => rfl
  | e :: es, h => by
    rw [List.any_cons, Bool.or_eq_false_iff] at h
    have e1 : argsS f (e :: es) = gCons (f e) (argsS f es) := by cases e <;> first | rfl | cases h.1
    rw [e1, argsS_plain h.2]
    rfl
theorem boolE_ok {f : Expr → G} (hf : ∀ e, PE X e (tI X.K X.mg W (f e))) (op : BoolOp) (pos : Pos) : ∀ es : List Expr, PE X (.BoolOp op es pos) (tI X.K X.mg W (boolE op f es))
  | [] => E_bad
  | [a] => E_one (hf a)
  | a :: b :: rest => by
    cases op with
    | And => exact E_and (hf a) (boolE_ok hf .And pos (b :: rest))
    | Or => exact E_or (hf a) (boolE_ok hf .Or pos (b :: rest))
theorem boolT_okW {f : Expr → GT} (hf : ∀ e, PT X e (tIT X.K X.mg W (f e))) (op : BoolOp) (pos : Pos) : ∀ (a : Expr) (es : List Expr), PW X (.BoolOp op (a :: es) pos) (tIT X.K X.mg W (boolT op f (a :: es)))
  | a, [] => by
    cases op with
    | And => exact W_and1 (hf a)
    | Or => exact W_or1 (hf a)
  | a, b :: rest => by
    cases op with
    | And => exact W_and (hf a) (boolT_okW hf .And pos b rest)
    | Or => exact W_or (hf a) (boolT_okW hf .Or pos b rest)
theorem boolT_ok {f : Expr → GT} (hf : ∀ e, PT X e (tIT X.K X.mg W (f e))) (op : BoolOp) (pos : Pos) : ∀ es : List Expr, PT X (.BoolOp op es pos) (tIT X.K X.mg W (boolT op f es))
  | [] => T_bad
  | a :: es => (boolT_okW hf op pos a es).pt
theorem part_ok {f : Expr → G} (hf : ∀ e, PE X e (tI X.K X.mg W (f e))) : ∀ o : Option Expr, PO X o (tG X.K X.mg PO' W (partG f o))
  | none => O_none
  | some e => O_some (hf e)
theorem sub_ok (cx : Ctx X W T c) {mu : Bool} {f : Expr → G} (hf : ∀ e, PE X e (tI X.K X.mg W (f e))) (a b : Expr) (pos : Pos) : PE X (.Subscript a b pos) (tI X.K X.mg W (subG mu f a b)) := by
  unfold subG
  split
  · exact E_sl (hf a) (part_ok hf _) (part_ok hf _)
  · by_cases h : isSlice b = true
    · rw [if_pos h]; exact E_bad
    · rw [if_neg h]; exact E_ix (by have := cx.units; omega) (hf a) (hf b) (plainIx b (Bool.eq_false_iff.mpr h))
theorem cmpG_ok (cx : Ctx X W T c) {f : Expr → G} (hf : ∀ e, PE X e (tI X.K X.mg W (f e))) (a : Expr) (ops : List CmpOp) (bs : List Expr) (pos : Pos) : PE X (.Compare a ops bs pos) (tI X.K X.mg W (cmpG T c f a ops bs)) := by
  unfold cmpG
  split
  · rename_i op b
    by_cases h : behindInMarks op b = true
    · rw [if_pos h]; exact E_bad
    · rw [if_neg h]
      split
      · rename_i g hg
        split
        · exact E_cmpO cx.tab (cmp_ok cx hg) (hf a) (hf b) (Bool.eq_false_iff.mpr h)
        · exact E_cmp (cmp_ok cx hg) (hf a) (hf b) (Bool.eq_false_iff.mpr h)
      · exact E_bad
  · rename_i op op' b c
    by_cases h : lastMarks [op, op'] [b, c] = true
    · rw [if_pos h]; exact E_bad
    · rw [if_neg h]
      split
      · rename_i g g' hg hg'
        exact E_chain (cmp_ok cx hg) (cmp_ok cx hg') (hf a) (hf b) (hf c) (Bool.eq_false_iff.mpr h)
      · exact E_bad
  · exact E_bad
theorem bf_ok (cx : Ctx X W T c) (b : BF) : CallR X (.builtin b.id) (rU X.K X.mg (b.f T.kit)) := by
  cases b
  · exact cr_U call_len'
  · exact cr_U (call_all' cx.calm)
  · exact cr_U (call_any' cx.calm)
  · exact call_isi' cx.tab.kit
  · exact cr_U call_sorted'
  · exact fun pins s σ H xs us Q I r ⟨w, S, us', z, st, rs, hf, k⟩ => (by cases hf)
theorem bt_ok (cx : Ctx X W T c) (b : BT) {f : FU} (h : b.f = some f) : CallR X (.type b.id) (rU X.K X.mg f) := by
  cases b <;> cases h
  · exact cr_U call_int'
  · exact cr_U call_tuple'
  · exact cr_U (call_list' cx.calm)
  · exact cr_U call_str'
theorem base_of2 {o : Expr} {name : Str} {env : PySem.Env} {whole : Sem Value} (h : superB o = false) : attributeBase o name env whole = whole := by
  unfold attributeBase
  split
  · simp [superB] at h
  · rfl
theorem un_neg' : UnR X (unaryOp .USub) (r1 X.K X.mg oNeg) := by
  intro pins s σ H x v Q I rx ⟨w, S, d, z, st, rd, hf, k⟩
  cases d with
  | int i =>
    cases hf
    cases rd with
    | of rd => cases rd; exact un_neg pins s σ H _ v Q I rx ⟨i, rfl, k.here st (.int _)⟩
  | _ => cases hf
theorem E_neg {e : Expr} {pos : Pos} {g : G} (ha : PE X e (tI X.K X.mg W g)) : PE X (.UnaryOp .USub e pos) (tI X.K X.mg W (gO1 false oNeg g)) := PE_imp (pe_un un_neg' ha) fun _ _ _ => R_1
theorem lenSet_ok (cx : Ctx X W T c) {f : Expr → G} (hf : ∀ e, PE X e (tI X.K X.mg W (f e))) {b : BF} {x : Str} {p pos : Pos} {as : List Expr} {a : Expr} {mu : Bool} (hb : c.gk x = some (.bf b)) (hg : glB c.sc x = true) (d1 : (x == ("__debug__" : Str)) = false) (h : lenSetB c b as = some a) :
    PE X (.Call (.Name x p) as [] pos) (tI X.K X.mg W (setG mu b (f a))) := by
  have main : ∀ {y : Str} {a2 : Expr}, c.gk y = some (.ty .set) → (glB c.sc y && !dbg y && !isStar a2) = true → ∀ {p2 q : Pos}, (b = .len ∨ b = .sorted) → PE X (.Call (.Name x p) [.Call (.Name y p2) [a2] [] q] [] pos) (tI X.K X.mg W (setG mu b (f a2))) := fun {y a2} hk q2 {p2 q} hbb => by
    rw [Bool.and_eq_true, Bool.and_eq_true] at q2
    obtain ⟨⟨g2, n2⟩, n3⟩ := q2
    have n2' : dbg y = false := by simpa using n2
    have n3' : isStar a2 = false := by simpa using n3
    obtain ⟨k1, k2, k3⟩ := cx.gk.bf x _ hb
    obtain ⟨l1, l2, l3⟩ := cx.gk.ty y _ hk
    rcases hbb with rfl | rfl
    · exact E_lenSet cx.calm (cx.gl hg) k1 k2 k3 d1 (cx.gl g2) l1 l2 l3 (dbg_ok n2').1 (hf a2) (star_ok n3')
    · exact E_sortSet cx.calm (cx.gl hg) k1 k2 k3 d1 (cx.gl g2) l1 l2 l3 (dbg_ok n2').1 (hf a2) (star_ok n3')
  unfold lenSetB at h
  split at h
  · split at h
    · rename_i hk
      split at h
      · rename_i q2; cases h; exact main hk q2 (.inl rfl)
      · cases h
    · cases h
  · split at h
    · rename_i hk
      split at h
      · rename_i q2; cases h; exact main hk q2 (.inr rfl)
      · cases h
    · cases h
  · cases h
theorem stat_ok (cx : Ctx X W T c) {o : Expr} {m q : Str} (h : statB T c o m = some q) : ∃ x, T.stt x m = some q ∧ PE X o (tI X.K X.mg W (gC (.gl x))) := by
  unfold statB at h
  split at h
  · rename_i x p
    split at h
    · cases h
    · rename_i hn
      rw [Bool.not_eq_true, Bool.or_eq_false_iff, Bool.or_eq_false_iff] at hn
      obtain ⟨⟨n1, n2⟩, n3⟩ := hn
      have n4 : glB c.sc x = true := by simpa using n3
      split at h
      · rename_i hk
        refine ⟨x, h, ?_⟩
        have e := name_ok cx x p
        unfold nameG at e
        rw [n1, n2, n4, hk] at e
        exact e
      · cases h
  · cases h
theorem call_ok (cx : Ctx X W T c) {mu : Bool} {f fm : Expr → G} (hf : ∀ e, PE X e (tI X.K X.mg W (f e))) (hfm : ∀ e, PE X e (tI X.K X.mg W (fm e))) (fn : Expr) (as : List Expr) (ks : List Keyword) (pos : Pos) : PE X (.Call fn as ks pos) (tI X.K X.mg W (callG T c mu f fm fn as ks pos)) := by
  unfold callG
  by_cases h : starHd as = true
  · rw [if_pos h]; exact E_bad
  · rw [if_neg h]
    have hst0 := Bool.eq_false_iff.mpr h
    split
    · exact E_bad
    · rename_i kn hkn
      have AF := argsF_ok (W := W) hf pos hst0 hkn
      split
      · rename_i x p
        by_cases h2 : (dbg x || !glB c.sc x) = true
        · rw [if_pos h2]; exact E_bad
        · rw [if_neg h2]
          have h4 := Bool.or_eq_false_iff.mp (Bool.eq_false_iff.mpr h2)
          obtain ⟨d1, _⟩ := dbg_ok h4.1
          have hg : glB c.sc x = true := by simpa using h4.2
          have plain : ¬ (as.isEmpty || !ks.isEmpty || as.any isStar) = true → ks = [] ∧ as.any isStar = false ∧ ∃ e es, as = e :: es := fun hh => by
            have h7 := Bool.or_eq_false_iff.mp (Bool.eq_false_iff.mpr hh)
            have h6 := Bool.or_eq_false_iff.mp h7.1
            refine ⟨by cases ks with | nil => rfl | cons _ _ => simp at h6, h7.2, ?_⟩
            cases as with
            | nil => simp at h6
            | cons e es => exact ⟨e, es, rfl⟩
          split
          · rename_i q hk
            obtain ⟨f', h1, h2, h3⟩ := cx.gk.fn x q hk
            exact E_call h3 cx.tk (cx.gl hg) h1 h2 d1 AF
          · rename_i hk
            split
            · rename_i q b hq
              obtain ⟨C, f', h1, h2, h3⟩ := cx.tab.cls x q b hq
              exact E_make h2 h3 cx.tk (cx.gl hg) h1 d1 AF
            · exact E_bad
          · rename_i b hk
            split
            · exact E_bad
            · rename_i hh
              obtain ⟨rfl, hst, e, es, rfl⟩ := plain hh
              have AP := args_ok hf hst
              have hst' := hst
              rw [List.any_cons, Bool.or_eq_false_iff] at hst'
              have hs1 := star_ok (es := es) (env := X.env) hst'.1
              have hs2 := stars_ok (env := X.env) (pos := pos) hst'.2
              obtain ⟨k1, k2, k3⟩ := cx.gk.bf x b hk
              split
              · rename_i a2 ha2
                exact lenSet_ok cx hf hk hg d1 ha2
              · split
                · split
                  · exact E_callR (cr_len cx.tab (bf_ok cx .len)) (cx.gl hg) k1 k2 AP k3 d1 hs1 hs2
                  · exact E_callR (cr_repr cx.tab) (cx.gl hg) k1 k2 AP k3 d1 hs1 hs2
                  · exact E_callB (bf_ok cx _) (cx.gl hg) k1 k2 AP k3 d1 hs1 hs2
                · exact E_callB (bf_ok cx b) (cx.gl hg) k1 k2 AP k3 d1 hs1 hs2
          · rename_i t hk
            split
            · exact E_bad
            · rename_i hh
              obtain ⟨rfl, hst, e, es, rfl⟩ := plain hh
              have AP := args_ok hf hst
              have hst' := hst
              rw [List.any_cons, Bool.or_eq_false_iff] at hst'
              have hs1 := star_ok (es := es) (env := X.env) hst'.1
              have hs2 := stars_ok (env := X.env) (pos := pos) hst'.2
              obtain ⟨k1, k2, k3⟩ := cx.gk.ty x t hk
              split
              · rename_i g hg'
                exact E_callTy (bt_ok cx t hg') (cx.gl hg) k1 k2 AP k3 d1 hs1 hs2
              · exact E_bad
          · exact E_bad
      · rename_i o m apos
        by_cases h2 : (superB o || !(apos.endLine == pos.line) || !decide (as.length + ks.length < 20) || as.any isStar) = true
        · rw [if_pos h2]; exact E_bad
        · rw [if_neg h2]
          have h9 := Bool.or_eq_false_iff.mp (Bool.eq_false_iff.mpr h2)
          have hst := h9.2
          have AF : ArgsF X W as ks pos kn (argsG f as) (kwsG f ks) := by rw [← argsS_plain hst]; exact AF
          have hns : ∀ e r, as = e :: r → (backTo pos (starEach r X.env)).any (·.1) = false := fun e r q => by
            subst q
            rw [List.any_cons, Bool.or_eq_false_iff] at hst
            exact stars_ok hst.2
          have h3 := Bool.or_eq_false_iff.mp h9.1
          have h4 := Bool.or_eq_false_iff.mp h3.1
          have hline : (apos.endLine == pos.line) = true := by
            have := h4.2
            cases q : (apos.endLine == pos.line) with
            | true => rfl
            | false => rw [q] at this; cases this
          have hfew : as.length + ks.length < 20 := by
            have := h3.2
            simpa using this
          have hbase : attributeBase o m X.env (eval o X.env) = eval o X.env := base_of2 h4.1
          have ho : PE X o (tI X.K X.mg W (recvG m f fm o)) := by
            unfold recvG
            split
            · exact hfm o
            · exact hf o
          have hform : methodCallForm (as.length + ks.length) (backTo pos (starEach as X.env)) (backToKw pos (keywordEach ks X.env)) = true := by
            unfold methodCallForm
            rw [starsAll_ok hst, AF.all]
            have : as.length + ks.length + (if (backToKw pos (keywordEach ks X.env)).isEmpty then 0 else 1) < 30 := by split <;> omega
            simpa using this
          split
          · rename_i q hq
            obtain ⟨x, hx, hx2⟩ := stat_ok cx hq
            exact E_stat cx.tab hx cx.tk hx2 AF hbase hline hform
          · refine E_meth cx.units cx.tab cx.tk ho AF hns hbase hline hform fun e => ?_
            subst e
            cases ks with
            | nil => rfl
            | cons k r =>
              obtain ⟨n, e, p⟩ := k
              cases n with
              | none => cases hkn
              | some n =>
                have hk' : (kwNames r).map (n :: ·) = some [] := hkn
                obtain ⟨ms, hm, q⟩ := Option.map_eq_some_iff.mp hk'
                cases q
      · exact E_bad
end
end
end Dv
set_option maxRecDepth 100000
set_option maxHeartbeats 1000000
namespace Dv
open PySem PySem.Spec PyProof.Rows L2
noncomputable section
section
variable {X : Cx} {W : WX} {T : Tab} {c : SC}
def isSet : Expr → Bool
  | .Set _ _ _ => true
  | _ => false
theorem folded_ok {iter : Expr} {env : PySem.Env} (h : isSet iter = false) (x : Value) : foldedSetIterable iter env x = pure x := by
  unfold foldedSetIterable
  cases iter <;> first | rfl | cases h
theorem I_bad {tg iter : Expr} : PI X tg iter (tSr X.K X.mg W fun _ _ => .bad) := ⟨fun _ _ _ _ _ _ ⟨_, _, _, _, _, o⟩ => o.elim⟩
theorem star_one {a : Expr} {env : PySem.Env} (h : isStar a = false) : starEach [a] env = [(false, eval a env)] := by
  rw [star_ok h]; simp [starEach]
theorem iter_ok (cx : Ctx X W T c) {f : Expr → G} (hf : ∀ e, PE X e (tI X.K X.mg W (f e))) (tg iter : Expr) : PI X tg iter (tSr X.K X.mg W (iterG c f tg iter)) := by
  unfold iterG
  split
  · rename_i x p as ks pos
    by_cases h : (glB c.sc x && !(as.any isStar) && ks.isEmpty) = true
    · rw [if_pos h]
      rw [Bool.and_eq_true, Bool.and_eq_true] at h
      obtain ⟨⟨hg, hst⟩, hks⟩ := h
      have hst : as.any isStar = false := by simpa using hst
      have hk : ks = [] := by
        cases ks with
        | nil => rfl
        | cons _ _ => cases hks
      subst hk
      split
      · rename_i hk
        obtain ⟨k1, k2⟩ := cx.gk.it x _ hk
        subst k2
        split
        · rename_i a
          have ha := hst
          rw [List.any_cons, Bool.or_eq_false_iff] at ha
          exact I_range1 (cx.gl hg) k1 (args_ok hf hst) (star_one ha.1)
        · rename_i a b
          have ha := hst
          rw [List.any_cons, Bool.or_eq_false_iff] at ha
          have hb := ha.2
          rw [List.any_cons, Bool.or_eq_false_iff] at hb
          exact I_range2 (cx.gl hg) k1 (args_ok hf hst) (by rw [star_ok ha.1, star_one hb.1]) (star_one hb.1)
        · exact I_bad
      · rename_i hk
        obtain ⟨k1, k2⟩ := cx.gk.it x _ hk
        subst k2
        split
        · rename_i a _ _ _
          have ha := hst
          rw [List.any_cons, Bool.or_eq_false_iff] at ha
          exact I_enum (cx.gl hg) k1 (args_ok hf hst) (star_one ha.1)
        · exact I_bad
      · rename_i hk
        obtain ⟨k1, k2⟩ := cx.gk.it x _ hk
        subst k2
        split
        · rename_i a b _ _ _
          have ha := hst
          rw [List.any_cons, Bool.or_eq_false_iff] at ha
          exact I_zip (cx.gl hg) k1 (args_ok hf hst) (star_ok ha.1) (stars_ok ha.2)
        · exact I_bad
      · exact I_expr (hf _)
    · rw [if_neg h]; exact I_expr (hf _)
  · exact I_bad
  · exact I_expr (hf _)
def TF : WX := fun _ _ _ _ => False
theorem gk_blk {s : Shared} {H : Hp} {scope : Scope} {cenv : PySem.Env} {fp : List Addr} {gk : Str → Option GK} (g : GkOk X T gk) : GkOk (X.blk s H scope cenv fp) T gk := ⟨g.cst, g.fn, g.cls, g.bf, g.ty, g.it⟩
theorem tab_blk {s : Shared} {H : Hp} {scope : Scope} {cenv : PySem.Env} {fp : List Addr} (g : TabOk X T) : TabOk (X.blk s H scope cenv fp) T := ⟨g.kit, g.mth, g.prp, g.fld, g.con, g.ccon, g.stt, g.cls, g.nf, g.neq, g.sf⟩
theorem relabel_is (scope : Scope) (env : PySem.Env) : relabel scope env = relS scope env.scope := rfl
theorem ctx_blk (cx : Ctx X W T c) (scope : Scope) (s : Shared) (H : Hp) (Ca : Addr) (cl : List (Str × Addr)) (fp : List Addr) : Ctx (X.blk s H scope (compEnvC scope cl Ca X.env) fp) TF T (blkSC c scope) := by
  have e : (compEnvC scope cl Ca X.env).scope = relS scope c.sc := by
    show relabel scope X.env = _
    rw [relabel_is, cx.sc]
  refine ⟨cx.N, cx.nd, e, fun x h => ?_, cx.calm, gk_blk cx.gk, tab_blk cx.tab, takes0, cx.units⟩
  have h' : (match scope.names.lookup x, (relS scope c.sc).names.lookup x with
    | some .local, some .local => true
    | some .cell, some .cell => true
    | _, _ => false) = true := h
  show Loc (compEnvC scope cl Ca X.env).scope x ∧ ((scope.names.lookup x == some .cell) = true ∨ (compEnvC scope cl Ca X.env).scope.names.lookup x = some .local)
  rw [e]
  split at h'
  · rename_i h1 h2; exact ⟨.inl h2, .inr h2⟩
  · rename_i h1 h2; exact ⟨.inr h2, .inl (by rw [h1]; rfl)⟩
  · cases h'
theorem ixSt_ok {x : Str} {i : Nat} (h : ixSt c x = some i) : c.st x = true ∧ c.N[i]? = some x := by
  unfold ixSt at h
  split at h
  · exact ⟨by assumption, ixOf_ok h⟩
  · cases h
theorem names_ok (cx : Ctx X W T c) : ∀ {es : List Expr} {is : List Nat}, namesOf c es = some is → PGs X es (namesTg is) ∧ (assignEach es X.env).length = is.length ∧ (assignEach es X.env).findIdx? (·.1) = none
  | [], is, h => by cases h; exact ⟨pgs_nil, by simp [assignEach], by simp [assignEach]⟩
  | .Name x p :: r, is, h => by
    have h' : ((ixSt c x).bind fun i => (namesOf c r).map (i :: ·)) = some is := h
    obtain ⟨i, h1, h2⟩ := Option.bind_eq_some_iff.mp h'
    obtain ⟨js, h3, rfl⟩ := Option.map_eq_some_iff.mp h2
    obtain ⟨a1, a2, a3⟩ := names_ok cx h3
    obtain ⟨b1, b2⟩ := ixSt_ok h1
    obtain ⟨b3, b4⟩ := cx.st x b1
    refine ⟨pgs_cons (pg_name (by rw [cx.N]; exact cx.nd) (by rw [cx.N]; exact b2) b3 b4) a1 ?_, ?_, ?_⟩
    · simp [assignEach]
    · simp only [assignEach, List.length_cons, a2]
    · simp only [assignEach, List.findIdx?_cons, a3]
      rfl
  | .BoolOp .. :: _, _, h | .NamedExpr .. :: _, _, h | .BinOp .. :: _, _, h | .UnaryOp .. :: _, _, h | .Lambda .. :: _, _, h | .IfExp .. :: _, _, h | .Dict .. :: _, _, h | .Set .. :: _, _, h
  | .ListComp .. :: _, _, h | .SetComp .. :: _, _, h | .DictComp .. :: _, _, h | .GeneratorExp .. :: _, _, h | .Await .. :: _, _, h | .Yield .. :: _, _, h | .YieldFrom .. :: _, _, h | .Compare .. :: _, _, h
  | .Call .. :: _, _, h | .FormattedValue .. :: _, _, h | .JoinedStr .. :: _, _, h | .Constant .. :: _, _, h | .Attribute .. :: _, _, h | .Subscript .. :: _, _, h | .Starred .. :: _, _, h | .List .. :: _, _, h
  | .Tuple .. :: _, _, h | .Slice .. :: _, _, h => by cases h
/-- the reading of a comprehension's target -/
def ctTg (K : PySem.W.Frag) : CT → TG
  | .one i => L2.gName i
  | .tup is => L2.gTup K is.length (namesTg is)
theorem ct_ok (cx : Ctx X W T c) {tg : Expr} {ct : CT} (h : ctOf c tg = some ct) : PG X tg (ctTg X.K ct) := by
  unfold ctOf at h
  split at h
  · obtain ⟨i, h1, rfl⟩ := Option.map_eq_some_iff.mp h
    obtain ⟨b1, b2⟩ := ixSt_ok h1
    obtain ⟨b3, b4⟩ := cx.st _ b1
    exact pg_name (by rw [cx.N]; exact cx.nd) (by rw [cx.N]; exact b2) b3 b4
  · obtain ⟨is, h1, rfl⟩ := Option.map_eq_some_iff.mp h
    obtain ⟨a1, a2, a3⟩ := names_ok cx h1
    exact pg_tup cx.calm a1 a2 a3
  · cases h
theorem ct_in {K : PySem.W.Frag} {ct : CT} {vs : List Nat} (h : ctIn vs ct = true) : CtOk K ct vs (ctTg K ct) := by
  cases ct with
  | one i => exact ct_one (of_decide_eq_true h)
  | tup is => exact ct_tup fun i hi => of_decide_eq_true (List.all_eq_true.mp h i hi)
/-- what is shown of the evaluator below -/
structure EvOk (T : Tab) (r : SC → Ev) : Prop where
  e : ∀ {X : Cx} {W : WX} {c : SC}, Ctx X W T c → ∀ mu e, PE X e (tI X.K X.mg W ((r c).e mu e))
  t : ∀ {X : Cx} {W : WX} {c : SC}, Ctx X W T c → ∀ e, PT X e (tIT X.K X.mg W ((r c).t e))
theorem lc_ok (cx : Ctx X W T c) {r : SC → Ev} (hr : EvOk T r) (mu : Bool) (elt : Expr) (gens : List Comprehension) (scope : Scope) (pos : Pos) : PE X (.ListComp elt gens scope pos) (tI X.K X.mg W (lcG mu c r elt gens scope)) := by
  unfold lcG
  split
  · rename_i tg iter ifs
    dsimp only
    split
    · exact E_bad
    · rename_i ct hct
      by_cases h : (blkC c.N c.sc scope (ownOf c.N scope.names) && ctIn ((ownOf c.N scope.names).map (·.2)) ct) = true
      · rw [if_pos h]
        rw [Bool.and_eq_true] at h
        by_cases hset : isSet iter = true
        · have hbad : iterG c ((r c).e false) tg iter = fun _ _ => .bad := by
            cases iter with
            | Set _ _ _ => rfl
            | _ => cases hset
          have e1 : ∀ t el vs, tI X.K X.mg W (gLc mu (iterG c ((r c).e false) tg iter) ct t el vs) = tI X.K X.mg W gBad := by
            intro t el vs
            rw [hbad]; rfl
          split
          · rw [e1]; exact E_bad
          · rw [e1]; exact E_bad
          · exact E_bad
        · have ok : BlkOk X.N X.env.scope scope (ownOf c.N scope.names) := by
            rw [cx.N, cx.sc]; exact blkOk_by h.1
          have hi := iter_ok cx (hr.e cx false) tg iter
          have hN : X.N.Nodup := by rw [cx.N]; exact cx.nd
          have hs := fun x => folded_ok (env := X.env) (Bool.eq_false_iff.mpr hset) x
          split
          · exact PE_imp (pe_lc cx.calm hN hi ok (fun s H Ca cl fp => ct_ok (ctx_blk cx scope s H Ca cl fp) hct) (fun _ _ _ _ _ => pts_nil) (fun s H Ca cl fp => hr.e (ctx_blk cx scope s H Ca cl fp) false elt) hs) fun σ H Q => lc_read (X := X) (t := none) (tt := tYes) (ct_in h.2) rfl
          · rename_i t
            exact PE_imp (pe_lc cx.calm hN hi ok (fun s H Ca cl fp => ct_ok (ctx_blk cx scope s H Ca cl fp) hct) (tt := tIT X.K X.mg TF ((r (blkSC c scope)).t t)) (fun s H Ca cl fp => pts_one (hr.t (ctx_blk cx scope s H Ca cl fp) t)) (fun s H Ca cl fp => hr.e (ctx_blk cx scope s H Ca cl fp) false elt) hs) fun σ H Q => lc_read (X := X) (t := some _) (tt := tIT X.K X.mg TF ((r (blkSC c scope)).t t)) (ct_in h.2) rfl
          · exact E_bad
      · rw [if_neg h]; exact E_bad
  · exact E_bad
theorem strGood_ok {x : Str} (h : strGood x = true) {K : PySem.W.Frag} {mg : Str → Option Value} (w : Wd) : Rep K mg w (.str x) (.str x) := by
  unfold strGood at h
  rw [Bool.and_eq_true] at h
  have h2 : x.length ≤ 100000 := of_decide_eq_true h.2
  exact .str x h.1 (by rw [sizeLine_eq]; omega)
theorem const_ok (k : Const) (j : Nat) (pos : Pos) : PE X (.Constant k j pos) (tI X.K X.mg W (constG k)) := by
  cases k
  case int i => exact E_const pe_int fun w => .int i
  case bool b => exact E_const pe_bl fun w => .bl b
  case none => exact E_const pe_non fun w => .non
  case str x =>
    show PE X _ (tI X.K X.mg W (if strGood x then gC (.str x) else gBad))
    split
    · rename_i h; exact E_const pe_str (strGood_ok h)
    · exact E_bad
  all_goals exact E_bad
theorem parts_ok {f : Expr → G} (hf : ∀ e, PE X e (tI X.K X.mg W (f e))) : ∀ {es : List Expr} {gs : List G}, partsG f constG es = some gs → PJ' X W es gs
  | [], gs, h => by cases h; exact .nil
  | e :: es, gs, h => by
    unfold partsG at h
    split at h
    · rename_i q; cases q
    · rename_i x j p es' q
      cases q
      obtain ⟨hs, h1, rfl⟩ := Option.map_eq_some_iff.mp h
      exact .cons (const_ok _ _ _) (parts_ok hf h1)
    · rename_i e' p es' q
      cases q
      obtain ⟨hs, h1, rfl⟩ := Option.map_eq_some_iff.mp h
      exact .cons (E_fmt (hf _)) (parts_ok hf h1)
    · cases h
theorem expr_ok (cx : Ctx X W T c) {r : SC → Ev} (hr : EvOk T r) (mu : Bool) (e : Expr) : PE X e (tI X.K X.mg W (exprStep T c r mu e)) := by
  have he := hr.e cx false
  have hm := hr.e cx mu
  have ht := hr.t cx
  cases e
  case Constant k j pos => exact const_ok k j pos
  case Name x pos => exact name_ok cx x pos
  case BinOp a op b pos =>
    show PE X _ (tI X.K X.mg W (match binF op with
      | some f => if c.own then gBin T mu op f ((r c).e false a) ((r c).e false b) else gO2 mu f ((r c).e false a) ((r c).e false b)
      | none => gBad))
    split
    · rename_i f hf
      split
      · exact E_bin cx.tab cx.tk (bin_ok cx hf) (he a) (he b)
      · exact E_op (bin_ok cx hf) (he a) (he b)
    · exact E_bad
  case UnaryOp op a pos =>
    cases op
    case Not => exact E_not (he a)
    case USub => exact E_neg (he a)
    all_goals exact E_bad
  case BoolOp op es pos => exact boolE_ok he op pos es
  case Compare a ops bs pos => exact cmpG_ok cx he a ops bs pos
  case IfExp t a b pos => exact E_if (ht t) (hm a) (hm b)
  case Tuple es k pos =>
    show PE X _ (tI X.K X.mg W (if es.any isStar then gTup (dCap (argsDS ((r c).e false) es)) else if !decide (es.length ≤ 1000) then gBad else gTup (argsD ((r c).e false) es)))
    split
    · exact E_tup (cap_ok (argsDS_ok he)) cap_len
    · rename_i h1
      split
      · exact E_bad
      · rename_i h
        exact E_tup (argsD_ok he (Bool.eq_false_iff.mpr h1)) fun ρ S ds S' q => by rw [argsD_len q]; simpa using h
  case List es pos =>
    show PE X _ (tI X.K X.mg W (if es.any isStar then (if mu then gBad else gLst false (dCap (argsDS ((r c).e false) es))) else if !decide (es.length ≤ 1000) then gBad else if mu then gLstM (argsG ((r c).e false) es) else gLst false (argsD ((r c).e false) es)))
    split
    · split
      · exact E_bad
      · exact E_lst (cap_ok (argsDS_ok he)) cap_len
    · rename_i h1
      split
      · exact E_bad
      · rename_i h
        split
        · exact E_lstM (args_ok he (Bool.eq_false_iff.mpr h1)) fun ρ S ds S' q => by rw [argsG_len q]; simpa using h
        · exact E_lst (argsD_ok he (Bool.eq_false_iff.mpr h1)) fun ρ S ds S' q => by rw [argsD_len q]; simpa using h
  case Dict ks vs pos =>
    show PE X _ (tI X.K X.mg W (match ks, vs with
      | [], [] => gDct0 mu
      | _, _ => gBad))
    split
    · exact E_dct0
    · exact E_bad
  case Subscript a b pos => exact sub_ok cx he a b pos
  case Attribute o f pos =>
    show PE X _ (tI X.K X.mg W (if superB o then gBad else gAttr T f ((r c).e false o)))
    split
    · exact E_bad
    · rename_i h; exact E_attr cx.tab (he o) (base_of2 (Bool.eq_false_iff.mpr h))
  case Call fn as ks pos => exact call_ok cx he (hr.e cx true) fn as ks pos
  case ListComp elt gens scope pos => exact lc_ok cx hr mu elt gens scope pos
  case JoinedStr vs pos =>
    show PE X _ (tI X.K X.mg W (match vs with
      | v1 :: v2 :: rest => (match partsG ((r c).e false) constG (v1 :: v2 :: rest) with
        | some gs => gJs gs Str.empty
        | none => gBad)
      | _ => gBad))
    split
    · split
      · rename_i gs hgs; exact E_joined (parts_ok he hgs)
      · exact E_bad
    · exact E_bad
  all_goals exact E_bad
theorem test_ok (cx : Ctx X W T c) {r : SC → Ev} (hr : EvOk T r) (e : Expr) : PT X e (tIT X.K X.mg W (testStep T c r e)) := by
  have he := hr.e cx false
  have ht := hr.t cx
  cases e
  case BoolOp op es pos => exact boolT_ok ht op pos es
  case UnaryOp op a pos =>
    cases op
    case Not => exact T_not (ht a)
    all_goals exact T_bad
  case Compare a ops bs pos =>
    show PT X _ (tIT X.K X.mg W (match ops, bs with
      | [op], [b] => if behindInMarks op b then gBadT else (match cmpF op with
        | some g => if c.own then gtB (gCmp T op g ((r c).e false a) ((r c).e false b)) else gtB (gO2 false g ((r c).e false a) ((r c).e false b))
        | none => gBadT)
      | _, _ => gtB (cmpG T c ((r c).e false) a ops bs)))
    split
    · rename_i op b
      by_cases h : behindInMarks op b = true
      · rw [if_pos h]; exact T_bad
      · rw [if_neg h]
        split
        · rename_i g hg
          split
          · exact T_cmpO cx.tab (cmp_ok cx hg) (he a) (he b) (Bool.eq_false_iff.mpr h)
          · exact T_cmp (cmp_ok cx hg) (he a) (he b) (Bool.eq_false_iff.mpr h)
        · exact T_bad
    · rename_i hne
      by_cases h2 : ∃ op op' b c', ops = [op, op'] ∧ bs = [b, c']
      · obtain ⟨op, op', b, c', rfl, rfl⟩ := h2
        show PT X _ (tIT X.K X.mg W (gtB (if lastMarks [op, op'] [b, c'] then gBad else (match cmpF op, cmpF op' with
          | some g, some g' => gChain g g' ((r c).e false a) ((r c).e false b) ((r c).e false c')
          | _, _ => gBad))))
        by_cases h : lastMarks [op, op'] [b, c'] = true
        · rw [if_pos h]; exact ⟨fun _ _ _ _ _ _ ⟨_, _, _, _, _, o⟩ => o.elim⟩
        · rw [if_neg h]
          split
          · rename_i g g' hg hg'
            exact T_chain (cmp_ok cx hg) (cmp_ok cx hg') (he a) (he b) (he c') (Bool.eq_false_iff.mpr h)
          · exact ⟨fun _ _ _ _ _ _ ⟨_, _, _, _, _, o⟩ => o.elim⟩
      · have e : cmpG T c ((r c).e false) a ops bs = gBad := by
          unfold cmpG
          split
          · exact absurd rfl (hne _ _ rfl)
          · exact absurd ⟨_, _, _, _, rfl, rfl⟩ h2
          · rfl
        rw [e]
        exact ⟨fun _ _ _ _ _ _ ⟨_, _, _, _, _, o⟩ => o.elim⟩
  case Name x pos => exact tru_ok' cx.tab (he _) fun _ => rfl
  case Call fn as ks pos => exact tru_ok' cx.tab (he _) fun _ => rfl
  case Attribute a b pos => exact tru_ok' cx.tab (he _) fun _ => rfl
  case Subscript a b pos => exact tru_ok' cx.tab (he _) fun _ => rfl
  all_goals exact T_bad
end
theorem evs_ok (T : Tab) : ∀ n, EvOk T (evs T n)
  | 0 => ⟨fun _ _ _ => E_bad, fun _ _ => T_bad⟩
  | n + 1 => ⟨fun cx mu e => expr_ok cx (evs_ok T n) mu e, fun cx e => test_ok cx (evs_ok T n) e⟩
end
end Dv
set_option maxRecDepth 100000
set_option maxHeartbeats 1000000
namespace Dv
open PySem PySem.Spec PyProof.Rows L2
noncomputable section
def swNames (sc : Scope) (ts : List Expr) : List Str :=
  let line := (ts.head?.map (·.pos.line)).getD 0
  ts.filterMap fun
    | .Name id pos => if sc.names.lookup id == some .local && pos.line == line then some id else none
    | _ => none
/-- the stores of «a, b = x, y», swapped or not; none: not told -/
def swStat (sc : Scope) (ts vs : List Expr) : Option (Option (List Str)) :=
  if (!(ts.length == 2 || ts.length == 3) || vs.length != ts.length) = true then some none
  else if (vs.any fun | .Starred .. => true | _ => false) = true then some none
  else if ((swNames sc ts).length != ts.length || (swNames sc ts).eraseDups.length != (swNames sc ts).length) = true then some none
  else if vs.all (foldedForSure 8) = true then some none
  else if vs.all (constantsAlone 8) = true then none
  else some (some (swNames sc ts))
theorem swStat_ok {sc : Scope} {env : PySem.Env} {ts vs : List Expr} {k k2 : Nat} {p p2 : Pos} {r : Option (List Str)} (hk : sc.kind = .function) (he : env.scope = sc) (h : swStat sc ts vs = some r) :
    swappedStores [.Tuple ts k p] (.Tuple vs k2 p2) env = pure r := by
  subst he
  have hb : env.blockKind = .function := by unfold Env.blockKind; rw [hk]; rfl
  unfold swStat at h
  unfold swappedStores
  simp only [hb]
  split at h
  · rename_i h1
    cases h
    have : (!(ts.length == 2 || ts.length == 3) || vs.length != ts.length || (ScopeKind.function != ScopeKind.function)) = true := by rw [h1]; rfl
    exact if_pos this
  · rename_i h1
    have : ¬ (!(ts.length == 2 || ts.length == 3) || vs.length != ts.length || (ScopeKind.function != ScopeKind.function)) = true := by
      rw [Bool.eq_false_iff.mpr h1]; decide
    refine (if_neg this).trans ?_
    split at h
    · rename_i h2; cases h; exact if_pos h2
    · rename_i h2
      refine (if_neg h2).trans ?_
      split at h
      · rename_i h3; cases h; exact if_pos h3
      · rename_i h3
        refine (if_neg h3).trans ?_
        split at h
        · rename_i h4; cases h; exact if_pos h4
        · rename_i h4
          refine (if_neg h4).trans ?_
          split at h
          · cases h
          · rename_i h5; cases h; exact if_neg h5

/-- a, b, .. = x, y, .. whose stores are swapped -/
def sPar (is : List Nat) (a : GA) : GS := fun ρ S => bindS ρ (a ρ S) fun ds S1 => if ds.length = is.length then .nx (setAll is.reverse ds.reverse ρ) S1 else .bad
def setAllV : List Nat → List V → L2.St → L2.St
  | i :: is, v :: vs, σ => setAllV is vs (σ.set i (some v))
  | _, _, σ => σ
section
variable {K : PySem.W.Frag} {mg : Str → Option Value} {w : Wd}
theorem EnvOk.setAll : ∀ {is : List Nat} {ds : List U} {vs : List V} {ρ : Env} {σ : L2.St}, EnvOk K mg w ρ σ → RepUs K mg w ds vs → EnvOk K mg w (setAll is ds ρ) (setAllV is vs σ)
  | [], ds, vs, ρ, σ, h, r => by cases r <;> exact h
  | i :: is, _, _, ρ, σ, h, .nil => h
  | i :: is, _, _, ρ, σ, h, .cons rd rt => by
    have q := EnvOk.setAll (is := is) (h.set rd i) rt
    exact q
theorem RepUs.reverse : ∀ {ds : List U} {vs : List V}, RepUs K mg w ds vs → RepUs K mg w ds.reverse vs.reverse
  | _, _, .nil => .nil
  | _, _, .cons h t => by
    rw [List.reverse_cons, List.reverse_cons]
    exact (RepUs.reverse t).append (.cons h .nil)
end
theorem Vals.rev : ∀ {vs : List V} {us : List Value}, Vals vs us → Vals vs.reverse us.reverse
  | _, _, .nil => .nil
  | _, _, .cons h t => by
    rw [List.reverse_cons, List.reverse_cons]
    exact (Vals.rev t).append (.cons h .nil)
section
variable {X : Cx} {W : WX}
theorem assign_names {pins : List (Addr × Obj)} {H : Hp} {Q : Unit → Shared → Prop} (hN : X.N.Nodup) : ∀ {xs : List Str} {is : List Nat} {vs : List V} {us : List Value} {σ : L2.St} {s : Shared}, Paired (fun x i => X.N[i]? = some x ∧ X.env.scope.names.lookup x = some .local) xs is → Vals vs us → vs.length = xs.length → Inv X pins σ H s →
    (∀ s', Inv X pins (setAllV is vs σ) H s' → Q () s') → wpAny (model X.prog X.w) X.A (assignInOrder (xs.map fun x v => bindName X.env x v) us) Q X.xe s
  | [], [], vs, us, σ, s, .nil, r, hl, I, q => by
    have : vs = [] := List.eq_nil_of_length_eq_zero hl
    subst this
    cases r
    exact assignInOrder_nil (q s I)
  | x :: xs, _, vs, us, σ, s, .cons (b := i) h t, r, hl, I, q => by
    cases r with
    | nil => simp at hl
    | cons rv rt =>
      exact assignInOrder_cons (wpAny_bindName (store_ok I hN h.1 (.inl h.2) rv (fun s' I' => assign_names hN t rt (by simpa using hl) I' q) (.inr h.2)))
theorem paired_rev {α β : Type} {F : α → β → Prop} : ∀ {l : List α} {m : List β}, Paired F l m → Paired F l.reverse m.reverse := by
  have app : ∀ {l l' : List α} {m m' : List β}, Paired F l m → Paired F l' m' → Paired F (l ++ l') (m ++ m') := by
    intro l l' m m' h h'
    induction h with
    | nil => exact h'
    | cons a b ih => exact .cons a ih
  intro l m h
  induction h with
  | nil => exact .nil
  | cons a b ih => rw [List.reverse_cons, List.reverse_cons]; exact app ih (.cons a .nil)
theorem S_par {ts vs : List Expr} {xs : List Str} {is : List Nat} {ga : GA} {kt k2 : Nat} {pt pt2 pos : Pos} (hc : X.calm = true) (hN : X.N.Nodup) (hp : Paired (fun x i => X.N[i]? = some x ∧ X.env.scope.names.lookup x = some .local) xs is) (ha : PA X vs (tIA X.K X.mg W ga))
    (hl : vs.length ≤ 3) (hga : ∀ ρ S ds S', ga ρ S = .ok ds S' → ds.length = vs.length)
    (hw : swappedStores [.Tuple ts kt pt] (.Tuple vs k2 pt2) X.env = pure (some xs)) : PS X (.Assign [.Tuple ts kt pt] (.Tuple vs k2 pt2) pos) (tSt X.K X.mg W (sPar is ga)) := by
  refine ⟨fun pins s σ H E I ⟨w, S, ρ, st, en, o⟩ => ?_⟩
  have hlen : xs.length = is.length := Paired.length hp
  rw [exec_Assign_arm]
  refine wpAny_bind (wpAny_standAt ?_)
  rw [show swapsWithSole [.Tuple ts kt pt] (.Tuple vs k2 pt2) pos.line X.env = pure false from rfl]
  refine wpAny_bind (wpAny_pure ?_)
  rw [if_neg (by decide)]
  have hA : tIA X.K X.mg W ga σ H fun ws H1 => ws.length = is.length ∧ ws.length ≤ 3 ∧ E.nx (setAllV is.reverse ws.reverse σ) H1 := by
    refine ⟨w, S, ρ, st, en, ?_⟩
    have o' : OutS X.K X.mg W w H (bindS ρ (ga ρ S) fun ds S1 => if ds.length = is.length then .nx (setAll is.reverse ds.reverse ρ) S1 else .bad) E := o
    cases q : ga ρ S with
    | ok ds S1 =>
      rw [q] at o'
      have o2 : OutS X.K X.mg W w H (if ds.length = is.length then .nx (setAll is.reverse ds.reverse ρ) S1 else .bad) E := o'
      have hd := hga ρ S ds S1 q
      by_cases h : ds.length = is.length
      · rw [if_pos h] at o2
        intro w1 H1 ws l1 s1 r1
        have hw1 := RepUs.length (show RepUs X.K X.mg w1 ds ws from r1)
        exact ⟨by omega, by omega, o2 w1 H1 _ l1 s1 (EnvOk.setAll (en.mono l1) (RepUs.reverse r1))⟩
      · rw [if_neg h] at o2; exact o2.elim
    | exc c fs S1 =>
      rw [q] at o'
      exact fun w' H' cls dd l1 s1 p1 => o' w' H' σ cls dd l1 s1 (en.mono l1) p1
    | bad => rw [q] at o'; exact o'.elim
  refine wpAny_bind (Tuple_ (thn (ha.run _ pins s σ H _ I hA) fun us s1 ⟨ws, H1, I1, r1, h1, h2, q1⟩ => ?_))
  have hus : us.length = is.length := by rw [← r1.length]; exact h1
  refine wpAny_newObj_type ?_ (by show us.toArray.size ≤ sizeLine; rw [List.size_toArray, sizeLine_eq]; omega)
  have I2 : Inv X pins σ H1 { s1 with heap := s1.heap.push { cls := .type "tuple", data := .seq us.toArray } } := I1.kept (t' := s1.toks) fun b o e => Heap.get?_push_of_some _ e
  rw [hw]
  refine wpAny_bind (wpAny_pure ?_)
  show wpAny (model X.prog X.w) X.A (do rule "assign.swapped-stores"; let items ← unpackItems (.ref s1.heap.objs.size) xs.length none; assignInOrder (xs.reverse.map fun n v => bindName X.env n v) items.reverse; pure Flow.next) _ _ _
  have hsz : xs.length = us.toArray.size := by rw [List.size_toArray]; omega
  rw [hsz]
  refine wpAny_bind (wpAny_rule (wpAny_bind (unpackItems_tuple (items := us.toArray) (I.ok.hd hc) (IsTup.new s1.heap _) fun h' hx' => ?_)))
  have I3 := I2.kept (h' := h') (t' := s1.toks) fun b o e => hx' b o (Nat.ne_of_lt (Heap.lt_size e)) e
  show wpAny _ _ (assignInOrder (xs.reverse.map fun n v => bindName X.env n v) us.toArray.toList.reverse >>= fun _ => pure Flow.next) _ _ _
  refine wpAny_bind (assign_names hN (paired_rev hp) (by simpa using Vals.rev r1) (by rw [List.length_reverse, List.length_reverse]; omega) I3 fun s3 I5 => wpAny_pure ?_)
  exact ⟨_, H1, I5, q1⟩
theorem sw_comp {elt : Expr} {gs : List Comprehension} {scope : Scope} {pos py : Pos} {y : Str} {l : Nat} {env : PySem.Env} {b : Bool} (hk : env.scope.kind = .function) (h : ((env.scope.names.lookup y == some .local) && (py.line == pos.line) && !(scope.names.any fun (n, k) => n == y && (k == .local || k == .cell))) = b) :
    swapsWith (.ListComp elt gs scope pos) (some (.Name y py)) l env = pure b := by
  have hb : env.blockKind = .function := by unfold Env.blockKind; rw [hk]; rfl
  unfold swapsWith
  simp only [hb, Expr.pos]
  rw [← h]
  rfl
end
/-! ### the evaluator of statements -/
def tgsG (f : Expr → GTg) : List Expr → GTgs
  | [] => tgNil
  | e :: es => tgCons (f e) (tgsG f es)
def unStar : Expr → Expr
  | .Starred e _ => e
  | e => e
/-- is the list behind a star to change later -/
def starMu (c : SC) (es : List Expr) : Bool := es.any fun e => match e with
  | .Starred (.Name x _) _ => c.muN x
  | .Starred _ _ => true
  | _ => false
def tgG (T : Tab) (c : SC) (f : Expr → G) : Nat → Expr → GTg
  | 0, _ => tgBad
  | n + 1, e => match e with
    | .Attribute o a _ => tgAttr T (f o) a
    | .Name x _ => (match ixSt c x with
      | some i => tgName i
      | none => tgBad)
    | .Tuple es _ _ => if es.any isStar then (match es.findIdx? isStar with
        | some i => if starMu c es || (es.map unStar).any isStar then tgBad else tgStar es.length i (tgsG (tgG T c f n) (es.map unStar))
        | none => tgBad) else tgTup es.length (tgsG (tgG T c f n) es)
    | .Subscript o i _ => if isSlice i then tgBad else tgSub (f o) (f i)
    | _ => tgBad
def isListX : Expr → Bool
  | .List _ _ => true
  | .Starred _ _ => true
  | _ => false
def isComp : Expr → Bool
  | .ListComp _ _ _ _ => true
  | .SetComp _ _ _ _ => true
  | .DictComp _ _ _ _ _ => true
  | _ => false
def slotsOf (N : List Str) : List Str → Option (List Nat)
  | [] => some []
  | x :: r => (ixOf N x).bind fun i => (slotsOf N r).map (i :: ·)
def allLocal (sc : Scope) (xs : List Str) : Bool := xs.all fun x => sc.names.lookup x == some .local
def isFun (sc : Scope) : Bool := match sc.kind with
  | .function => true
  | _ => false
/-- the arguments, each with its mode -/
def argsM (f : Bool → Expr → G) : List Bool → List Expr → GA
  | _, [] => gNil
  | [], e :: es => gCons (f false e) (argsM f [] es)
  | b :: bs, e :: es => gCons (f b e) (argsM f bs es)
def tgMu (c : SC) : Expr → Bool
  | .Name x _ => c.muN x
  | .Attribute _ f _ => c.muA f
  | _ => false
/-- a, b, .. = x, y, .. by way of a tuple -/
def sAsgT (n : Nat) (a : GA) (t : GTgs) : GS := fun ρ S => bindS ρ (a ρ S) fun us S1 => if us.length = n then (match t us ρ S1 with
  | some (ρ', S2) => .nx ρ' S2
  | none => .bad) else .bad
def asgS (T : Tab) (c : SC) (f : Bool → Expr → G) (tg e : Expr) : GS := match tg, e with
  | .Name x p, .ListComp elt gs scope p2 => if isFun c.sc then (match ixSt c x with
    | some i => if ((c.sc.names.lookup x == some .local) && (p.line == p2.line) && !(scope.names.any fun (n, k) => n == x && (k == .local || k == .cell))) then
        (if c.sc.names.lookup x == some .local then sAsg (f (c.muN x) e) (tgName i) else sBad) else sAsg (f (c.muN x) e) (tgName i)
    | none => sBad) else sBad
  | .Tuple ts _ _, .Tuple vs _ _ => if isFun c.sc then (match swStat c.sc ts vs with
    | some (some xs) => if vs.any isStar || !decide (vs.length ≤ 3) || !allLocal c.sc xs then sBad else (match slotsOf c.N xs with
      | some is => sPar is (argsM f (xs.map c.muN) vs)
      | none => sBad)
    | some none => if vs.any isStar || ts.any isStar || !decide (vs.length ≤ 1000) then sBad else sAsgT ts.length (argsM f (ts.map (tgMu c)) vs) (tgsG (tgG T c (f false) 4) ts)
    | none => sBad) else sBad
  | tg, e => if isComp e || isListX tg then sBad else sAsg (f (tgMu c tg) e) (tgG T c (f false) 4 tg)
/-- x += e, numbers -/
def augI (op : Operator) (m n : Int) : Option Int := match op with
  | .Add => some (m + n)
  | .Sub => some (m - n)
  | _ => none
def augOp : Operator → Bool
  | .Add => true
  | .Sub => true
  | _ => false
def sAug (i : Nat) (op : Operator) (a : G) : GS := fun ρ S => match ρ[i]? with
  | some (some (.d (.int m))) => bindS ρ (a ρ S) fun y S1 => match uInt y with
    | some n => (match augI op m n with
      | some k => .nx (ρ.set i (some (.d (.int k)))) S1
      | none => .bad)
    | none => .bad
  | _ => .bad
def blockG (f : Stmt → GS) : List Stmt → GS
  | [] => sNil
  | [s] => f s
  | s :: r => sSeq (f s) (blockG f r)
def stmtStep (T : Tab) (m : Nat) (c : SC) (r : Stmt → GS) : Stmt → GS
  | .Pass _ => sNil
  | .Break _ => sBreak
  | .Continue _ => sCont
  | .Expr e _ => if isComp e then sBad else sDrop ((evs T m c).e false e)
  | .Return o _ => (match o with
    | some e => sRet ((evs T m c).e c.rm e)
    | none => sRetN)
  | .If t a b _ => sIf ((evs T m c).t t) (blockG r a) (blockG r b)
  | .For tg iter body els _ => if !els.isEmpty || isSet iter then sBad else sFor (iterG c ((evs T m c).e false) tg iter) (tgG T c ((evs T m c).e false) 4 tg) (blockG r body)
  | .While t body els _ => if !els.isEmpty then sBad else sWhile ((evs T m c).t t) (blockG r body)
  | .Assign ts e _ => (match ts with
    | [tg] => asgS T c (evs T m c).e tg e
    | _ => sBad)
  | .AugAssign (.Name x _) op e _ => (match ixSt c x with
    | some i => if augOp op then sAug i op ((evs T m c).e false e) else sBad
    | none => sBad)
  | _ => sBad
def stms (T : Tab) (m : Nat) (c : SC) : Nat → Stmt → GS
  | 0 => fun _ => sBad
  | n + 1 => stmtStep T m c (stms T m c n)
/-- a def's body -/
def bodyG (T : Tab) (c : SC) (body : List Stmt) : GS := blockG (stms T 40 c 40) body
section
variable {X : Cx} {W : WX} {T : Tab} {c : SC}
theorem tgs_ok {f : Expr → GTg} (hf : ∀ e, PG X e (tTg X.K X.mg (f e))) : ∀ {es : List Expr}, es.any isStar = false → PGs X es (tTgs X.K X.mg (tgsG f es)) ∧ (assignEach es X.env).length = es.length ∧ (assignEach es X.env).findIdx? (·.1) = none
  | [], _ => ⟨Gs_nil, by simp [assignEach], by simp [assignEach]⟩
  | e :: es, h => by
    rw [List.any_cons, Bool.or_eq_false_iff] at h
    obtain ⟨a1, a2, a3⟩ := tgs_ok hf h.2
    have q : assignEach (e :: es) X.env = (false, assign e X.env) :: assignEach es X.env := by
      cases e <;> first | (simp [assignEach]; done) | (cases h.1)
    refine ⟨Gs_cons (hf e) a1 (by rw [q]; rfl), by rw [q, List.length_cons, List.length_cons, a2], ?_⟩
    rw [q, List.findIdx?_cons, a3]
    rfl
theorem each_star {env : PySem.Env} {e : Expr} {es : List Expr} : assignEach (e :: es) env = (isStar e, assign (unStar e) env) :: assignEach es env := by
  cases e <;> simp [assignEach, isStar, unStar]
theorem each_un {env : PySem.Env} {e : Expr} {es : List Expr} (h : isStar e = false) : assignEach (e :: es) env = (false, assign e env) :: assignEach es env := by
  cases e <;> first | (simp [assignEach]; done) | cases h
theorem unstar_ok {env : PySem.Env} : ∀ es : List Expr, (es.map unStar).any isStar = false → (assignEach es env).length = es.length ∧ (assignEach es env).findIdx? (·.1) = es.findIdx? isStar ∧ (assignEach (es.map unStar) env).map (·.2) = (assignEach es env).map (·.2)
  | [], _ => ⟨by simp [assignEach], by simp [assignEach], by simp⟩
  | e :: es, h => by
    rw [List.map_cons, List.any_cons, Bool.or_eq_false_iff] at h
    obtain ⟨a1, a2, a3⟩ := unstar_ok (env := env) es h.2
    refine ⟨by rw [each_star, List.length_cons, List.length_cons, a1], by rw [each_star, List.findIdx?_cons, List.findIdx?_cons, a2], ?_⟩
    rw [List.map_cons, each_un h.1, each_star, List.map_cons, List.map_cons, a3]
theorem tg_ok (cx : Ctx X W T c) {f : Expr → G} (hf : ∀ e, PE X e (tI X.K X.mg W (f e))) : ∀ (n : Nat) (e : Expr), PG X e (tTg X.K X.mg (tgG T c f n e))
  | 0, _ => G_bad
  | n + 1, e => by
    cases e
    case Name x p =>
      show PG X _ (tTg X.K X.mg (match ixSt c x with
        | some i => tgName i
        | none => tgBad))
      split
      · rename_i i hi
        obtain ⟨b1, b2⟩ := ixSt_ok hi
        obtain ⟨b3, b4⟩ := cx.st x b1
        exact G_name (by rw [cx.N]; exact cx.nd) (by rw [cx.N]; exact b2) b3 b4
      · exact G_bad
    case Tuple es k p =>
      show PG X _ (tTg X.K X.mg (if es.any isStar then (match es.findIdx? isStar with
        | some i => if starMu c es || (es.map unStar).any isStar then tgBad else tgStar es.length i (tgsG (tgG T c f n) (es.map unStar))
        | none => tgBad) else tgTup es.length (tgsG (tgG T c f n) es)))
      split
      · split
        · rename_i i hi
          split
          · exact G_bad
          · rename_i h
            have h2 := Bool.or_eq_false_iff.mp (Bool.eq_false_iff.mpr h)
            obtain ⟨a1, a2, a3⟩ := tgs_ok (tg_ok cx hf n) h2.2
            obtain ⟨b1, b2, b3⟩ := unstar_ok (env := X.env) es h2.2
            refine G_star cx.calm ⟨fun pins s σ H vs us Q I r q => ?_⟩ b1 (b2.trans hi)
            have z := a1.run pins s σ H vs us Q I r q
            rw [← b3]; exact z
        · exact G_bad
      · rename_i h
        obtain ⟨a1, a2, a3⟩ := tgs_ok (tg_ok cx hf n) (Bool.eq_false_iff.mpr h)
        exact G_tup cx.calm a1 a2 a3
    case Subscript o i p =>
      show PG X _ (tTg X.K X.mg (if isSlice i then tgBad else tgSub (f o) (f i)))
      split
      · exact G_bad
      · rename_i h
        refine G_sub (by have := cx.units; omega) (hf o) (hf i) fun v => ?_
        cases i <;> first | rfl | (exact absurd rfl h)
    case Attribute o a p => exact G_attr cx.tab (hf o)
    all_goals exact G_bad
theorem slots_ok {N : List Str} {sc : Scope} : ∀ {xs : List Str} {is : List Nat}, slotsOf N xs = some is → allLocal sc xs = true → Paired (fun x i => N[i]? = some x ∧ sc.names.lookup x = some .local) xs is
  | [], is, h, _ => by cases h; exact .nil
  | x :: r, is, h, hl => by
    have h' : ((ixOf N x).bind fun i => (slotsOf N r).map (i :: ·)) = some is := h
    obtain ⟨i, h1, h2⟩ := Option.bind_eq_some_iff.mp h'
    obtain ⟨js, h3, rfl⟩ := Option.map_eq_some_iff.mp h2
    have hl' : ((sc.names.lookup x == some .local) && allLocal sc r) = true := hl
    rw [Bool.and_eq_true] at hl'
    exact .cons ⟨ixOf_ok h1, beq_iff_eq.mp hl'.1⟩ (slots_ok h3 hl'.2)
theorem S_asgT {ts vs : List Expr} {ga : GA} {gts : GTgs} {k1 k2 n : Nat} {p1 p2 pos : Pos} (hc : X.calm = true) (ha : PA X vs (tIA X.K X.mg W ga)) (hl : ∀ ρ S ds S', ga ρ S = .ok ds S' → ds.length ≤ 1000) (hg : PGs X ts (tTgs X.K X.mg gts)) (hn : (assignEach ts X.env).length = n) (hst : (assignEach ts X.env).findIdx? (·.1) = none)
    (hw : swappedStores [.Tuple ts k1 p1] (.Tuple vs k2 p2) X.env = pure none) : PS X (.Assign [.Tuple ts k1 p1] (.Tuple vs k2 p2) pos) (tSt X.K X.mg W (sAsgT n ga gts)) :=
  PS_imp (ps_asg (pe_tup ha) (pg_tup hc hg hn hst) rfl hw rfl) fun E σ H ⟨w, S, ρ, st, en, o⟩ => by
    refine ⟨w, S, ρ, st, en, ?_⟩
    have o' : OutS X.K X.mg W w H (bindS ρ (ga ρ S) fun us S1 => if us.length = n then (match gts us ρ S1 with
      | some (ρ', S2) => .nx ρ' S2
      | none => .bad) else .bad) E := o
    cases q : ga ρ S with
    | ok us S1 =>
      rw [q] at o'
      have o2 : OutS X.K X.mg W w H (if us.length = n then (match gts us ρ S1 with
        | some (ρ', S2) => .nx ρ' S2
        | none => .bad) else .bad) E := o'
      by_cases hln : us.length = n
      · rw [if_pos hln] at o2
        intro w1 H1 xs l1 s1 r1
        have hx := RepUs.length (show RepUs X.K X.mg w1 us xs from r1)
        refine ⟨by rw [← hx, sizeLine_eq]; have := hl ρ S us S1 q; omega, fun p hp => ⟨p, xs, rfl, .inl (.inl upd_same), by omega, w1, S1, ρ, us, s1.beside hp, en.mono l1, r1, ?_⟩⟩
        cases q2 : gts us ρ S1 with
        | none => rw [q2] at o2; exact o2.elim
        | some z => rw [q2] at o2; exact fun w2 H2 σ2 l2 s2 e2 => o2 w2 H2 σ2 (l1.trans l2) s2 e2
      · rw [if_neg hln] at o2; exact o2.elim
    | exc c fs S1 =>
      rw [q] at o'
      exact fun w' H' cls dd l1 s1 p1 => o' w' H' σ cls dd l1 s1 (en.mono l1) p1
    | bad => rw [q] at o'; exact o'.elim
theorem argsM_ok {f : Bool → Expr → G} (hf : ∀ b e, PE X e (tI X.K X.mg W (f b e))) : ∀ {bs : List Bool} {es : List Expr}, es.any isStar = false → PA X es (tIA X.K X.mg W (argsM f bs es))
  | bs, [], _ => by cases bs <;> exact A_nil
  | [], e :: es, h => by
    rw [List.any_cons, Bool.or_eq_false_iff] at h
    exact A_cons (hf false e) (argsM_ok hf h.2) (star_ok h.1)
  | b :: bs, e :: es, h => by
    rw [List.any_cons, Bool.or_eq_false_iff] at h
    exact A_cons (hf b e) (argsM_ok hf h.2) (star_ok h.1)
theorem gCons_len {a : G} {r : GA} {n : Nat} {ρ : Env} {S : Store} {ds : List U} {S' : Store} (hr : ∀ S ds S', r ρ S = .ok ds S' → ds.length = n) (h : gCons a r ρ S = .ok ds S') : ds.length = n + 1 := by
  have h' : ((a ρ S).bind fun x S1 => (r ρ S1).bind fun xs S2 => R.ok (x :: xs) S2) = .ok ds S' := h
  cases q : a ρ S with
  | ok d S1 =>
    rw [q] at h'
    have h2 : ((r ρ S1).bind fun xs S2 => R.ok (d :: xs) S2) = .ok ds S' := h'
    cases q2 : r ρ S1 with
    | ok xs S2 =>
      rw [q2] at h2
      cases h2
      rw [List.length_cons, hr _ _ _ q2]
    | exc c fs S2 => rw [q2] at h2; cases h2
    | bad => rw [q2] at h2; cases h2
  | exc c fs S1 => rw [q] at h'; cases h'
  | bad => rw [q] at h'; cases h'
theorem argsM_len {f : Bool → Expr → G} : ∀ {bs : List Bool} {es : List Expr} {ρ : Env} {S : Store} {ds : List U} {S' : Store}, argsM f bs es ρ S = .ok ds S' → ds.length = es.length
  | bs, [], ρ, S, ds, S', h => by cases bs <;> (cases h; rfl)
  | [], e :: es, ρ, S, ds, S', h => gCons_len (fun S ds S' q => argsM_len q) h
  | b :: bs, e :: es, ρ, S, ds, S', h => gCons_len (fun S ds S' q => argsM_len q) h
theorem isFun_ok {sc : Scope} (h : isFun sc = true) : sc.kind = .function := by
  unfold isFun at h
  split at h
  · assumption
  · cases h
theorem asg_ok (cx : Ctx X W T c) {m : Nat} (tg e : Expr) (pos : Pos) : PS X (.Assign [tg] e pos) (tSt X.K X.mg W (asgS T c (evs T m c).e tg e)) := by
  have hm := (evs_ok T m).e cx
  have hf := hm false
  have hN : X.N.Nodup := by rw [cx.N]; exact cx.nd
  unfold asgS
  split
  · rename_i x p elt gs scope p2
    by_cases hk : isFun c.sc = true
    · rw [if_pos hk]
      have hk' : X.env.scope.kind = .function := by rw [cx.sc]; exact isFun_ok hk
      split
      · rename_i i hi
        obtain ⟨b1, b2⟩ := ixSt_ok hi
        obtain ⟨b3, b4⟩ := cx.st x b1
        have hi' : X.N[i]? = some x := by rw [cx.N]; exact b2
        split
        · rename_i hsw
          have hsw' : swapsWith (.ListComp elt gs scope p2) (some (.Name x p)) pos.line X.env = pure true := sw_comp hk' (by rw [cx.sc]; exact hsw)
          split
          · rename_i hloc
            -- stored within the comprehension's frame
            cases m with
            | zero => exact ⟨fun _ _ _ _ _ _ ⟨_, _, _, _, _, o⟩ => o.elim⟩
            | succ m =>
              show PS X _ (tSt X.K X.mg W (sAsg (lcG (c.muN x) c (evs T m) elt gs scope) (tgName i)))
              have hr := evs_ok T m
              have bad : PS X (.Assign [.Name x p] (.ListComp elt gs scope p2) pos) (tSt X.K X.mg W (sAsg gBad (tgName i))) := ⟨fun _ _ _ _ _ _ ⟨_, _, _, _, _, o⟩ => o.elim⟩
              unfold lcG
              split
              · rename_i tg iter ifs
                dsimp only
                split
                · exact bad
                · rename_i ct hct
                  by_cases h : (blkC c.N c.sc scope (ownOf c.N scope.names) && ctIn ((ownOf c.N scope.names).map (·.2)) ct) = true
                  · rw [if_pos h]
                    rw [Bool.and_eq_true] at h
                    by_cases hset : isSet iter = true
                    · have hbad : iterG c ((evs T m c).e false) tg iter = fun _ _ => .bad := by
                        cases iter with
                        | Set _ _ _ => rfl
                        | _ => cases hset
                      have e1 : ∀ t el vs, tSt X.K X.mg W (sAsg (gLc (c.muN x) (iterG c ((evs T m c).e false) tg iter) ct t el vs) (tgName i)) = tSt X.K X.mg W (sAsg gBad (tgName i)) := by
                        intro t el vs
                        rw [hbad]; rfl
                      split
                      · rw [e1]; exact bad
                      · rw [e1]; exact bad
                      · exact bad
                    · have ok : BlkOk X.N X.env.scope scope (ownOf c.N scope.names) := by
                        rw [cx.N, cx.sc]; exact blkOk_by h.1
                      have hit := iter_ok cx (hr.e cx false) tg iter
                      have hs := fun x => folded_ok (env := X.env) (Bool.eq_false_iff.mpr hset) x
                      have hyl : X.env.scope.names.lookup x = some .local := by rw [cx.sc]; exact beq_iff_eq.mp hloc
                      have conv : ∀ {g : G} {te : TE}, (∀ σ H Q, tI X.K X.mg W g σ H Q → te σ H Q) → ∀ E σ H, tSt X.K X.mg W (sAsg g (tgName i)) E σ H → tAsg te (L2.gName i) E σ H := fun {g te} w E σ H ⟨ι, S, ρ, s, en, o⟩ =>
                        w σ H _ (tG_thenS s en o fun w1 H1 S1 d v l1 s1 p1 en1 o1 => o1 w1 H1 _ (Le.refl _) s1 (en1.set p1 i))
                      split
                      · exact PS_imp (ps_setLc cx.calm hN hi' hyl hsw' hit ok (fun s H Ca cl fp => ct_ok (ctx_blk cx scope s H Ca cl fp) hct) (fun _ _ _ _ _ => pts_nil) (fun s H Ca cl fp => hr.e (ctx_blk cx scope s H Ca cl fp) false elt) hs) (conv fun σ H Q => lc_read (X := X) (t := none) (tt := tYes) (ct_in h.2) rfl)
                      · rename_i t
                        exact PS_imp (ps_setLc cx.calm hN hi' hyl hsw' hit ok (fun s H Ca cl fp => ct_ok (ctx_blk cx scope s H Ca cl fp) hct) (tt := tIT X.K X.mg TF ((evs T m (blkSC c scope)).t t)) (fun s H Ca cl fp => pts_one (hr.t (ctx_blk cx scope s H Ca cl fp) t)) (fun s H Ca cl fp => hr.e (ctx_blk cx scope s H Ca cl fp) false elt) hs) (conv fun σ H Q => lc_read (X := X) (t := some _) (tt := tIT X.K X.mg TF ((evs T m (blkSC c scope)).t t)) (ct_in h.2) rfl)
                      · exact bad
                  · rw [if_neg h]; exact bad
              · exact bad
          · exact S_bad
        · rename_i hsw
          exact S_asg (hm _ _) (G_name hN hi' b3 b4) (sw_comp (l := pos.line) hk' (by rw [cx.sc]; exact Bool.eq_false_iff.mpr hsw)) rfl rfl
      · exact S_bad
    · rw [if_neg hk]; exact S_bad
  · rename_i ts k1 p1 vs k2 p2
    by_cases hk : isFun c.sc = true
    · rw [if_pos hk]
      split
      · rename_i xs hsw
        split
        · exact S_bad
        · rename_i h
          have h3 := Bool.or_eq_false_iff.mp (Bool.eq_false_iff.mpr h)
          have h4 := Bool.or_eq_false_iff.mp h3.1
          have hle : vs.length ≤ 3 := by simpa using h4.2
          have hal : allLocal c.sc xs = true := by simpa using h3.2
          split
          · rename_i is his
            refine S_par cx.calm hN ?_ (argsM_ok hm h4.1) hle (fun ρ S ds S' q => argsM_len q) (swStat_ok (isFun_ok hk) cx.sc hsw)
            rw [cx.N, cx.sc]
            exact slots_ok his hal
          · exact S_bad
      · rename_i hsw
        split
        · exact S_bad
        · rename_i h
          have h3 := Bool.or_eq_false_iff.mp (Bool.eq_false_iff.mpr h)
          have h4 := Bool.or_eq_false_iff.mp h3.1
          obtain ⟨a1, a2, a3⟩ := tgs_ok (tg_ok cx hf 4) h4.2
          exact S_asgT cx.calm (argsM_ok hm h4.1) (fun ρ S ds S' q => by rw [argsM_len q]; simpa using h3.2) a1 a2 a3 (swStat_ok (isFun_ok hk) cx.sc hsw)
      · exact S_bad
    · rw [if_neg hk]; exact S_bad
  · rename_i hne1 hne2
    by_cases h : (isComp e || isListX tg) = true
    · rw [if_pos h]; exact S_bad
    · rw [if_neg h]
      have h2 := Bool.or_eq_false_iff.mp (Bool.eq_false_iff.mpr h)
      refine S_asg (hm _ _) (tg_ok cx hf 4 _) ?_ ?_ ?_
      · show swapsWith e (some tg) pos.line X.env = pure false
        cases e <;> first | rfl | cases h2.1
      · cases tg with
        | List _ _ => cases h2.2
        | Tuple ts k p =>
          cases e with
          | Tuple vs k2 p2 => exact absurd rfl (hne2 _ _ _ _ _ _ rfl)
          | _ => rfl
        | _ => rfl
      · cases tg <;> first | rfl | cases h2.2
theorem S_aug {i : Nat} {x : Str} {e : Expr} {ga : G} {op : Operator} {p pos : Pos} (hN : X.N.Nodup) (hi : X.N[i]? = some x) (hx : Loc X.env.scope x) (hf : X.fn x = true ∨ X.env.scope.names.lookup x = some .local) (he : PE X e (tI X.K X.mg W ga)) (hop : augOp op = true) :
    PS X (.AugAssign (.Name x p) op e pos) (tSt X.K X.mg W (sAug i op ga)) := by
  have gen : ∀ {f : Int → Int → Int}, PIp X op (ipI f) → (∀ m n, augI op m n = some (f m n)) → PS X (.AugAssign (.Name x p) op e pos) (tSt X.K X.mg W (sAug i op ga)) := fun {f} ip hs =>
    PS_imp (ps_aug hN hi hx he ip hf) fun E σ H ⟨w, S, ρ, st, en, o⟩ => by
      unfold sAug at o
      split at o
      · rename_i m hm
        obtain ⟨v, h1, h2⟩ := en.2 i _ hm
        cases h2 with
        | d h2 =>
          cases h2
          refine ⟨_, h1, tG_thenS st en o fun w1 H1 S1 d v l1 s1 p1 en1 o1 => ?_⟩
          split at o1
          · rename_i n hn
            rw [hs] at o1
            have hv := rep_int hn p1
            exact ⟨m, n, rfl, hv, o1 w1 H1 _ (Le.refl _) s1 (en1.set (.d (.int _)) i)⟩
          · exact o1.elim
      · exact o.elim
  cases op
  case Add => exact gen ip_add fun _ _ => rfl
  case Sub => exact gen ip_sub fun _ _ => rfl
  all_goals cases hop
theorem block_ok {f : Stmt → GS} (hf : ∀ s, PS X s (tSt X.K X.mg W (f s))) : ∀ ss : List Stmt, PSs X ss (tSt X.K X.mg W (blockG f ss))
  | [] => Ss_nil
  | [s] => Ss_one (hf s)
  | s :: s2 :: r => Ss_cons (hf s) (block_ok hf (s2 :: r))
theorem stmt_ok (cx : Ctx X W T c) (po : PassesOwn (model X.prog X.w) X.A X.env X.xe) (m : Nat) {r : Stmt → GS} (hr : ∀ s, PS X s (tSt X.K X.mg W (r s))) (s : Stmt) : PS X s (tSt X.K X.mg W (stmtStep T m c r s)) := by
  have hm := (evs_ok T m).e cx
  have he := hm false
  have ht := (evs_ok T m).t cx
  cases s
  case Pass pos => exact S_pass
  case Break pos => exact S_break
  case Continue pos => exact S_cont
  case Expr e pos =>
    show PS X _ (tSt X.K X.mg W (if isComp e then sBad else sDrop ((evs T m c).e false e)))
    split
    · exact S_bad
    · rename_i h
      refine S_drop (he e) ?_
      cases e <;> first | rfl | (exact absurd rfl h)
  case Return o pos =>
    cases o with
    | none => exact S_retN
    | some e => exact S_ret (hm _ e)
  case If t a b pos => exact S_if (ht t) (block_ok hr a) (block_ok hr b)
  case For tg iter body els pos =>
    show PS X _ (tSt X.K X.mg W (if !els.isEmpty || isSet iter then sBad else sFor (iterG c ((evs T m c).e false) tg iter) (tgG T c ((evs T m c).e false) 4 tg) (blockG r body)))
    split
    · exact S_bad
    · rename_i h
      have h2 := Bool.or_eq_false_iff.mp (Bool.eq_false_iff.mpr h)
      have e1 : els = [] := by
        cases els with
        | nil => rfl
        | cons _ _ => simp at h2
      subst e1
      exact S_for po cx.calm (iter_ok cx he tg iter) (tg_ok cx he 4 tg) (block_ok hr body) fun x => folded_ok h2.2 x
  case While t body els pos =>
    show PS X _ (tSt X.K X.mg W (if !els.isEmpty then sBad else sWhile ((evs T m c).t t) (blockG r body)))
    split
    · exact S_bad
    · rename_i h
      have e1 : els = [] := by
        cases els with
        | nil => rfl
        | cons _ _ => simp at h
      subst e1
      exact S_while po (ht t) (block_ok hr body)
  case Assign ts e pos =>
    show PS X _ (tSt X.K X.mg W (match ts with
      | [tg] => asgS T c (evs T m c).e tg e
      | _ => sBad))
    split
    · exact asg_ok cx _ e pos
    · exact S_bad
  case AugAssign tg op e pos =>
    cases tg
    case Name x p =>
      show PS X _ (tSt X.K X.mg W (match ixSt c x with
        | some i => if augOp op then sAug i op ((evs T m c).e false e) else sBad
        | none => sBad))
      split
      · rename_i i hi
        obtain ⟨b1, b2⟩ := ixSt_ok hi
        obtain ⟨b3, b4⟩ := cx.st x b1
        split
        · rename_i hop; exact S_aug (by rw [cx.N]; exact cx.nd) (by rw [cx.N]; exact b2) b3 b4 (he e) hop
        · exact S_bad
      · exact S_bad
    all_goals exact S_bad
  all_goals exact S_bad
theorem stms_ok (cx : Ctx X W T c) (po : PassesOwn (model X.prog X.w) X.A X.env X.xe) (m : Nat) : ∀ n s, PS X s (tSt X.K X.mg W (stms T m c n s))
  | 0, _ => S_bad
  | n + 1, s => stmt_ok cx po m (stms_ok cx po m n) s
theorem body_ok (cx : Ctx X W T c) (po : PassesOwn (model X.prog X.w) X.A X.env X.xe) (body : List Stmt) : PSs X body (tSt X.K X.mg W (bodyG T c body)) := block_ok (stms_ok cx po 40 40) body
end
end
end Dv
set_option maxRecDepth 100000
set_option maxHeartbeats 1000000
namespace Dv
open PySem PySem.Spec PyProof.Rows L2
noncomputable section
/-! ### defs -/
/-- a def: its name; the frame's names, the parameters ahead (positional, the keyword-only one, the starred one); its text; the names whose lists change -/
structure FD where
  nm : Str
  N : List Str
  ps : List Str
  ko : Option (Str × D)
  va : Option Str
  mu : List Str
  st : Stmt
  own : Bool
def FD.koN (d : FD) : List Str := match d.ko with
  | none => []
  | some p => [p.1]
def FD.vaN (d : FD) : List Str := match d.va with
  | none => []
  | some p => [p]
def FD.all (d : FD) : List Str := d.ps ++ d.koN ++ d.vaN
def locB (sc : Scope) (x : Str) : Bool := match sc.names.lookup x with
  | some .local => true
  | some .cell => true
  | _ => false
def FD.sc (d : FD) (gk : Str → Option GK) (muA : List Str) (rm : Bool) : SC := { N := d.N, sc := defScope d.st, st := locB (defScope d.st), gk := gk, muN := fun x => decide (x ∈ d.mu), muA := fun x => decide (x ∈ muA), rm := rm, own := d.own }
def startD (N : List Str) (ds : List U) : Env := ds.map some ++ List.replicate (N.length - ds.length) none
def endR : RS → R U
  | .nx _ S => .ok (.d .non) S
  | .rt d S => .ok d S
  | .exc c fs _ S => .exc c fs S
  | _ => .bad
def runF (N : List Str) (g : GS) (ds : List U) (S : Store) : R U := endR (g (startD N ds) S)
/-- the keyword-only parameter's value -/
def koU (ko : Option (Str × D)) (ks : List Str) (ws : List U) : Option (List U) := match ko, ks, ws with
  | none, [], [] => some []
  | some p, [], [] => some [.d p.2]
  | some p, [m], [u] => if m = p.1 then some [u] else none
  | _, _, _ => none
/-- what the parameters stand for -/
def bindU (d : FD) (ks : List Str) (us ws : List U) : Option (List U) := (koU d.ko ks ws).bind fun kv => match d.va with
  | none => if us.length = d.ps.length then some (us ++ kv) else none
  | some _ => if d.ps.length ≤ us.length ∧ us.length ≤ 1000 then (datas (us.drop d.ps.length)).map fun ds => us.take d.ps.length ++ kv ++ [.d (.tup ds)] else none
def callF (T : Tab) (gk : Str → Option GK) (muA : List Str) (d : FD) (mu : Bool) (ks : List Str) : FC := fun us ws S => match bindU d ks us ws with
  | some as => cutR mu S (runF d.N (bodyG T (d.sc gk muA mu) (defBody d.st)) as S)
  | none => .bad
/-- the tables beside the calls -/
def Tab.with (T : Tab) (f : Str → Bool → List Str → FC) : Tab := { T with call := f }
def CK (T : Tab) (gk : Str → Option GK) (muA : List Str) (tab : Str → Option FD) : Nat → Str → Bool → List Str → FC
  | 0 => fun _ _ _ _ _ _ => .bad
  | k + 1 => fun q mu ks us ws S => match tab q with
    | some d => callF (T.with (CK T gk muA tab k)) gk muA d mu ks us ws S
    | none => .bad
/-! binding -/
def finE (va : Option Str) (bs : List (Str × Value)) (rest : List Value) : Sem (List (Str × Value)) := match va with
  | none => pure bs
  | some pv => newTuple rest >>= fun t => pure (bs ++ [(pv, t)])
/-- t looks n up in the dict at D and goes on as r -/
def KwEnd {α : Type} (D : Addr) (n : Str) (m : Value) (t r : Sem α) : Prop := ∃ (β γ : Type) (k1 : Option Value → Sem β) (k2 : β → Sem γ) (k3 : γ → Sem α) (a : β), t = ((nsGet D n >>= k1) >>= k2) >>= k3 ∧ k1 (some m) = pure a ∧ (k2 a >>= k3) = r
def BindF (q : Str) (d : FD) : Prop := match d.ko with
  | none => ∀ (kV doc pm : Value) (an : Option Addr) (cdv ct : Value) (us rest : List Value), us.length = d.ps.length → (d.va = none → rest = []) →
      bindArgs (PySem.W.fnOf d.nm q (defArgs d.st) (defBody d.st) (defScope d.st) .none kV doc pm an cdv ct) ⟨us ++ rest, []⟩ = finE d.va (d.ps.zip us) rest
  | some (n, _) => (∀ (D : Addr) (doc pm : Value) (an : Option Addr) (cdv ct m : Value) (us rest : List Value), us.length = d.ps.length → (d.va = none → rest = []) →
      KwEnd D n m (bindArgs (PySem.W.fnOf d.nm q (defArgs d.st) (defBody d.st) (defScope d.st) .none (.ref D) doc pm an cdv ct) ⟨us ++ rest, []⟩) (finE d.va (d.ps.zip us ++ [(n, m)]) rest)) ∧
    (∀ (kV doc pm : Value) (an : Option Addr) (cdv ct m : Value) (us rest : List Value), us.length = d.ps.length → (d.va = none → rest = []) →
      bindArgs (PySem.W.fnOf d.nm q (defArgs d.st) (defBody d.st) (defScope d.st) .none kV doc pm an cdv ct) ⟨us ++ rest, [(n, m)]⟩ = finE d.va (d.ps.zip us ++ [(n, m)]) rest)
structure StatOk (q : Str) (d : FD) : Prop where
  sc : FnScope d.N d.all (defScope d.st)
  bind : BindF q d
/-- the keyword-only default as a value -/
def KoV (K : PySem.W.Frag) (mg : Str → Option Value) (ko : Option (Str × D)) (kws : List (Str × V)) : Prop := match ko with
  | none => kws = []
  | some p => ∃ v, kws = [(p.1, v)] ∧ ∀ w, Rep K mg w p.2 v
/-- where a def stands -/
structure FunAt (K : PySem.W.Frag) (mg : Str → Option Value) (q : Str) (d : FD) (f : Addr) : Prop where
  ex : ∃ fd kws, FunD K d.nm q (defArgs d.st) (defBody d.st) (defScope d.st) [] kws f fd ∧ KoV K mg d.ko kws
  st : StatOk q d
theorem locB_ok {sc : Scope} {x : Str} (h : locB sc x = true) : Loc sc x := by
  unfold locB at h
  split at h <;> first | exact .inl (by assumption) | exact .inr (by assumption) | cases h
theorem RepUs.take {K : PySem.W.Frag} {mg : Str → Option Value} {w : Wd} : ∀ {ds : List U} {vs : List V} (n : Nat), RepUs K mg w ds vs → RepUs K mg w (ds.take n) (vs.take n)
  | _, _, 0, _ => .nil
  | _, _, _ + 1, .nil => .nil
  | _, _, n + 1, .cons h t => .cons h (RepUs.take n t)
theorem RepUs.drop {K : PySem.W.Frag} {mg : Str → Option Value} {w : Wd} : ∀ {ds : List U} {vs : List V} (n : Nat), RepUs K mg w ds vs → RepUs K mg w (ds.drop n) (vs.drop n)
  | _, _, 0, r => r
  | _, _, _ + 1, .nil => .nil
  | _, _, n + 1, .cons _ t => RepUs.drop n t
section
variable {P : Program} {w : World} {K : PySem.W.Frag} {mg : Str → Option Value} {base : Heap}
/-- what the end of binding does: the parameters stand for what bindU says -/
theorem fin_bnd {d : FD} {A : Around} {outer : List PySem.Env} {s : Shared} {H : Hp} {E : XK} {wd : Wd} {S : Store} {us kv as : List U} {vs kvv : List V} {uv kuv : List Value} {Q : List (Str × Value) → Shared → Prop} {A' : Around} {Ex : Value → Shared → Prop}
    (e0 : Env0 P w K mg base A outer s H) (st : Sto K mg wd H S) (p1 : RepUs K mg wd us vs) (p2 : RepUs K mg wd kv kvv) (r : Vals vs uv) (rk : Vals kvv kuv) (hk : kv.length = d.koN.length)
    (hb : (match d.va with
      | none => if us.length = d.ps.length then some (us ++ kv) else none
      | some _ => if d.ps.length ≤ us.length ∧ us.length ≤ 1000 then (datas (us.drop d.ps.length)).map fun ds => us.take d.ps.length ++ kv ++ [.d (.tup ds)] else none) = some as)
    (h : ∀ (s2 : Shared) (H2 : Hp) (vs : List V) (us : List Value), Env0 P w K mg base A outer s2 H2 → Un (frs outer) [] H H2 s.heap s2.heap → s2.os = s.os → (∀ e s', L2.CX P w outer H2 s2 E e s' → L2.CX P w outer H s E e s') → Vals vs us → vs.length = d.all.length →
      (∃ w2, Le wd w2 ∧ Sto K mg w2 H2 S ∧ RepUs K mg w2 as vs) → Q (d.all.zip us) s2) :
    ∃ u1 rest, uv = u1 ++ rest ∧ u1.length = d.ps.length ∧ (d.va = none → rest = []) ∧ wpAny (model P w) A' (finE d.va (d.ps.zip u1 ++ d.koN.zip kuv) rest) Q Ex s := by
  have hkl : kuv.length = d.koN.length := by rw [← rk.length, ← p2.length]; exact hk
  cases hv : d.va with
  | none =>
    rw [hv] at hb
    by_cases hl : us.length = d.ps.length
    · have e : us ++ kv = as := by
        have hb' : (if us.length = d.ps.length then some (us ++ kv) else none) = some as := hb
        rw [if_pos hl] at hb'; exact Option.some.inj hb'
      subst e
      have hu : uv.length = d.ps.length := by rw [← r.length, ← p1.length]; exact hl
      refine ⟨uv, [], by simp, hu, fun _ => rfl, ?_⟩
      show wpAny _ _ (pure (d.ps.zip uv ++ d.koN.zip kuv)) _ _ _
      refine wpAny_pure ?_
      have z := h s H (vs ++ kvv) (uv ++ kuv) e0 Un.refl rfl (fun _ _ z => z) (r.append rk) (by
        unfold FD.all FD.vaN
        rw [hv]
        simp only [List.length_append, List.append_nil]
        rw [← p1.length, ← p2.length, hl, hk]) ⟨wd, Le.refl _, st, p1.append p2⟩
      have e2 : d.all.zip (uv ++ kuv) = d.ps.zip uv ++ d.koN.zip kuv := by
        unfold FD.all FD.vaN
        rw [hv]
        simp only [List.append_nil]
        exact List.zip_append hu.symm
      rw [e2] at z
      exact z
    · have hb' : (if us.length = d.ps.length then some (us ++ kv) else none) = some as := hb
      rw [if_neg hl] at hb'; cases hb'
  | some pv =>
    rw [hv] at hb
    have hb' : (if d.ps.length ≤ us.length ∧ us.length ≤ 1000 then (datas (us.drop d.ps.length)).map fun ds => us.take d.ps.length ++ kv ++ [U.d (.tup ds)] else none) = some as := hb
    by_cases hl : d.ps.length ≤ us.length ∧ us.length ≤ 1000
    · rw [if_pos hl] at hb'
      obtain ⟨ds, h1, h2⟩ := Option.map_eq_some_iff.mp hb'
      have h1 : datas (us.drop d.ps.length) = some ds := h1
      subst h2
      have hu : uv.length = us.length := by rw [← r.length, ← p1.length]
      have hl1 : (uv.take d.ps.length).length = d.ps.length := by rw [List.length_take, hu]; omega
      refine ⟨uv.take d.ps.length, uv.drop d.ps.length, (List.take_append_drop _ _).symm, hl1, fun e => (by cases e), ?_⟩
      show wpAny _ _ (newTuple (uv.drop d.ps.length) >>= fun t => pure ((d.ps.zip (uv.take d.ps.length) ++ d.koN.zip kuv) ++ [(pv, t)])) _ _ _
      have hl2 : (uv.drop d.ps.length).length ≤ sizeLine := by rw [List.length_drop, hu, sizeLine_eq]; omega
      refine wpAny_bind (wpAny_newTuple (wpAny_pure ?_) hl2)
      have hn : H s.heap.objs.size = none := e0.hok.fresh (Nat.le_refl _)
      have r2 : Vals (vs.drop d.ps.length) (uv.drop d.ps.length) := r.drop _
      have new : ObjOk P w (upd H s.heap.objs.size (.tup (vs.drop d.ps.length))) (s.heap.push ({ cls := .type "tuple", data := .seq (uv.drop d.ps.length).toArray } : Obj)) s.heap.objs.size (.tup (vs.drop d.ps.length)) := ⟨by rw [r2.length]; exact hl2, uv.drop d.ps.length, r2, ⟨_, Heap.get?_push_size _ rfl, rfl, _, rfl⟩⟩
      have un := StX.un_laid (fs := frs outer) (s := s) (o := ({ cls := .type "tuple", data := .seq (uv.drop d.ps.length).toArray } : Obj)) (u := .tup (vs.drop d.ps.length)) hn
      have l2 : Le wd (wd.put s.heap.objs.size (.tup (vs.drop d.ps.length))) := Le.put (st.noC hn)
      have rt : Rep K mg (wd.put s.heap.objs.size (.tup (vs.drop d.ps.length))) (.tup ds) (.ref s.heap.objs.size) := .tup (.inl put_at) ((datas_rep h1 (p1.drop _)).mono l2)
      have r1 : Vals (vs.take d.ps.length) (uv.take d.ps.length) := r.take _
      have z := h _ _ (vs.take d.ps.length ++ kvv ++ [V.ref s.heap.objs.size]) (uv.take d.ps.length ++ kuv ++ [Value.ref s.heap.objs.size]) (StX.env0_laid e0 new) un rfl (fun e s' => StX.cxUp outer s H _ _ E e s' un (fun b o q => Heap.get?_push_of_some _ q) rfl) ((r1.append rk).append (.cons rfl .nil))
        (by
          unfold FD.all FD.vaN
          rw [hv]
          simp only [List.length_append, List.length_cons, List.length_nil]
          rw [r1.length, hl1, ← p2.length, hk]) ⟨_, l2, st.put hn, (((p1.take _).mono l2).append (p2.mono l2)).append (.cons (.d rt) .nil)⟩
      have e2 : d.all.zip (uv.take d.ps.length ++ kuv ++ [Value.ref s.heap.objs.size]) = (d.ps.zip (uv.take d.ps.length) ++ d.koN.zip kuv) ++ [(pv, Value.ref s.heap.objs.size)] := by
        unfold FD.all FD.vaN
        rw [hv]
        rw [List.zip_append (by simp [hl1, hkl]), List.zip_append hl1.symm]
        rfl
      rw [e2] at z
      exact z
    · rw [if_neg hl] at hb'; cases hb'
theorem KwEnd.run {α : Type} {Da : Addr} {n : Str} {m : Value} {t r : Sem α} (h : KwEnd Da n m t r) {M : Model} {A : Around} {s : Shared} (X : K.In s.heap) (hq : PySem.W.nsIn K Da n = some (some m)) {Q : α → Shared → Prop} {E : Value → Shared → Prop} (q : wpAny M A r Q E s) : wpAny M A t Q E s := by
  obtain ⟨β, γ, k1, k2, k3, a, e1, e2, e3⟩ := h
  have l1 : PySem.W.Looks M s.heap (nsGet Da n >>= k1) a := (PySem.W.looks_nsIn X hq).andThen (PySem.W.Looks.of_pure e2)
  rw [e1, bind_assoc]
  refine wpAny_bind (l1.here ?_)
  rw [e3]
  exact q
theorem koU_none {ks : List Str} {ws kv : List U} (h : koU none ks ws = some kv) : ks = [] ∧ ws = [] ∧ kv = [] := by
  cases ks with
  | nil => cases ws with
    | nil => cases h; exact ⟨rfl, rfl, rfl⟩
    | cons _ _ => cases h
  | cons _ ks => cases ks <;> cases ws <;> cases h
theorem koU_some {p : Str × D} {ks : List Str} {ws kv : List U} (h : koU (some p) ks ws = some kv) : (ks = [] ∧ ws = [] ∧ kv = [.d p.2]) ∨ ∃ u, ks = [p.1] ∧ ws = [u] ∧ kv = [u] := by
  cases ks with
  | nil => cases ws with
    | nil => cases h; exact .inl ⟨rfl, rfl, rfl⟩
    | cons _ _ => cases h
  | cons m ks => cases ks with
    | cons _ _ => cases ws <;> cases h
    | nil => cases ws with
      | nil => cases h
      | cons u ws => cases ws with
        | cons _ _ => cases h
        | nil =>
          have h' : (if m = p.1 then some [u] else none) = some kv := h
          split at h'
          · rename_i e; subst e; cases h'; exact .inr ⟨u, rfl, rfl, rfl⟩
          · cases h'
/-- a def's call -/
theorem cal_of {T : Tab} {gk : Str → Option GK} {muA : List Str} {q : Str} {d : FD} {f : Addr} {k : Nat} (F : FunAt K mg q d f) (mu : Bool) (ks : List Str)
    (hbody : ∀ (cdv : Value) (A : Around) (outer : List PySem.Env) (s : Shared) (H : Hp) (E : XK), Room k (A.deeper (envOfC q (defScope d.st) s.heap.objs.size f cdv)) →
      GkOk (cxOf (L2.CX P w) P w K mg base d.N q (defScope d.st) f cdv A outer s H E) T gk ∧ TabOk (cxOf (L2.CX P w) P w K mg base d.N q (defScope d.st) f cdv A outer s H E) T) :
    CalOk P w K mg base (k + 1) f ks (callF T gk muA d mu ks) := by
  refine ⟨fun A outer s H us ws vs zs Q E hr e0 r rz hl ⟨wd, S, us', ws', st, p1, p2, o⟩ => ?_⟩
  obtain ⟨fd, kws, FD', kov⟩ := F.ex
  obtain ⟨oc, od, dV, kV, doc, pm, an, cdv, ct, osl, rfl, lk, hcd, hD, hK⟩ := FD'.ex
  have KX : K.In s.heap := e0.mod.kin.keeps fun b o e => (e0.bs b o e).1
  have hdV : dV = .none := by
    rcases hD with ⟨_, e⟩ | ⟨e, _⟩
    · exact e
    · exact absurd rfl e
  subst hdV
  unfold callF at o
  cases hb : bindU d ks us' ws' with
  | none => rw [hb] at o; exact o.elim
  | some as =>
    rw [hb] at o
    have o1 := cutR_out st o
    refine StX.run_bnd lk hcd F.st.sc hr e0 (G := fun xs H2 => ∃ w2, Le wd w2 ∧ Sto K mg w2 H2 S ∧ RepUs K mg w2 as xs) (fun A' Ex Q' h => ?_) fun s2 H2 xs ⟨w2, l2, st2, rx⟩ hr' => ?_
    · -- the binding
      obtain ⟨kv, hkv, hb2⟩ := Option.bind_eq_some_iff.mp hb
      have bf := F.st.bind
      unfold BindF at bf
      have hkoN : d.koN = (match d.ko with
        | none => []
        | some p => [p.1]) := rfl
      cases hko : d.ko with
      | none =>
        rw [hko] at bf hkv
        obtain ⟨rfl, rfl, rfl⟩ := koU_none hkv
        cases p2
        cases rz
        obtain ⟨u1, rest, e1, l1, hr1, hw⟩ := fin_bnd (A' := A') (Ex := Ex) (kuv := []) e0 st p1 .nil r .nil (by rw [hkoN, hko]; rfl) hb2 h
        subst e1
        rw [hkoN, hko] at hw
        have z := bf kV doc pm an cdv ct u1 rest l1 hr1
        show wpAny _ _ (bindArgs _ ⟨u1 ++ rest, []⟩) _ _ _
        rw [z]
        simpa using hw
      | some p =>
        rw [hko] at bf hkv
        obtain ⟨pn, pd⟩ := p
        obtain ⟨bf0, bf1⟩ := bf
        have kov' : ∃ v, kws = [(pn, v)] ∧ ∀ w, Rep K mg w pd v := by
          unfold KoV at kov
          rw [hko] at kov
          exact kov
        obtain ⟨v, rfl, rv⟩ := kov'
        rcases koU_some hkv with ⟨rfl, rfl, rfl⟩ | ⟨u', rfl, rfl, rfl⟩
        · cases p2
          cases rz
          rcases hK with e | ⟨Da, rfl, hq⟩
          · cases e
          · obtain ⟨m, hm, rm⟩ := hq (pn, v) List.mem_cons_self
            obtain ⟨u1, rest, e1, l1, hr1, hw⟩ := fin_bnd (A' := A') (Ex := Ex) (kuv := [m]) (kvv := [v]) e0 st p1 (.cons (.d (rv wd)) .nil) r (.cons rm .nil) (by rw [hkoN, hko]; rfl) hb2 h
            subst e1
            rw [hkoN, hko] at hw
            show wpAny _ _ (bindArgs _ ⟨u1 ++ rest, []⟩) _ _ _
            exact (bf0 Da doc pm an cdv ct m u1 rest l1 hr1).run KX hm hw
        · cases p2 with
          | cons pu pt =>
            cases pt
            cases rz with
            | cons ru rt =>
              cases rt
              rename_i u0
              obtain ⟨u1, rest, e1, l1, hr1, hw⟩ := fin_bnd (A' := A') (Ex := Ex) (kuv := [u0]) e0 st p1 (.cons pu .nil) r (.cons ru .nil) (by rw [hkoN, hko]; rfl) hb2 h
              subst e1
              rw [hkoN, hko] at hw
              show wpAny _ _ (bindArgs _ ⟨u1 ++ rest, [(pn, u0)]⟩) _ _ _
              rw [bf1 kV doc pm an cdv ct u0 u1 rest l1 hr1]
              exact hw
    · -- the body
      obtain ⟨g1, g2⟩ := hbody cdv A outer s2 H2 E hr'
      have cx : Ctx (cxOf (L2.CX P w) P w K mg base d.N q (defScope d.st) f cdv A outer s2 H2 E) (fun cls dd _ H' => E cls dd H') T (d.sc gk muA mu) := by
        refine ⟨rfl, F.st.sc.nd, rfl, fun y hy => ⟨locB_ok hy, .inl rfl⟩, rfl, g1, g2, takes_of rfl rfl rfl rfl, ?_⟩
        have := hr'.un
        show (A.deeper _).units + 65 < cLine
        omega
      refine ⟨_, body_ok cx (passes_of rfl) (defBody d.st), w2, S, startD d.N as, st2, ?_, ?_⟩
      · have e := EnvOk.start (n := d.N.length - as.length) rx
        unfold startD L2.start
        rw [← rx.length]
        exact e
      · have o2 : Out K mg (RepU K mg) (fun cls dd _ H' => E cls dd H') [] w2 H2 (endR (bodyG T (d.sc gk muA mu) (defBody d.st) (startD d.N as) S)) Q := o1.mono l2
        show OutS K mg (fun cls dd _ H' => E cls dd H') w2 H2 (bodyG T (d.sc gk muA mu) (defBody d.st) (startD d.N as) S) { nx := fun _ H' => Q .non H', rt := Q }
        cases q3 : bodyG T (d.sc gk muA mu) (defBody d.st) (startD d.N as) S with
        | nx ρ' S' => rw [q3] at o2; exact fun w' H' σ' l1 s1 _ => o2 w' H' .non l1 s1 (.d .non)
        | rt d' S' => rw [q3] at o2; exact o2
        | exc c fs ρ' S' => rw [q3] at o2; exact fun w' H' σ' cls dd l1 s1 _ p1 => o2 w' H' cls dd l1 s1 p1
        | bk ρ' S' => rw [q3] at o2; exact o2.elim
        | ct ρ' S' => rw [q3] at o2; exact o2.elim
        | bad => rw [q3] at o2; exact o2.elim
end
end
end Dv
set_option maxRecDepth 100000
set_option maxHeartbeats 1000000
namespace Dv
open PySem PySem.Spec PyProof.Rows L2
noncomputable section
/-! ### the program, as it stands behind the top -/
structure Prog (K : PySem.W.Frag) (mg : Str → Option Value) (T : Tab) (gk : Str → Option GK) (tab : Str → Option FD) : Prop where
  cst : ∀ x d, gk x = some (.cst d) → ∃ u v, mg x = some u ∧ RelV v u ∧ ∀ w, Rep K mg w d v
  fn : ∀ x q, gk x = some (.fn q) → ∃ f d, mg x = some (.ref f) ∧ PySem.W.keepIn K (.ref f) = true ∧ tab q = some d ∧ FunAt K mg q d f
  gcls : ∀ x, gk x = some .cls → ∃ C, mg x = some (.ref C)
  bf : ∀ x b, gk x = some (.bf b) → mg x = none ∧ bootBuiltins x = some (.builtin b.id) ∧ x ≠ "__name__"
  ty : ∀ x b, gk x = some (.ty b) → mg x = none ∧ bootBuiltins x = some (.type b.id) ∧ x ≠ "__name__"
  it : ∀ x i, gk x = some (.it i) → mg x = none ∧ x = i.name
  kit : KitOk K mg T.kit
  mth : ∀ c m q, T.mth c m = some q → ∀ C, mg c = some (.ref C) → Cls K C ∧ ∃ f d, Meth K C m f ∧ tab q = some d ∧ FunAt K mg q d f
  prp : ∀ c f q, T.prp c f = some q → ∀ C, mg c = some (.ref C) → Cls K C ∧ ∃ p g d, PropOf K C f p g ∧ tab q = some d ∧ FunAt K mg q d g
  fld : ∀ c f, T.fld c f = true → ∀ C, mg c = some (.ref C) → Cls K C ∧ NoAttr K C f
  con : ∀ c f d, T.con c f = some d → ∀ C, mg c = some (.ref C) → Cls K C ∧ ∃ v u, Con K C f v u ∧ ∀ w, Rep K mg w d v
  ccon : ∀ c f d, T.ccon c f = some d → ∀ C, mg c = some (.ref C) → ∃ mc v u, ClX.CRead K C mc ∧ ClX.CVal K C mc f v u ∧ ∀ w, Rep K mg w d v
  stt : ∀ c m q, T.stt c m = some q → ∀ C, mg c = some (.ref C) → ∃ mc p g d, ClX.CRead K C mc ∧ CStat K C mc m p g ∧ tab q = some d ∧ FunAt K mg q d g
  cls : ∀ c q b, T.cls c = some (q, b) → ∃ C f d, mg c = some (.ref C) ∧ Mk K C f ∧ tab q = some d ∧ FunAt K mg q d f
  nf : ∀ c t, T.nf c t = true → ∀ C, mg c = some (.ref C) → (∀ tv, TyV mg t tv → PySem.W.notFirst K C tv = true) ∧ ∀ c', t = .c c' → ∀ C', mg c' = some (.ref C') → ClsF K C'
  neq : ∀ c, T.neq c = true → ∀ C, mg c = some (.ref C) → PySem.W.findIn K (.ref C) "__ne__" = some (some (.builtin "object.__ne__")) ∧ PySem.W.mroIn K C (.type "object") = some true
  sf : ∀ c, T.sf c = true → ∀ C, mg c = some (.ref C) → PySem.W.selfFirst K C = true
theorem ck_ok {P : Program} {w : World} {K : PySem.W.Frag} {mg : Str → Option Value} {base : Heap} {T : Tab} {gk : Str → Option GK} {muA : List Str} {tab : Str → Option FD} (Pr : Prog K mg T gk tab) : ∀ (k : Nat) (q : Str) (d : FD) (f : Addr), tab q = some d → FunAt K mg q d f → ∀ mu ks, CalOk P w K mg base (2 * k) f ks (CK T gk muA tab k q mu ks)
  | 0, q, d, f, _, _, mu, ks => ⟨fun _ _ _ _ _ _ _ _ _ _ _ _ _ _ _ ⟨_, _, _, _, _, _, _, o⟩ => o.elim⟩
  | k + 1, q, d, f, hd, F, mu, ks => by
    have e : CK T gk muA tab (k + 1) q mu ks = callF (T.with (CK T gk muA tab k)) gk muA d mu ks := by
      funext us ws S
      show (match tab q with
        | some d => callF (T.with (CK T gk muA tab k)) gk muA d mu ks us ws S
        | none => .bad) = _
      rw [hd]
    rw [e]
    refine cal_of (k := 2 * k + 1) F mu ks fun cdv A outer s H E hr => ?_
    have dk : ∀ {j : Nat} {q' : Str} {d' : FD} {f' : Addr}, j ≤ 1 → tab q' = some d' → FunAt K mg q' d' f' → DefOk (cxOf (L2.CX P w) P w K mg base d.N q (defScope d.st) f cdv A outer s H E) (T.with (CK T gk muA tab k)) j q' f' := fun {j q' d' f'} hj h1 h2 =>
      ⟨2 * k, hr.mono (by omega), fun mu ks => ck_ok Pr k q' d' f' h1 h2 mu ks⟩
    refine ⟨⟨Pr.cst, fun x q' hx => ?_, Pr.gcls, Pr.bf, Pr.ty, Pr.it⟩, ⟨Pr.kit, fun c m q' hx C hC => ?_, fun c m q' hx C hC => ?_, Pr.fld, Pr.con, Pr.ccon, fun c m q' hx C hC => ?_, fun c q' b hx => ?_, Pr.nf, Pr.neq, Pr.sf⟩⟩
    · obtain ⟨f', d', h1, h2, h3, h4⟩ := Pr.fn x q' hx
      exact ⟨f', h1, h2, dk (Nat.zero_le _) h3 h4⟩
    · obtain ⟨h0, f', d', h1, h3, h4⟩ := Pr.mth c m q' hx C hC
      exact ⟨h0, f', h1, dk (Nat.le_refl _) h3 h4⟩
    · obtain ⟨h0, p', g', d', h1, h3, h4⟩ := Pr.prp c m q' hx C hC
      exact ⟨h0, p', g', h1, dk (Nat.le_refl _) h3 h4⟩
    · obtain ⟨mc, p', g', d', h0, h1, h3, h4⟩ := Pr.stt c m q' hx C hC
      exact ⟨mc, p', g', h0, h1, dk (Nat.zero_le _) h3 h4⟩
    · obtain ⟨C, f', d', h1, h2, h3, h4⟩ := Pr.cls c q' b hx
      exact ⟨C, f', h1, h2, dk (Nat.le_refl _) h3 h4⟩
/-! ### the facts behind the top -/
inductive Pl where
  | fn (x : Str)
  | mt (c m : Str)
  | pg (c f : Str)
  | sm (c m : Str)
def plA (K : PySem.W.Frag) : Pl → Addr
  | .fn x => He.ga K x
  | .mt c m => He.ma K (He.ga K c) m
  | .pg c f => match PySem.W.recIn K (He.ma K (He.ga K c) f) "property" with
    | some (.ref g :: _) => g
    | _ => 0
  | .sm c m => match PySem.W.recIn K (He.ma K (He.ga K c) m) "staticmethod" with
    | some (.ref g :: _) => g
    | _ => 0
/-- what is known of isinstance: by a class's name (own: left) -/
inductive KN where
  | b (n : String)
  | c (x : Str)
  deriving DecidableEq
/-- a class: its methods, properties, attributes, constants, constants read from the class; its __init__ and whether instances change -/
structure CI where
  mt : List (Str × Str) := []
  pr : List (Str × Str) := []
  fl : List Str := []
  co : List (Str × D) := []
  cc : List (Str × D) := []
  sm : List (Str × Str) := []
  ini : Option (Str × Bool) := none
  nf : List KN := []
  neq : Bool := false
  sf : Bool := false
abbrev FnL := List (Str × Pl × FD)
abbrev GkL := List (Str × GK)
abbrev ClL := List (Str × CI)
abbrev KiL := List ((KN × KN) × Bool)
def tyN : TyD → KN
  | .b n => .b n
  | .c x => .c x
def clN : D → Option KN
  | .ty t => some (.b t)
  | .gl x => some (.c x)
  | _ => none
def kiLook (a b : KN) : KiL → Option Bool
  | [] => none
  | ((x, y), r) :: l => if x = a ∧ y = b then some r else kiLook a b l
def kitOf (ki : KiL) : KitT := fun t d => (clN d).bind fun y => kiLook (tyN t) y ki
def tab0 (ki : KiL) (cl : ClL) : Tab where
  kit := kitOf ki
  mth := fun c m => (cl.lookup c).bind fun i => i.mt.lookup m
  prp := fun c m => (cl.lookup c).bind fun i => i.pr.lookup m
  fld := fun c f => match cl.lookup c with
    | some i => i.fl.contains f
    | none => false
  con := fun c m => (cl.lookup c).bind fun i => i.co.lookup m
  ccon := fun c m => (cl.lookup c).bind fun i => i.cc.lookup m
  stt := fun c m => (cl.lookup c).bind fun i => i.sm.lookup m
  cls := fun c => (cl.lookup c).bind fun i => i.ini
  nf := fun c t => match cl.lookup c with
    | some i => i.nf.any fun n => decide (n = tyN t)
    | none => false
  neq := fun c => match cl.lookup c with
    | some i => i.neq
    | none => false
  sf := fun c => match cl.lookup c with
    | some i => i.sf
    | none => false
  call := fun _ _ _ _ _ _ => .bad
def tabF (fnL : FnL) (q : Str) : Option FD := (fnL.lookup q).map fun p => p.2
/-- a written value -/
def repB (K : PySem.W.Frag) : Nat → D → Value → Bool
  | _, .non, .none => true
  | _, .bl b, .bool c => b == c
  | _, .int i, .int j _ => decide (i = j)
  | _, .str x, .str y _ => decide (x = y) && strGood x
  | n + 1, .tup ds, .ref a => (match K.lookup a with
    | some ⟨.type c, _, .seq its _, _⟩ => decide (c = "tuple") && (decide (its.size ≤ sizeLine) && (decide (ds.length = its.toList.length) && (ds.zip its.toList).all fun p => repB K n p.1 p.2))
    | _ => false)
  | _, _, _ => false
theorem repB_ok {K : PySem.W.Frag} {mg : Str → Option Value} : ∀ (n : Nat) (d : D) (u : Value), repB K n d u = true → ∃ v, RelV v u ∧ ∀ w, Rep K mg w d v
  | n, .non, u, h => by
    cases u with
    | none => exact ⟨.non, rfl, fun _ => .non⟩
    | _ => cases n <;> cases h
  | n, .bl b, u, h => by
    cases u with
    | bool c =>
      have e : b = c := by cases n <;> exact eq_of_beq h
      subst e
      exact ⟨.bl b, rfl, fun _ => .bl b⟩
    | _ => cases n <;> cases h
  | n, .int b, u, h => by
    cases u with
    | int c t =>
      have e : b = c := by cases n <;> exact of_decide_eq_true h
      subst e
      exact ⟨.int b, ⟨t, rfl⟩, fun _ => .int b⟩
    | _ => cases n <;> cases h
  | n, .str b, u, h => by
    cases u with
    | str c t =>
      have h' : (decide (b = c) && strGood b) = true := by cases n <;> exact h
      rw [Bool.and_eq_true] at h'
      have e : b = c := of_decide_eq_true h'.1
      subst e
      exact ⟨.str b, ⟨t, rfl⟩, fun w => strGood_ok h'.2 w⟩
    | _ => cases n <;> cases h
  | 0, .tup ds, u, h => by cases u <;> cases h
  | n + 1, .tup ds, u, h => by
    cases u with
    | ref a =>
      have h' : (match K.lookup a with
        | some ⟨.type c, _, .seq its _, _⟩ => decide (c = "tuple") && (decide (its.size ≤ sizeLine) && (decide (ds.length = its.toList.length) && (ds.zip its.toList).all fun p => repB K n p.1 p.2))
        | _ => false) = true := h
      split at h'
      · rename_i c od its m sl q
        rw [Bool.and_eq_true, Bool.and_eq_true, Bool.and_eq_true] at h'
        obtain ⟨h1, h2, h3, h4⟩ := h'
        have aux : ∀ (ds : List D) (us : List Value), ds.length = us.length → ((ds.zip us).all fun p => repB K n p.1 p.2) = true → ∃ vs, Vals vs us ∧ ∀ w, Reps K mg w ds vs := by
          intro ds
          induction ds with
          | nil =>
            intro us hl _
            have : us = [] := List.eq_nil_of_length_eq_zero hl.symm
            subst this
            exact ⟨[], .nil, fun _ => .nil⟩
          | cons d ds ih =>
            intro us hl ha
            cases us with
            | nil => simp at hl
            | cons u us =>
              rw [List.zip_cons_cons, List.all_cons, Bool.and_eq_true] at ha
              obtain ⟨v, r1, r2⟩ := repB_ok n d u ha.1
              obtain ⟨vs, q1, q2⟩ := ih us (by simpa using hl) ha.2
              exact ⟨v :: vs, .cons r1 q1, fun w => .cons (r2 w) (q2 w)⟩
        obtain ⟨vs, q1, q2⟩ := aux ds its.toList (of_decide_eq_true h3) h4
        exact ⟨.ref a, rfl, fun w => .tup (.inr ⟨_, its, m, q, congrArg Value.type (of_decide_eq_true h1), rfl, of_decide_eq_true h2, q1⟩) (q2 w)⟩
      · cases h'
    | _ => cases h
  | n, .ty _, u, h => by cases n <;> cases u <;> cases h
  | n, .gl _, u, h => by cases n <;> cases u <;> cases h
  | n, .fl _, u, h => by cases n <;> cases u <;> cases h
  | n, .lst _, u, h => by cases n <;> cases u <;> cases h
  | n, .dct _, u, h => by cases n <;> cases u <;> cases h
  | n, .ins _ _, u, h => by cases n <;> cases u <;> cases h
/-- the keyword-only default -/
def koB (K : PySem.W.Frag) (kV : Value) : Option (Str × D) → Bool
  | none => true
  | some p => match kV with
    | .ref Da => (match PySem.W.nsIn K Da p.1 with
      | some (some u) => repB K 8 p.2 u
      | _ => false)
    | _ => false
def fnWa (K : PySem.W.Frag) (a : Addr) : He.FnW := match K.lookup a with
  | some ⟨_, _, .func fd, _⟩ => some (fd.name, fd.qualname, fd.params, fd.body, fd.scope, fd.globals, fd.closure, fd.builtins)
  | _ => none
def fnVal (q : Str) (d : FD) : He.FnW := some (d.nm, q, defArgs d.st, .stmts (defBody d.st), defScope d.st, mainGlobals, [], builtinsNs)
def fnOkB (K : PySem.W.Frag) (a : Addr) (q : Str) (d : FD) : Bool := PySem.W.keepIn K (.ref a) && (match K.lookup a with
  | some ⟨_, _, .func fd, _⟩ => PySem.W.codeIn K fd.code q && (He.dflB K fd.defaults [] && koB K fd.kwdefaults d.ko)
  | _ => false)
theorem fun_at {K : PySem.W.Frag} {mg : Str → Option Value} {a : Addr} {q : Str} {d : FD} (e : fnWa K a = fnVal q d) (c : fnOkB K a q d = true) (st : StatOk q d) : FunAt K mg q d a := by
  obtain ⟨kp, c2⟩ := He.ba c
  unfold fnWa at e
  cases hq : K.lookup a with
  | none =>
    rw [hq] at c2
    cases c2
  | some o =>
    obtain ⟨oc, od, dt, osl⟩ := o
    rw [hq] at c2 e
    cases dt with
    | func fd =>
      obtain ⟨n1, n2, n3, n4, n5, n6, n7, n8, n9, n10, n11, n12, n13, n14, n15⟩ := fd
      have e2 : (some (n1, n2, n3, n4, n5, n6, n7, n15) : He.FnW) = some (d.nm, q, defArgs d.st, .stmts (defBody d.st), defScope d.st, mainGlobals, [], builtinsNs) := e
      simp only [Option.some.injEq, Prod.mk.injEq] at e2
      obtain ⟨h1, h2, h3, h4, h5, h6, h7, h8⟩ := e2
      subst h1 h2 h3 h4 h5 h6 h7 h8
      have c3 : (PySem.W.codeIn K n13 n2 && (He.dflB K n8 [] && koB K n9 d.ko)) = true := c2
      obtain ⟨k1, k2⟩ := He.ba c3
      obtain ⟨k3, k4⟩ := He.ba k2
      have hk : ∃ kws, KwdV K n9 kws ∧ KoV K mg d.ko kws := by
        cases hko : d.ko with
        | none => exact ⟨[], .inl rfl, rfl⟩
        | some p =>
          rw [hko] at k4
          cases n9 with
          | ref Da =>
            have k5 : (match PySem.W.nsIn K Da p.1 with
              | some (some u) => repB K 8 p.2 u
              | _ => false) = true := k4
            split at k5
            · rename_i u hu
              obtain ⟨v, r1, r2⟩ := repB_ok (mg := mg) 8 _ _ k5
              exact ⟨[(p.1, v)], .inr ⟨Da, rfl, fun z hz => by
                have : z = (p.1, v) := by simpa using hz
                subst this
                exact ⟨u, hu, r1⟩⟩, v, rfl, r2⟩
            · cases k5
          | _ => cases k4
      obtain ⟨kws, k6, k7⟩ := hk
      exact ⟨⟨_, kws, ⟨⟨oc, od, n8, n9, n10, n11, n12, n13, n14, osl, rfl, hq, k1, He.dflB_ok k3, k6⟩, kp⟩, k7⟩, st⟩
    | _ => cases c2
/-! the checks -/
def eqA (a b : Addr) : Bool := decide (a = b)
def gkB (K : PySem.W.Frag) (fnL : FnL) (x : Str) : GK → Bool
  | .cst d => (match PySem.W.nsIn K mainGlobals x with
    | some (some u) => repB K 8 d u
    | _ => false)
  | .fn q => (match fnL.lookup q with
    | some (p, _) => (He.Fa.glo x).ok K && (PySem.W.keepIn K (.ref (He.ga K x)) && eqA (plA K p) (He.ga K x))
    | none => false)
  | .cls => (He.Fa.glo x).ok K
  | .bf b => He.eqO (PySem.W.nsIn K mainGlobals x) (some none) && (decide (bootBuiltins x = some (.builtin b.id)) && decide (x ≠ "__name__"))
  | .ty b => He.eqO (PySem.W.nsIn K mainGlobals x) (some none) && (decide (bootBuiltins x = some (.type b.id)) && decide (x ≠ "__name__"))
  | .it i => He.eqO (PySem.W.nsIn K mainGlobals x) (some none) && decide (x = i.name)
def mtB (K : PySem.W.Frag) (fnL : FnL) (c m q : Str) : Bool := match fnL.lookup q with
  | some (p, _) => (He.Fa.cls c).ok K && ((He.Fa.meth c m).ok K && eqA (plA K p) (He.ma K (He.ga K c) m))
  | none => false
def prB (K : PySem.W.Frag) (fnL : FnL) (c f q : Str) : Bool := match fnL.lookup q with
  | some (p, _) => (He.Fa.cls c).ok K && (He.eqO (PySem.W.findIn K (.ref (He.ga K c)) f) (some (some (.ref (He.ma K (He.ga K c) f)))) &&
      (He.eqO (PySem.W.specialIn K (.ref (He.ma K (He.ga K c) f)) "__get__") (some (some (.builtin "property.__get__"))) && (decide (PySem.W.takesIn K (.ref (He.ma K (He.ga K c) f)) = some true) &&
        (match PySem.W.recIn K (He.ma K (He.ga K c) f) "property" with
          | some (.ref g :: _) => eqA (plA K p) g
          | _ => false))))
  | none => false
def flB (K : PySem.W.Frag) (c f : Str) : Bool := (He.Fa.cls c).ok K && (He.Fa.noat c f).ok K
def coB (K : PySem.W.Frag) (c f : Str) (d : D) : Bool := (He.Fa.cls c).ok K && (match PySem.W.findIn K (.ref (He.ga K c)) f with
  | some (some u) => repB K 8 d u && (He.eqO (PySem.W.specialIn K u "__get__") (some none) && !PySem.W.copiedNames.contains f)
  | _ => false)
def mkB (K : PySem.W.Frag) (fnL : FnL) (c q : Str) : Bool := match fnL.lookup q with
  | some (p, _) => (He.Fa.mkr c).ok K && eqA (plA K p) (He.ma K (He.ga K c) "__init__")
  | none => false
def crdB (K : PySem.W.Frag) (c : Str) : Bool := PySem.W.readsIn K (He.ga K c) (.type "type") && He.eqO (PySem.W.specialIn K (.ref (He.ga K c)) "__getattribute__") (some (some (.builtin "type.__getattribute__")))
def ccB (K : PySem.W.Frag) (c f : Str) (d : D) : Bool := crdB K c && (match PySem.W.findCls K (.ref (He.ga K c)) (.type "type") f with
  | some (.val u) => repB K 8 d u
  | _ => false)
def smB (K : PySem.W.Frag) (fnL : FnL) (c m q : Str) : Bool := match fnL.lookup q with
  | some (p, _) => crdB K c && ((match PySem.W.findCls K (.ref (He.ga K c)) (.type "type") m with
    | some (.get (.builtin g) (.ref a) .none (.ref b)) => decide (g = "staticmethod.__get__") && (eqA a (He.ma K (He.ga K c) m) && eqA b (He.ga K c))
    | _ => false) && ((match PySem.W.recIn K (He.ma K (He.ga K c) m) "staticmethod" with
    | some (.ref g :: _) => eqA (plA K p) g
    | _ => false) && PySem.W.keepIn K (.ref (plA K p))))
  | none => false
theorem crd_ok {K : PySem.W.Frag} {c : Str} (h : crdB K c = true) : ClX.CRead K (He.ga K c) (.type "type") := by
  obtain ⟨h1, h2⟩ := He.ba h
  exact ⟨h1, He.eqO_ok h2⟩
theorem sm_ok {K : PySem.W.Frag} {fnL : FnL} {c m q : Str} (h : smB K fnL c m q = true) : ∃ p d, fnL.lookup q = some (p, d) ∧ ClX.CRead K (He.ga K c) (.type "type") ∧ CStat K (He.ga K c) (.type "type") m (He.ma K (He.ga K c) m) (plA K p) := by
  unfold smB at h
  split at h
  · rename_i p d e
    obtain ⟨n1, n2⟩ := He.ba h
    obtain ⟨n3, n4⟩ := He.ba n2
    obtain ⟨n5, n6⟩ := He.ba n4
    refine ⟨p, d, e, crd_ok n1, ?_, ?_, n6⟩
    · clear n5
      split at n3
      · rename_i g a b ef
        obtain ⟨m1, m2⟩ := He.ba n3
        obtain ⟨m3, m4⟩ := He.ba m2
        rw [ef, of_decide_eq_true m1, show a = _ from of_decide_eq_true m3, show b = _ from of_decide_eq_true m4]
      · cases n3
    · clear n3
      split at n5
      · rename_i g r er
        rw [show plA K p = g from of_decide_eq_true n5]
        exact ⟨r, er⟩
      · cases n5
  · cases h
def clB (K : PySem.W.Frag) (fnL : FnL) (c : Str) (i : CI) : Bool := (He.Fa.glo c).ok K && ((i.mt.all fun p => mtB K fnL c p.1 p.2) && ((i.pr.all fun p => prB K fnL c p.1 p.2) && ((i.fl.all fun f => flB K c f) && ((i.co.all fun p => coB K c p.1 p.2) && ((i.cc.all fun p => ccB K c p.1 p.2) && ((i.sm.all fun p => smB K fnL c p.1 p.2) && (match i.ini with
  | some (q, _) => mkB K fnL c q
  | none => true)))))))
def knV (K : PySem.W.Frag) : KN → Value
  | .b n => .type n
  | .c x => .ref (He.ga K x)
def knB (K : PySem.W.Frag) : KN → Bool
  | .b _ => true
  | .c x => (He.Fa.glo x).ok K
def clsFB (K : PySem.W.Frag) : KN → Bool
  | .b _ => true
  | .c x => (He.Fa.cls x).ok K && (He.eqO (PySem.W.findIn K (.ref (He.ga K x)) "__class__") (some (some (.builtin "object.__class__"))) && (He.eqO (PySem.W.specialIn K (.builtin "object.__class__") "__get__") (some (some (.builtin "getset_descriptor.__get__"))) &&
      (decide (PySem.W.takesIn K (.builtin "object.__class__") = some true) && decide (PySem.W.mroIn K (He.ga K x) (.type "object") = some true))))
def kiB (K : PySem.W.Frag) (p : (KN × KN) × Bool) : Bool := knB K p.1.1 && (knB K p.1.2 && (clsFB K p.1.1 && decide (PySem.W.kitOne K (knV K p.1.1) (knV K p.1.2) = some p.2)))
def clB2 (K : PySem.W.Frag) (c : Str) (i : CI) : Bool := (He.Fa.glo c).ok K && ((i.nf.all fun n => knB K n && (clsFB K n && PySem.W.notFirst K (He.ga K c) (knV K n))) &&
  ((!i.neq || (He.eqO (PySem.W.findIn K (.ref (He.ga K c)) "__ne__") (some (some (.builtin "object.__ne__"))) && decide (PySem.W.mroIn K (He.ga K c) (.type "object") = some true))) && (!i.sf || PySem.W.selfFirst K (He.ga K c))))
def chkB (fnL : FnL) (gkL : GkL) (cl : ClL) (ki : KiL) (K : PySem.W.Frag) : Bool := (gkL.all fun p => gkB K fnL p.1 p.2) && ((cl.all fun p => clB K fnL p.1 p.2) && ((ki.all fun p => kiB K p) && ((fnL.all fun p => fnOkB K (plA K p.2.1) p.1 p.2.2) && cl.all fun p => clB2 K p.1 p.2)))
def obsX (fnL : FnL) (gkL : GkL) (cl : ClL) (ki : KiL) (K : PySem.W.Frag) : He.AlD := (chkB fnL gkL cl ki K, fnL.map fun p => fnWa K (plA K p.2.1))
def valX (fnL : FnL) : He.AlD := (true, fnL.map fun p => fnVal p.1 p.2.2)
def SaysX (fnL : FnL) (gkL : GkL) (cl : ClL) (ki : KiL) (K : PySem.W.Frag) : Prop := obsX fnL gkL cl ki K = valX fnL
def obsXG (n : Nat) (fnL : FnL) (gkL : GkL) (cl : ClL) (ki : KiL) (g : Addr → Option Obj) : He.AlD := obsX fnL gkL cl ki (He.frG g (He.asD g n ++ [cStatics]))
def hookX (n : Nat) (fnL : FnL) (gkL : GkL) (cl : ClL) (ki : KiL) : PySem.W.Hook where
  α := He.AlD
  obs := fun s => obsXG n fnL gkL cl ki s.heap.get?
  val := fun _ => valX fnL
  says := fun _ h => ∃ K : PySem.W.Frag, K.In h ∧ SaysX fnL gkL cl ki K
  of := fun _ _ e => ⟨_, He.frG_in, e⟩
  keeps := fun _ _ _ ⟨K, hK, c⟩ k => ⟨K, PySem.W.Frag.In.keeps hK k, c⟩
theorem obsXG_eq {n : Nat} {fnL : FnL} {gkL : GkL} {cl : ClL} {ki : KiL} {g : Addr → Option Obj} {s : Shared} (h : ∀ a, g a = s.heap.get? a) : obsXG n fnL gkL cl ki g = (hookX n fnL gkL cl ki).obs s := by
  have e : g = s.heap.get? := funext h
  rw [e] <;> rfl
theorem lookup_in {α : Type} {x : Str} {d : α} : ∀ {l : List (Str × α)}, l.lookup x = some d → (x, d) ∈ l
  | (y, e) :: r, h => by
    rw [List.lookup_cons] at h
    by_cases q : (x == y) = true
    · rw [q] at h
      cases h
      have : x = y := by simpa using q
      subst this
      exact List.mem_cons_self
    · rw [Bool.eq_false_iff.mpr q] at h
      exact List.mem_cons_of_mem _ (lookup_in h)
theorem kiLook_in {a b : KN} {r : Bool} : ∀ {l : KiL}, kiLook a b l = some r → ((a, b), r) ∈ l
  | ((x, y), q) :: l, h => by
    unfold kiLook at h
    split at h
    · rename_i e
      cases h
      obtain ⟨rfl, rfl⟩ := e
      exact List.mem_cons_self
    · exact List.mem_cons_of_mem _ (kiLook_in h)
section
variable {fnL : FnL} {gkL : GkL} {cl : ClL} {ki : KiL} {K : PySem.W.Frag} {mg : Str → Option Value} {h : Heap}
theorem prog_of (X : K.In h) (G : h.Ns mainGlobals mg) (c : SaysX fnL gkL cl ki K) (s : ∀ p ∈ fnL, StatOk p.1 p.2.2) : Prog K mg (tab0 ki cl) (fun x => gkL.lookup x) (tabF fnL) := by
  have c0 : chkB fnL gkL cl ki K = true := congrArg (fun z : He.AlD => z.1) c
  have cw : (fnL.map fun p => fnWa K (plA K p.2.1)) = fnL.map fun p => fnVal p.1 p.2.2 := congrArg (fun z : He.AlD => z.2) c
  obtain ⟨c1, c0⟩ := He.ba c0
  obtain ⟨c2, c0⟩ := He.ba c0
  obtain ⟨c3, c0⟩ := He.ba c0
  obtain ⟨c4, c5⟩ := He.ba c0
  have gl : ∀ {x : Str}, (He.Fa.glo x).ok K = true → mg x = some (.ref (He.ga K x)) := fun hx => He.glo_ok X G hx
  have fat : ∀ {q : Str} {p : Pl} {d : FD}, fnL.lookup q = some (p, d) → tabF fnL q = some d ∧ FunAt K mg q d (plA K p) := fun {q p d} hq => by
    have hm := lookup_in hq
    refine ⟨by unfold tabF; rw [hq]; rfl, ?_⟩
    obtain ⟨i, hi⟩ := List.getElem?_of_mem hm
    have e2 : (fnL.map fun p => fnWa K (plA K p.2.1))[i]? = (fnL.map fun p => fnVal p.1 p.2.2)[i]? := by rw [cw]
    simp only [List.getElem?_map, hi, Option.map_some] at e2
    exact fun_at (Option.some.inj e2) (List.all_eq_true.mp c4 _ hm) (s _ hm)
  have gc : ∀ {x : Str} {g : GK}, gkL.lookup x = some g → gkB K fnL x g = true := fun {x g} hx => List.all_eq_true.mp c1 (x, g) (lookup_in hx)
  have cc : ∀ {x : Str} {i : CI}, cl.lookup x = some i → clB K fnL x i = true := fun {x i} hx => List.all_eq_true.mp c2 (x, i) (lookup_in hx)
  have cd : ∀ {x : Str} {i : CI}, cl.lookup x = some i → clB2 K x i = true := fun {x i} hx => List.all_eq_true.mp c5 (x, i) (lookup_in hx)
  have isC : ∀ {x : Str} {C : Addr}, (He.Fa.glo x).ok K = true → mg x = some (.ref C) → C = He.ga K x := fun hx hC => by
    rw [gl hx] at hC
    injection hC with e
    injection e with e
    exact e.symm
  refine { cst := fun x d hx => ?_, fn := fun x q hx => ?_, gcls := fun x hx => ?_, bf := fun x b hx => ?_, ty := fun x b hx => ?_, it := fun x i hx => ?_, kit := ?_, mth := fun c m q hx C hC => ?_, prp := fun c m q hx C hC => ?_, fld := fun c f hx C hC => ?_, con := fun c f d hx C hC => ?_, ccon := fun c f d hx C hC => ?_, stt := fun c m q hx C hC => ?_, cls := fun c q b hx => ?_, nf := fun c t hx C hC => ?_, neq := fun c hx C hC => ?_, sf := fun c hx C hC => ?_ }
  · have h1 : (match PySem.W.nsIn K mainGlobals x with
      | some (some u) => repB K 8 d u
      | _ => false) = true := gc hx
    split at h1
    · rename_i u e
      obtain ⟨v, r1, r2⟩ := repB_ok (mg := mg) 8 d u h1
      exact ⟨u, v, PySem.W.mg_of X G e, r1, r2⟩
    · cases h1
  · have h1 : (match fnL.lookup q with
      | some (p, _) => (He.Fa.glo x).ok K && (PySem.W.keepIn K (.ref (He.ga K x)) && eqA (plA K p) (He.ga K x))
      | none => false) = true := gc hx
    split at h1
    · rename_i p d e
      obtain ⟨k1, k2⟩ := He.ba h1
      obtain ⟨k3, k4⟩ := He.ba k2
      obtain ⟨f1, f2⟩ := fat e
      have ea : plA K p = He.ga K x := of_decide_eq_true k4
      exact ⟨He.ga K x, d, gl k1, k3, f1, ea ▸ f2⟩
    · cases h1
  · exact ⟨_, gl (gc hx)⟩
  · obtain ⟨k1, k2⟩ := He.ba (gc hx)
    obtain ⟨k3, k4⟩ := He.ba k2
    exact ⟨PySem.W.mg_none_of X G (He.eqO_ok k1), of_decide_eq_true k3, of_decide_eq_true k4⟩
  · obtain ⟨k1, k2⟩ := He.ba (gc hx)
    obtain ⟨k3, k4⟩ := He.ba k2
    exact ⟨PySem.W.mg_none_of X G (He.eqO_ok k1), of_decide_eq_true k3, of_decide_eq_true k4⟩
  · obtain ⟨k1, k2⟩ := He.ba (gc hx)
    exact ⟨PySem.W.mg_none_of X G (He.eqO_ok k1), of_decide_eq_true k2⟩
  · have base : ∀ {t : TyD} {d : D} {b : Bool}, kitOf ki t d = some b → ∃ y, clN d = some y ∧ kiB K ((tyN t, y), b) = true := fun {t d b} hk => by
      obtain ⟨y, h1, h2⟩ := Option.bind_eq_some_iff.mp hk
      exact ⟨y, h1, List.all_eq_true.mp c3 _ (kiLook_in h2)⟩
    refine ⟨fun c d b hk C hC => ?_, fun t d b hk tv cv ht hc => ?_⟩
    · obtain ⟨y, h1, h2⟩ := base hk
      obtain ⟨k1, k2⟩ := He.ba h2
      obtain ⟨k3, k4⟩ := He.ba k2
      obtain ⟨k5, k6⟩ := He.ba k4
      obtain rfl := isC k1 hC
      obtain ⟨m1, m2⟩ := He.ba (show ((He.Fa.cls c).ok K && _) = true from k5)
      obtain ⟨m3, m4⟩ := He.ba m2
      obtain ⟨m5, m6⟩ := He.ba m4
      obtain ⟨m7, m8⟩ := He.ba m6
      exact ⟨He.cls_ok m1, He.eqO_ok m3, He.eqO_ok m5, of_decide_eq_true m7, of_decide_eq_true m8⟩
    · obtain ⟨y, h1, h2⟩ := base hk
      obtain ⟨k1, k2⟩ := He.ba h2
      obtain ⟨k3, k4⟩ := He.ba k2
      obtain ⟨k5, k6⟩ := He.ba k4
      have e1 : tv = knV K (tyN t) := by
        cases ht with
        | b n => rfl
        | c hx =>
          have := isC k1 hx
          subst this
          rfl
      have e2 : cv = knV K y := by
        cases hc with
        | ty n => cases h1; rfl
        | gl hx =>
          cases h1
          have := isC k3 hx
          subst this
          rfl
      subst e1 e2
      exact of_decide_eq_true k6
  · obtain ⟨i, h1, h2⟩ := Option.bind_eq_some_iff.mp hx
    obtain ⟨k1, k2⟩ := He.ba (cc h1)
    obtain ⟨k3, _⟩ := He.ba k2
    obtain rfl := isC k1 hC
    have h3 : mtB K fnL c m q = true := List.all_eq_true.mp k3 (m, q) (lookup_in h2)
    unfold mtB at h3
    split at h3
    · rename_i p d e
      obtain ⟨n1, n2⟩ := He.ba h3
      obtain ⟨n3, n4⟩ := He.ba n2
      obtain ⟨f1, f2⟩ := fat e
      have ea : plA K p = He.ma K (He.ga K c) m := of_decide_eq_true n4
      exact ⟨He.cls_ok n1, _, d, He.meth_ok n3, f1, ea ▸ f2⟩
    · cases h3
  · obtain ⟨i, h1, h2⟩ := Option.bind_eq_some_iff.mp hx
    obtain ⟨k1, k2⟩ := He.ba (cc h1)
    obtain ⟨_, k2⟩ := He.ba k2
    obtain ⟨k3, _⟩ := He.ba k2
    obtain rfl := isC k1 hC
    have h3 : prB K fnL c m q = true := List.all_eq_true.mp k3 (m, q) (lookup_in h2)
    unfold prB at h3
    split at h3
    · rename_i p d e
      obtain ⟨n1, n2⟩ := He.ba h3
      obtain ⟨n3, n4⟩ := He.ba n2
      obtain ⟨n5, n6⟩ := He.ba n4
      obtain ⟨n7, n8⟩ := He.ba n6
      obtain ⟨f1, f2⟩ := fat e
      split at n8
      · rename_i g rest hr
        have ea : plA K p = g := of_decide_eq_true n8
        exact ⟨He.cls_ok n1, _, g, d, ⟨He.eqO_ok n3, He.eqO_ok n5, of_decide_eq_true n7, rest, hr⟩, f1, ea ▸ f2⟩
      · cases n8
    · cases h3
  · have h1 : (match cl.lookup c with
      | some i => i.fl.contains f
      | none => false) = true := hx
    split at h1
    · rename_i i hi
      obtain ⟨k1, k2⟩ := He.ba (cc hi)
      obtain ⟨_, k2⟩ := He.ba k2
      obtain ⟨_, k2⟩ := He.ba k2
      obtain ⟨k3, _⟩ := He.ba k2
      obtain rfl := isC k1 hC
      have h3 : flB K c f = true := List.all_eq_true.mp k3 f (by simpa using h1)
      obtain ⟨n1, n2⟩ := He.ba h3
      exact ⟨He.cls_ok n1, He.noat_ok n2⟩
    · cases h1
  · obtain ⟨i, h1, h2⟩ := Option.bind_eq_some_iff.mp hx
    obtain ⟨k1, k2⟩ := He.ba (cc h1)
    obtain ⟨_, k2⟩ := He.ba k2
    obtain ⟨_, k2⟩ := He.ba k2
    obtain ⟨_, k2⟩ := He.ba k2
    obtain ⟨k3, _⟩ := He.ba k2
    obtain rfl := isC k1 hC
    have h3 : coB K c f d = true := List.all_eq_true.mp k3 (f, d) (lookup_in h2)
    obtain ⟨n1, n2⟩ := He.ba h3
    split at n2
    · rename_i u hu
      obtain ⟨n3, n4⟩ := He.ba n2
      obtain ⟨n5, n6⟩ := He.ba n4
      obtain ⟨v, r1, r2⟩ := repB_ok (mg := mg) 8 d u n3
      exact ⟨He.cls_ok n1, v, u, ⟨hu, r1, He.eqO_ok n5, by simpa using n6⟩, r2⟩
    · cases n2
  · obtain ⟨i, h1, h2⟩ := Option.bind_eq_some_iff.mp hx
    obtain ⟨k1, k2⟩ := He.ba (cc h1)
    obtain ⟨_, k2⟩ := He.ba k2
    obtain ⟨_, k2⟩ := He.ba k2
    obtain ⟨_, k2⟩ := He.ba k2
    obtain ⟨_, k2⟩ := He.ba k2
    obtain ⟨k3, _⟩ := He.ba k2
    obtain rfl := isC k1 hC
    have h3 : ccB K c f d = true := List.all_eq_true.mp k3 (f, d) (lookup_in h2)
    obtain ⟨n1, n2⟩ := He.ba h3
    split at n2
    · rename_i u hu
      obtain ⟨v, r1, r2⟩ := repB_ok (mg := mg) 8 d u n2
      exact ⟨_, v, u, crd_ok n1, ⟨hu, r1⟩, r2⟩
    · cases n2
  · obtain ⟨i, h1, h2⟩ := Option.bind_eq_some_iff.mp hx
    obtain ⟨k1, k2⟩ := He.ba (cc h1)
    obtain ⟨_, k2⟩ := He.ba k2
    obtain ⟨_, k2⟩ := He.ba k2
    obtain ⟨_, k2⟩ := He.ba k2
    obtain ⟨_, k2⟩ := He.ba k2
    obtain ⟨_, k2⟩ := He.ba k2
    obtain ⟨k3, _⟩ := He.ba k2
    obtain rfl := isC k1 hC
    obtain ⟨p, d, e1, e2, e3⟩ := sm_ok (List.all_eq_true.mp k3 (m, q) (lookup_in h2))
    obtain ⟨f1, f2⟩ := fat e1
    exact ⟨_, _, _, d, e2, e3, f1, f2⟩
  · obtain ⟨i, h1, h2⟩ := Option.bind_eq_some_iff.mp hx
    obtain ⟨k1, k2⟩ := He.ba (cc h1)
    obtain ⟨_, k2⟩ := He.ba k2
    obtain ⟨_, k2⟩ := He.ba k2
    obtain ⟨_, k2⟩ := He.ba k2
    obtain ⟨_, k2⟩ := He.ba k2
    obtain ⟨_, k2⟩ := He.ba k2
    obtain ⟨_, k3⟩ := He.ba k2
    have h2' : i.ini = some (q, b) := h2
    rw [h2'] at k3
    have h3 : mkB K fnL c q = true := k3
    unfold mkB at h3
    split at h3
    · rename_i p d e
      obtain ⟨n1, n2⟩ := He.ba h3
      obtain ⟨f1, f2⟩ := fat e
      have ea : plA K p = He.ma K (He.ga K c) "__init__" := of_decide_eq_true n2
      exact ⟨_, _, d, gl k1, He.mkr_ok n1, f1, ea ▸ f2⟩
    · cases h3
  · have h1 : (match cl.lookup c with
      | some i => i.nf.any fun n => decide (n = tyN t)
      | none => false) = true := hx
    split at h1
    · rename_i i hi
      obtain ⟨k1, k2⟩ := He.ba (cd hi)
      obtain ⟨k3, _⟩ := He.ba k2
      obtain rfl := isC k1 hC
      obtain ⟨n, hn, e⟩ := List.any_eq_true.mp h1
      have e := of_decide_eq_true e
      subst e
      obtain ⟨m1, m2⟩ := He.ba (List.all_eq_true.mp k3 _ hn)
      obtain ⟨m3, m4⟩ := He.ba m2
      refine ⟨fun tv ht => ?_, fun c' hc C' hC' => ?_⟩
      · cases ht with
        | b n => exact m4
        | c hx' =>
          have := isC m1 hx'
          subst this
          exact m4
      · subst hc
        obtain rfl := isC m1 hC'
        obtain ⟨q1, q2⟩ := He.ba (show ((He.Fa.cls c').ok K && _) = true from m3)
        obtain ⟨q3, q4⟩ := He.ba q2
        obtain ⟨q5, q6⟩ := He.ba q4
        obtain ⟨q7, q8⟩ := He.ba q6
        exact ⟨He.cls_ok q1, He.eqO_ok q3, He.eqO_ok q5, of_decide_eq_true q7, of_decide_eq_true q8⟩
    · cases h1
  · have h1 : (match cl.lookup c with
      | some i => i.neq
      | none => false) = true := hx
    split at h1
    · rename_i i hi
      obtain ⟨k1, k2⟩ := He.ba (cd hi)
      obtain ⟨_, k2⟩ := He.ba k2
      obtain ⟨k3, _⟩ := He.ba k2
      obtain rfl := isC k1 hC
      rw [h1] at k3
      obtain ⟨m1, m2⟩ := He.ba (show (_ && _) = true from k3)
      exact ⟨He.eqO_ok m1, of_decide_eq_true m2⟩
    · cases h1
  · have h1 : (match cl.lookup c with
      | some i => i.sf
      | none => false) = true := hx
    split at h1
    · rename_i i hi
      obtain ⟨k1, k2⟩ := He.ba (cd hi)
      obtain ⟨_, k2⟩ := He.ba k2
      obtain ⟨_, k3⟩ := He.ba k2
      obtain rfl := isC k1 hC
      rw [h1] at k3
      exact k3
    · cases h1
end
/-! ### the law -/
/-- the law's promise from the plain statement -/
def spLaw (K : PySem.W.Frag) (n : Nat) : Sp := fun vs H Q _ => ∃ (a : Addr) (ns : List Int), vs = [.ref a] ∧ ns.length ≤ n ∧ Only H ∧ SqL K H a (ns.map V.int) ∧ ∀ H', Q (.bl true) H'
theorem reps_ints {K : PySem.W.Frag} {mg : Str → Option Value} {w : Wd} : ∀ ns : List Int, Reps K mg w (ns.map D.int) (ns.map V.int)
  | [] => .nil
  | n :: ns => .cons (.int n) (reps_ints ns)
/-- does it answer with true -/
def isTru : R U → Prop
  | .ok (.d (.bl true)) _ => True
  | _ => False
theorem law_ok {P : Program} {w : World} {K : PySem.W.Frag} {mg : Str → Option Value} {base : Heap} {T : Tab} {gk : Str → Option GK} {muA : List Str} {tab : Str → Option FD} {k n : Nat} {d : FD} {f : Addr} {fd : FuncData} {q y : Str} (Pr : Prog K mg T gk tab) (hd : tab q = some d) (F : FunAt K mg q d f)
    (pure : ∀ ns : List Int, ns.length ≤ n → isTru (CK T gk muA tab k q false [] [.d (.fl (ns.map D.int))] [] [])) :
    ∀ (A : Around) (outer : List PySem.Env) (s : Shared) (H : Hp) (u : Value) (vs : List V) (Q : VK) (E : XK), Room (2 * k) A → Env0 P w K mg base A outer s H → Vals vs [u] → spLaw K n vs H Q E →
      codeAny (model P w) A (.call (.ref f) ⟨[u], []⟩) (CR (L2.CX P w) outer P w H s Q E) s := by
  intro A outer s H u vs Q E hr e0 rv h
  obtain ⟨a, ns, rfl, hn, hO, hS, hQ⟩ := h
  refine (ck_ok (muA := muA) Pr k q d f hd F false []).run A outer s H [u] [] [.ref a] [] Q E hr e0 rv .nil rfl ?_
  have hp := pure ns hn
  -- the script is the one thing that is known
  have hsq : ∃ C : Hp, SqF K C a (ns.map V.int) ∧ ∀ b o, C b = some o → H b = some o := by
    rcases hS with (hS | ⟨o, hS⟩) | hS
    · rcases hO a with z | ⟨o, xs, z⟩
      · rw [hS] at z; cases z
      · rw [hS] at z; cases z
    · exact ⟨H, .inl ⟨o, hS⟩, fun _ _ h => h⟩
    · exact ⟨H, .inr hS, fun _ _ h => h⟩
  obtain ⟨C, h1, h2⟩ := hsq
  refine ⟨⟨[], C⟩, [], [.d (.fl (ns.map D.int))], [], ⟨rfl, .nil, fun a ha => (by cases ha), h2, fun n c a e => (by simp at e), fun n c a e => (by simp at e)⟩, .cons (.d (.fl h1 (reps_ints ns))) .nil, .nil, ?_⟩
  cases hr : CK T gk muA tab k q false [] [.d (.fl (ns.map D.int))] [] [] with
  | ok u' S =>
    rw [hr] at hp
    cases u' with
    | ref _ => cases hp
    | d x =>
      cases x with
      | bl b =>
        cases b with
        | false => cases hp
        | true =>
          intro w' H' v _ _ r
          cases r with
          | d r => cases r; exact hQ H'
      | _ => cases hp
  | exc c fs S => rw [hr] at hp; cases hp
  | bad => rw [hr] at hp; cases hp
end
end Dv
set_option maxRecDepth 100000
set_option maxHeartbeats 1000000
namespace Dv
open PySem PySem.Spec PyProof.Rows L2
noncomputable section
/-- the law's def, as it is called at the top -/
theorem law_fn {P : Program} {w : World} {K : PySem.W.Frag} {mg : Str → Option Value} {base : Heap} {T : Tab} {gk : Str → Option GK} {muA : List Str} {tab : Str → Option FD} {k n : Nat} {d : FD} {f : Addr} {fd : FuncData} {q y : Str} {kws : List (Str × V)} (Pr : Prog K mg T gk tab) (hd : tab q = some d)
    (F : FunD K d.nm q (defArgs d.st) (defBody d.st) (defScope d.st) [] kws f fd) (Sc : FnScope d.N d.all (defScope d.st)) (hps : d.ps = [y]) (hko : d.ko = none) (hva : d.va = none)
    (pure : ∀ ns : List Int, ns.length ≤ n → isTru (CK T gk muA tab (k + 1) q false [] [.d (.fl (ns.map D.int))] [] [])) : FnOk P w K mg base (L2.CX P w) (2 * k + 2) f fd [y] (spLaw K n) := by
  have hall : d.all = [y] := by
    unfold FD.all FD.koN FD.vaN
    rw [hps, hko, hva]; rfl
  rw [hall] at Sc
  refine F.ok (k := 2 * k + 1) Sc (fun vs H Q E h => by obtain ⟨a, ns, rfl, _⟩ := h; rfl) fun cdv A outer s H vs Q E hr h => ?_
  obtain ⟨a, ns, rfl, hn, hO, hS, hQ⟩ := h
  have hp := pure ns hn
  have hsq : ∃ C : Hp, SqF K C a (ns.map V.int) ∧ ∀ b o, C b = some o → H b = some o := by
    rcases hS with (hS | ⟨o, hS⟩) | hS
    · rcases hO a with z | ⟨o, xs, z⟩
      · rw [hS] at z; cases z
      · rw [hS] at z; cases z
    · exact ⟨H, .inl ⟨o, hS⟩, fun _ _ h => h⟩
    · exact ⟨H, .inr hS, fun _ _ h => h⟩
  obtain ⟨C, h1, h2⟩ := hsq
  have st : Sto K mg ⟨[], C⟩ H [] := ⟨rfl, .nil, fun a ha => (by cases ha), h2, fun n c a e => (by simp at e), fun n c a e => (by simp at e)⟩
  have rx : RepUs K mg ⟨[], C⟩ [.d (.fl (ns.map D.int))] [V.ref a] := .cons (.d (.fl h1 (reps_ints ns))) .nil
  have dk : ∀ {j : Nat} {q' : Str} {d' : FD} {f' : Addr}, j ≤ 1 → tab q' = some d' → FunAt K mg q' d' f' → DefOk (cxOf (L2.CX P w) P w K mg base d.N q (defScope d.st) f cdv A outer s H E) (T.with (CK T gk muA tab k)) j q' f' := fun {j q' d' f'} hj h1 h2 =>
    ⟨2 * k, hr.mono (by omega), fun mu ks => ck_ok Pr k q' d' f' h1 h2 mu ks⟩
  have cx : Ctx (cxOf (L2.CX P w) P w K mg base d.N q (defScope d.st) f cdv A outer s H E) (fun cls dd _ H' => E cls dd H') (T.with (CK T gk muA tab k)) (d.sc gk muA false) := by
    refine ⟨rfl, Sc.nd, rfl, fun y hy => ⟨locB_ok hy, .inl rfl⟩, rfl, ⟨Pr.cst, fun x q' hx => ?_, Pr.gcls, Pr.bf, Pr.ty, Pr.it⟩, ⟨Pr.kit, fun c m q' hx C hC => ?_, fun c m q' hx C hC => ?_, Pr.fld, Pr.con, Pr.ccon, fun c m q' hx C hC => ?_, fun c q' b hx => ?_, Pr.nf, Pr.neq, Pr.sf⟩, takes_of rfl rfl rfl rfl, ?_⟩
    · obtain ⟨f', d', h1, h2, h3, h4⟩ := Pr.fn x q' hx
      exact ⟨f', h1, h2, dk (Nat.zero_le _) h3 h4⟩
    · obtain ⟨h0, f', d', h1, h3, h4⟩ := Pr.mth c m q' hx C hC
      exact ⟨h0, f', h1, dk (Nat.le_refl _) h3 h4⟩
    · obtain ⟨h0, p', g', d', h1, h3, h4⟩ := Pr.prp c m q' hx C hC
      exact ⟨h0, p', g', h1, dk (Nat.le_refl _) h3 h4⟩
    · obtain ⟨mc, p', g', d', h0, h1, h3, h4⟩ := Pr.stt c m q' hx C hC
      exact ⟨mc, p', g', h0, h1, dk (Nat.zero_le _) h3 h4⟩
    · obtain ⟨C, f', d', h1, h2, h3, h4⟩ := Pr.cls c q' b hx
      exact ⟨C, f', h1, h2, dk (Nat.le_refl _) h3 h4⟩
    · have := hr.un
      show (A.deeper _).units + 65 < cLine
      omega
  refine ⟨_, body_ok cx (passes_of rfl) (defBody d.st), ⟨[], C⟩, [], startD d.N [.d (.fl (ns.map D.int))], st, ?_, ?_⟩
  · exact EnvOk.start (n := d.N.length - 1) rx
  · have hb : bindU d [] [.d (.fl (ns.map D.int))] [] = some [.d (.fl (ns.map D.int))] := by
      unfold bindU
      rw [hko, hva, hps]
      rfl
    have hp2 : isTru (cutR false [] (runF d.N (bodyG (T.with (CK T gk muA tab k)) (d.sc gk muA false) (defBody d.st)) [.d (.fl (ns.map D.int))] [])) := by
      have e : CK T gk muA tab (k + 1) q false [] [.d (.fl (ns.map D.int))] [] [] = cutR false [] (runF d.N (bodyG (T.with (CK T gk muA tab k)) (d.sc gk muA false) (defBody d.st)) [.d (.fl (ns.map D.int))] []) := by
        show (match tab q with
          | some d => callF (T.with (CK T gk muA tab k)) gk muA d false [] [.d (.fl (ns.map D.int))] [] []
          | none => .bad) = _
        rw [hd]
        show (match bindU d [] [.d (.fl (ns.map D.int))] [] with
          | some as => cutR false [] (runF d.N (bodyG (T.with (CK T gk muA tab k)) (d.sc gk muA false) (defBody d.st)) as [])
          | none => .bad) = _
        rw [hb]
      rw [← e]
      exact hp
    have o1 : Out K mg (RepU K mg) (fun cls dd _ H' => E cls dd H') [] ⟨[], C⟩ H (cutR false [] (runF d.N (bodyG (T.with (CK T gk muA tab k)) (d.sc gk muA false) (defBody d.st)) [.d (.fl (ns.map D.int))] [])) Q := by
      cases hr : cutR false [] (runF d.N (bodyG (T.with (CK T gk muA tab k)) (d.sc gk muA false) (defBody d.st)) [.d (.fl (ns.map D.int))] []) with
      | ok u' S =>
        rw [hr] at hp2
        cases u' with
        | ref _ => cases hp2
        | d x =>
          cases x with
          | bl b =>
            cases b with
            | false => cases hp2
            | true =>
              intro w' H' v _ _ r
              cases r with
              | d r => cases r; exact hQ H'
          | _ => cases hp2
      | exc c fs S => rw [hr] at hp2; cases hp2
      | bad => rw [hr] at hp2; cases hp2
    have o2 : Out K mg (RepU K mg) (fun cls dd _ H' => E cls dd H') [] ⟨[], C⟩ H (endR (bodyG (T.with (CK T gk muA tab k)) (d.sc gk muA false) (defBody d.st) (startD d.N [.d (.fl (ns.map D.int))]) [])) Q := cutR_out st o1
    show OutS K mg (fun cls dd _ H' => E cls dd H') ⟨[], C⟩ H (bodyG (T.with (CK T gk muA tab k)) (d.sc gk muA false) (defBody d.st) (startD d.N [.d (.fl (ns.map D.int))]) []) { nx := fun _ H' => Q .non H', rt := Q }
    cases q3 : bodyG (T.with (CK T gk muA tab k)) (d.sc gk muA false) (defBody d.st) (startD d.N [.d (.fl (ns.map D.int))]) [] with
    | nx ρ' S' => rw [q3] at o2; exact fun w' H' σ' l1 s1 _ => o2 w' H' .non l1 s1 (.d .non)
    | rt d' S' => rw [q3] at o2; exact o2
    | exc c fs ρ' S' => rw [q3] at o2; exact fun w' H' σ' cls dd l1 s1 _ p1 => o2 w' H' cls dd l1 s1 p1
    | bk ρ' S' => rw [q3] at o2; exact o2.elim
    | ct ρ' S' => rw [q3] at o2; exact o2.elim
    | bad => rw [q3] at o2; exact o2.elim
theorem walkX {lw : PySem.W.OpenLaw} {n k : Nat} {qq : Program} {lo : List Str} {XX : (Str → Option Value) → Heap → Prop} {YY : World → Heap → Prop} {dd : DefRec} {x : Str}
    (h1 : lw.most = some n) (h2 : n ≤ sizeLine) (h3 : dd.params.defaults = []) (h4 : Room k callerA)
    (F : ∀ (w : World) (mg : Str → Option Value) (fa : Addr) (h : Heap), YY w h → h.Ns mainGlobals mg → mg dd.name = some (.ref fa) →
      ∃ (K : PySem.W.Frag) (fd : FuncData), K.In h ∧ (∀ (s : Shared) (u : Value), BindsTo s fd ⟨[u], []⟩ [(x, u)]) ∧ ∀ base : Heap, K.In base → base.Ns mainGlobals mg → FnOk lw.prog w K mg base (L2.CX lw.prog w) k fa fd [x] (spLaw K n)) :
    PySem.W.WalkO qq lo XX YY lw.row.toRowW dd [] (fun f vs => PySem.call f vs) := by
  refine Att.attach_call h1 h3 fun w s0 s1 mg mb fa o pm cd doc a vs ns G Y ho hd hcd hmg hobj hi hl hg => ?_
  obtain ⟨K, fd, KX, hb, hF⟩ := F w mg fa _ Y G.T.g hmg
  exact law_call (sp := spLaw K n) KX G.T.g G.T.b G.T.builtins G.T.nolimit hg hobj hi (Nat.le_trans hl h2) h4 hF hb (fun H hO hS => ⟨a, ns, rfl, hl, hO, hS, fun _ => rfl⟩) fun H e s' ⟨_, _, _, _, _, _, _, _, _, _, _, _, z⟩ => z
/-- the law's def from the head's facts -/
theorem law_head {fnL : FnL} {gkL : GkL} {cl : ClL} {ki : KiL} {muA : List Str} {K : PySem.W.Frag} {mg : Str → Option Value} {h : Heap} {k n : Nat} {d : FD} {q y : Str} {P : Program} {w : World} (X : K.In h) (G : h.Ns mainGlobals mg) (c : SaysX fnL gkL cl ki K) (s : ∀ p ∈ fnL, StatOk p.1 p.2.2)
    (hd : fnL.lookup q = some (.fn q, d)) (hps : d.ps = [y]) (hko : d.ko = none) (hva : d.va = none) {fa : Addr} (hmg : mg q = some (.ref fa)) (hg : gkL.lookup q = some (.fn q))
    (pure : ∀ ns : List Int, ns.length ≤ n → isTru (CK (tab0 ki cl) (fun x => gkL.lookup x) muA (tabF fnL) (k + 1) q false [] [.d (.fl (ns.map D.int))] [] [])) :
    ∃ fd : FuncData, (∀ (s : Shared) (u : Value), BindsTo s fd ⟨[u], []⟩ [(y, u)]) ∧ ∀ base : Heap, K.In base → base.Ns mainGlobals mg → FnOk P w K mg base (L2.CX P w) (2 * k + 2) fa fd [y] (spLaw K n) := by
  have Pr := prog_of X G c s
  obtain ⟨f, d', h1, h2, h3, F⟩ := Pr.fn q q hg
  have ht : tabF fnL q = some d := by unfold tabF; rw [hd]; rfl
  rw [ht] at h3
  cases h3
  rw [hmg] at h1
  cases h1
  obtain ⟨fd, kws, FD', kov⟩ := F.ex
  have hk : kws = [] := by
    unfold KoV at kov
    rw [hko] at kov
    exact kov
  subst hk
  refine ⟨fd, fun s u => ?_, fun base _ _ => law_fn Pr ht FD' F.st.sc hps hko hva pure⟩
  have bf := F.st.bind
  unfold BindF at bf
  rw [hko] at bf
  obtain ⟨oc, od, dV, kV, doc, pm, an, cdv, ct, osl, rfl, lk, hcd, hD, hK⟩ := FD'.ex
  rcases hD with ⟨_, rfl⟩ | ⟨e, _⟩
  · have z := bf kV doc pm an cdv ct [u] [] (by rw [hps]; rfl) (fun _ => rfl)
    rw [hva, hps] at z
    exact BindsTo.of_eq z
  · exact absurd rfl e
/-! binding, from a def's text -/
theorem bindF_plain {q : Str} {d : FD} (hk : d.ko = none) (hv : d.va = none) (h : ∀ (kV doc pm : Value) (an : Option Addr) (cdv ct : Value) (us : List Value), us.length = d.ps.length →
    bindArgs (PySem.W.fnOf d.nm q (defArgs d.st) (defBody d.st) (defScope d.st) .none kV doc pm an cdv ct) ⟨us, []⟩ = pure (d.ps.zip us)) : BindF q d := by
  unfold BindF
  rw [hk]
  intro kV doc pm an cdv ct us rest hl hr
  rw [hr hv, hv, List.append_nil]
  exact h kV doc pm an cdv ct us hl
theorem bindF_star {q pv : Str} {d : FD} (hk : d.ko = none) (hv : d.va = some pv) (h0 : ∀ (kV doc pm : Value) (an : Option Addr) (cdv ct : Value) (us : List Value), us.length = d.ps.length →
    bindArgs (PySem.W.fnOf d.nm q (defArgs d.st) (defBody d.st) (defScope d.st) .none kV doc pm an cdv ct) ⟨us, []⟩ = newTuple [] >>= fun t => pure (d.ps.zip us ++ [(pv, t)]))
    (h1 : ∀ (kV doc pm : Value) (an : Option Addr) (cdv ct : Value) (us : List Value) (r : Value) (rs : List Value), us.length = d.ps.length →
    bindArgs (PySem.W.fnOf d.nm q (defArgs d.st) (defBody d.st) (defScope d.st) .none kV doc pm an cdv ct) ⟨us ++ r :: rs, []⟩ = newTuple (r :: rs) >>= fun t => pure (d.ps.zip us ++ [(pv, t)])) : BindF q d := by
  unfold BindF
  rw [hk]
  intro kV doc pm an cdv ct us rest hl hr
  rw [hv]
  cases rest with
  | nil => rw [List.append_nil]; exact h0 kV doc pm an cdv ct us hl
  | cons r rs => exact h1 kV doc pm an cdv ct us r rs hl
theorem bindF_ko {q n : Str} {d : FD} {v : D} (hk : d.ko = some (n, v)) (hv : d.va = none) (h0 : ∀ (Da : Addr) (doc pm : Value) (an : Option Addr) (cdv ct m : Value) (us : List Value), us.length = d.ps.length →
    KwEnd Da n m (bindArgs (PySem.W.fnOf d.nm q (defArgs d.st) (defBody d.st) (defScope d.st) .none (.ref Da) doc pm an cdv ct) ⟨us, []⟩) (pure (d.ps.zip us ++ [(n, m)])))
    (h1 : ∀ (kV doc pm : Value) (an : Option Addr) (cdv ct m : Value) (us : List Value), us.length = d.ps.length →
    bindArgs (PySem.W.fnOf d.nm q (defArgs d.st) (defBody d.st) (defScope d.st) .none kV doc pm an cdv ct) ⟨us, [(n, m)]⟩ = pure (d.ps.zip us ++ [(n, m)])) : BindF q d := by
  unfold BindF
  rw [hk]
  refine ⟨fun Da doc pm an cdv ct m us rest hl hr => ?_, fun kV doc pm an cdv ct m us rest hl hr => ?_⟩
  · rw [hr hv, hv, List.append_nil]
    exact h0 Da doc pm an cdv ct m us hl
  · rw [hr hv, hv, List.append_nil]
    exact h1 kV doc pm an cdv ct m us hl
end
end Dv
set_option maxRecDepth 100000
set_option maxHeartbeats 1000000
namespace Dv
open PySem PySem.Spec PyProof.Rows L2
noncomputable section
/-! ### what holds behind an evaluation -/
abbrev XQ := Str → List (Str × D) → Store → Prop
def noX : XQ := fun _ _ _ => False
def R.sat {α : Type} (r : R α) (X : XQ) (Q : α → Store → Prop) : Prop := match r with
  | .ok a S => Q a S
  | .exc c fs S => X c fs S
  | .bad => False
structure EndsD where
  nx : Env → Store → Prop := fun _ _ => False
  rt : U → Store → Prop := fun _ _ => False
  bk : Env → Store → Prop := fun _ _ => False
  ct : Env → Store → Prop := fun _ _ => False
  ex : Str → List (Str × D) → Env → Store → Prop := fun _ _ _ _ => False
def satS (r : RS) (E : EndsD) : Prop := match r with
  | .nx ρ S => E.nx ρ S
  | .rt d S => E.rt d S
  | .bk ρ S => E.bk ρ S
  | .ct ρ S => E.ct ρ S
  | .exc c fs ρ S => E.ex c fs ρ S
  | .bad => False
def asO {α : Type} (o : Option α) (P : α → Prop) : Prop := match o with
  | some c => P c
  | none => False
abbrev oLt : F2 := oCmpI fun i j => decide (i < j)
abbrev oLe : F2 := oCmpI fun i j => decide (i ≤ j)
abbrev oGt : F2 := oCmpI fun i j => decide (j < i)
abbrev oGe : F2 := oCmpI fun i j => decide (j ≤ i)
section
variable {α β : Type} {X : XQ} {Q : U → Store → Prop} {QL : List U → Store → Prop} {QD : List D → Store → Prop} {QB : Bool → Store → Prop} {ρ : Env} {S : Store} {E : EndsD} {mu : Bool}
theorem R.sat.mono {r : R α} {X' : XQ} {P P' : α → Store → Prop} (h : r.sat X P) (k : ∀ a S, P a S → P' a S) (kx : ∀ c fs S, X c fs S → X' c fs S) : r.sat X' P' := by
  cases r with
  | ok a S => exact k a S h
  | exc c fs S => exact kx c fs S h
  | bad => exact h
theorem R.sat.imp {r : R α} {P P' : α → Store → Prop} (h : r.sat X P) (k : ∀ a S, P a S → P' a S) : r.sat X P' := h.mono k fun _ _ _ h => h
/-- what lets no exception out -/
theorem R.sat.no {r : R α} {P P' : α → Store → Prop} (h : r.sat noX P) (k : ∀ a S, P a S → P' a S) : r.sat X P' := h.mono k fun _ _ _ h => h.elim
theorem R.sat.ex {r : R α} {P : α → Store → Prop} (h : r.sat noX P) : ∃ a S, r = .ok a S ∧ P a S := by
  cases r with
  | ok a S => exact ⟨a, S, rfl, h⟩
  | exc c fs S => exact h.elim
  | bad => exact h.elim
theorem R.sat.eq {r : R α} {a : α} {S : Store} (h : r.sat noX fun x S' => x = a ∧ S' = S) : r = .ok a S := by
  obtain ⟨x, S', e, rfl, rfl⟩ := h.ex
  exact e
theorem satS_mono {r : RS} {E E' : EndsD} (h : satS r E) (h1 : ∀ ρ S, E.nx ρ S → E'.nx ρ S) (h2 : ∀ d S, E.rt d S → E'.rt d S) (h3 : ∀ ρ S, E.bk ρ S → E'.bk ρ S) (h4 : ∀ ρ S, E.ct ρ S → E'.ct ρ S) (h5 : ∀ c fs ρ S, E.ex c fs ρ S → E'.ex c fs ρ S) : satS r E' := by
  cases r with
  | nx ρ S => exact h1 _ _ h
  | rt d S => exact h2 _ _ h
  | bk ρ S => exact h3 _ _ h
  | ct ρ S => exact h4 _ _ h
  | exc c fs ρ S => exact h5 _ _ _ _ h
  | bad => exact h
theorem w_asO (z : α) (P : α → Prop) : asO (some z) P = P z := rfl
theorem w_ok (a : α) (P : α → Store → Prop) : (R.ok a S).sat X P = P a S := rfl
theorem w_bind (r : R α) (f : α → Store → R β) (P : β → Store → Prop) : (r.bind f).sat X P = r.sat X fun a S => (f a S).sat X P := by cases r <;> rfl
theorem w_up (o : Option D) : (up mu S o).sat X Q = asO o fun z => Q (mkU mu z S).1 (mkU mu z S).2 := by cases o <;> rfl
theorem w_upU (o : Option U) : (upU S o).sat X Q = asO o fun z => Q z S := by cases o <;> rfl
theorem mkU_f (z : D) : mkU false z S = (.d z, S) := by cases z <;> rfl
theorem mkU_l (ds : List D) : mkU true (.lst ds) S = (.ref S.length, S ++ [.lst ds]) := rfl
theorem mkU_d (ds : List (D × D)) : mkU true (.dct ds) S = (.ref S.length, S ++ [.dct ds]) := rfl
theorem mkU_i (i : Int) : mkU mu (.int i) S = (.d (.int i), S) := by cases mu <;> rfl
theorem mkU_b (i : Bool) : mkU mu (.bl i) S = (.d (.bl i), S) := by cases mu <;> rfl
theorem mkU_s (i : Str) : mkU mu (.str i) S = (.d (.str i), S) := by cases mu <;> rfl
theorem mkU_t (i : List D) : mkU mu (.tup i) S = (.d (.tup i), S) := by cases mu <;> rfl
theorem mkU_n : mkU mu .non S = (.d .non, S) := by cases mu <;> rfl
def cellV : Cell → Option D
  | .lst ds => some (.lst ds)
  | .dct kvs => some (.dct kvs)
  | .fz x => some x
  | _ => none
theorem vw_d (x : D) : vw S (.d x) = some x := rfl
theorem vw_ref (n : Nat) : vw S (.ref n) = (S[n]?).bind cellV := by
  unfold vw
  dsimp only
  cases S[n]? with
  | none => rfl
  | some c => cases c <;> rfl
def cellF (S : Store) (n : Nat) : Cell → Option (D × Store)
  | .lst ds => some (.lst ds, S.set n (.fz (.lst ds)))
  | .fz x => some (x, S)
  | _ => none
theorem fr_d (x : D) : fr S (.d x) = some (x, S) := rfl
theorem fr_ref (n : Nat) : fr S (.ref n) = (S[n]?).bind (cellF S n) := by
  unfold fr
  dsimp only
  cases S[n]? with
  | none => rfl
  | some c => cases c <;> rfl
theorem f1_d (f : F1) (x : D) : f1 f S (.d x) = f x := rfl
theorem f2_d (f : F2) (x y : D) : f2 f S (.d x) (.d y) = f x y := rfl
theorem f1_u (f : F1) (x : U) : f1 f S x = (vw S x).bind f := rfl
theorem f2_u (f : F2) (x y : U) : f2 f S x y = (vw S x).bind fun a => (vw S y).bind fun b => f a b := rfl
theorem fA_u (f : FA) (us : List U) : fA f S us = (vws S us).bind f := rfl
theorem vws_nil : vws S [] = some [] := rfl
theorem vws_cons (u : U) (us : List U) : vws S (u :: us) = (vw S u).bind fun x => (vws S us).bind fun xs => some (x :: xs) := by
  unfold vws
  rw [List.mapM_cons]
  cases vw S u <;> rfl
theorem ixU_d (x : D) (b : U) : ixU S (.d x) b = (f2 dIx S (.d x) b).map .d := rfl
def cellIx (S : Store) (n : Nat) (b : U) : Cell → Option U
  | .lsu us => (match b with
    | .d (.int i) => atI us i
    | _ => none)
  | _ => (f2 dIx S (.ref n) b).map .d
theorem ixU_ref (n : Nat) (b : U) : ixU S (.ref n) b = (match S[n]? with
    | some c => cellIx S n b c
    | none => (f2 dIx S (.ref n) b).map .d) := by
  unfold ixU
  dsimp only
  cases S[n]? with
  | none => rfl
  | some c => cases c <;> rfl
theorem w_V0 (d : U) : (gV 0 (some d :: ρ) S).sat X Q = Q d S := rfl
theorem w_VS (o : Option U) (i : Nat) : gV (i + 1) (o :: ρ) S = gV i ρ S := rfl
theorem w_C (d : D) : (gC d ρ S).sat X Q = Q (.d d) S := rfl
theorem w_O1 (f : F1) (a : G) : (gO1 mu f a ρ S).sat X Q = (a ρ S).sat X fun x S1 => asO (f1 f S1 x) fun z => Q (mkU mu z S1).1 (mkU mu z S1).2 := by
  show (R.bind _ _).sat X Q = _
  rw [w_bind]
  simp only [w_up]
theorem w_O2 (f : F2) (a b : G) : (gO2 mu f a b ρ S).sat X Q = (a ρ S).sat X fun x S1 => (b ρ S1).sat X fun y S2 => asO (f2 f S2 x y) fun z => Q (mkU mu z S2).1 (mkU mu z S2).2 := by
  show (R.bind _ _).sat X Q = _
  rw [w_bind]
  simp only [w_bind, w_up]
theorem w_OA (f : FA) (a : GA) : (gOA mu f a ρ S).sat X Q = (a ρ S).sat X fun xs S1 => asO (fA f S1 xs) fun z => Q (mkU mu z S1).1 (mkU mu z S1).2 := by
  show (R.bind _ _).sat X Q = _
  rw [w_bind]
  simp only [w_up]
theorem w_OU (f : FU) (a : GA) : (gOU mu f a ρ S).sat X Q = (a ρ S).sat X fun xs S1 => asO (f S1 xs) fun z => Q (mkU mu z S1).1 (mkU mu z S1).2 := by
  show (R.bind _ _).sat X Q = _
  rw [w_bind]
  simp only [w_up]
theorem w_ix (a b : G) : (gIx a b ρ S).sat X Q = (a ρ S).sat X fun x S1 => (b ρ S1).sat X fun y S2 => asO (ixU S2 x y) fun z => Q z S2 := by
  show (R.bind _ _).sat X Q = _
  rw [w_bind]
  simp only [w_bind, w_upU]
theorem w_call (F : FC) (a ka : GA) : (gCall F a ka ρ S).sat X Q = (a ρ S).sat X fun xs S1 => (ka ρ S1).sat X fun ws S2 => (F xs ws S2).sat X Q := by
  show (R.bind _ _).sat X Q = _
  rw [w_bind]
  simp only [w_bind]
theorem w_nil : (gNil ρ S).sat X QL = QL [] S := rfl
theorem w_cons (a : G) (r : GA) : (gCons a r ρ S).sat X QL = (a ρ S).sat X fun x S1 => (r ρ S1).sat X fun xs S2 => QL (x :: xs) S2 := by
  show (R.bind _ _).sat X QL = _
  rw [w_bind]
  simp only [w_bind, w_ok]
theorem w_dnil : (dNil ρ S).sat X QD = QD [] S := rfl
theorem w_upF {P : D → Store → Prop} (o : Option (D × Store)) : (upF o).sat X P = asO o fun p => P p.1 p.2 := by cases o <;> rfl
theorem w_dcons (a : G) (r : GAD) : (dCons a r ρ S).sat X QD = (a ρ S).sat X fun u S1 => asO (fr S1 u) fun p => (r ρ p.2).sat X fun xs S3 => QD (p.1 :: xs) S3 := by
  show (R.bind _ _).sat X QD = _
  rw [w_bind]
  simp only [w_bind, w_ok, w_upF]
theorem w_tup (a : GAD) : (gTup a ρ S).sat X Q = (a ρ S).sat X fun xs S1 => Q (.d (.tup xs)) S1 := w_bind _ _ _
theorem w_lst (a : GAD) : (gLst mu a ρ S).sat X Q = (a ρ S).sat X fun xs S1 => Q (mkU mu (.lst xs) S1).1 (mkU mu (.lst xs) S1).2 := w_bind _ _ _
theorem w_lstM (a : GA) : (gLstM a ρ S).sat X Q = (a ρ S).sat X fun xs S1 => Q (mkL xs S1).1 (mkL xs S1).2 := w_bind _ _ _
theorem mkL_nil : mkL [] S = (.ref S.length, S ++ [.lst []]) := rfl
theorem mkL_map (ds : List D) : mkL (ds.map U.d) S = (.ref S.length, S ++ [.lst ds]) := by unfold mkL; rw [allD_map]
theorem mkL_1 (a : D) : mkL [.d a] S = (.ref S.length, S ++ [.lst [a]]) := rfl
theorem mkL_5 (a b c d e : D) : mkL [.d a, .d b, .d c, .d d, .d e] S = (.ref S.length, S ++ [.lst [a, b, c, d, e]]) := rfl
theorem w_dct0 : (gDct0 mu ρ S).sat X Q = Q (mkU mu (.dct []) S).1 (mkU mu (.dct []) S).2 := rfl
theorem w_if (t : GT) (a b : G) : (gIf t a b ρ S).sat X Q = (t ρ S).sat X fun c S1 => if c = true then (a ρ S1).sat X Q else (b ρ S1).sat X Q := by
  show ((t ρ S).bind fun c S1 => if c = true then a ρ S1 else b ρ S1).sat X Q = _
  rw [w_bind]
  congr 1
  funext c S1
  cases c <;> rfl
theorem w_and (a b : G) : (gAnd a b ρ S).sat X Q = (a ρ S).sat X fun x S1 => asO (uBl x) fun c => if c = true then (b ρ S1).sat X Q else Q (.d (.bl false)) S1 := by
  show (R.bind _ _).sat X Q = _
  rw [w_bind]
  congr 1
  funext x S1
  cases uBl x with
  | none => rfl
  | some c => cases c <;> rfl
theorem w_or (a b : G) : (gOr a b ρ S).sat X Q = (a ρ S).sat X fun x S1 => asO (uBl x) fun c => if c = true then Q (.d (.bl true)) S1 else (b ρ S1).sat X Q := by
  show (R.bind _ _).sat X Q = _
  rw [w_bind]
  congr 1
  funext x S1
  cases uBl x with
  | none => rfl
  | some c => cases c <;> rfl
theorem w_not (a : G) : (gNot a ρ S).sat X Q = (a ρ S).sat X fun x S1 => asO (uBl x) fun c => Q (.d (.bl (!c))) S1 := by
  show (R.bind _ _).sat X Q = _
  rw [w_bind]
  congr 1
  funext x S1
  cases uBl x <;> rfl
theorem uBl_b (c : Bool) : uBl (.d (.bl c)) = some c := rfl
theorem uInt_i (c : Int) : uInt (.d (.int c)) = some c := rfl
theorem w_tAnd (a b : GT) : (gtAnd a b ρ S).sat X QB = (a ρ S).sat X fun c S1 => if c = true then (b ρ S1).sat X QB else QB false S1 := by
  show (R.bind _ _).sat X QB = _
  rw [w_bind]
  congr 1
  funext c S1
  cases c <;> rfl
theorem w_tOr (a b : GT) : (gtOr a b ρ S).sat X QB = (a ρ S).sat X fun c S1 => if c = true then QB true S1 else (b ρ S1).sat X QB := by
  show (R.bind _ _).sat X QB = _
  rw [w_bind]
  congr 1
  funext c S1
  cases c <;> rfl
theorem w_tNot (a : GT) : (gtNot a ρ S).sat X QB = (a ρ S).sat X fun c S1 => QB (!c) S1 := w_bind _ _ _
theorem w_tB (a : G) : (gtB a ρ S).sat X QB = (a ρ S).sat X fun x S1 => asO (uBl x) fun c => QB c S1 := by
  show (R.bind _ _).sat X QB = _
  rw [w_bind]
  congr 1
  funext x S1
  cases uBl x <;> rfl
theorem w_tTru (a : G) : (gtTru a ρ S).sat X QB = (a ρ S).sat X fun x S1 => asO ((vw S1 x).bind dTru) fun c => QB c S1 := by
  show (R.bind _ _).sat X QB = _
  rw [w_bind]
  congr 1
  funext x S1
  cases (vw S1 x).bind dTru <;> rfl
theorem w_chain (f f' : F2) (a b c : G) : (gChain f f' a b c ρ S).sat X Q = (a ρ S).sat X fun x S1 => (b ρ S1).sat X fun y S2 => asO ((f2 f S2 x y).bind fun z => uBl (.d z)) fun q => if q = true then (c ρ S2).sat X fun w S4 => asO (f2 f' S4 y w) fun z => Q (mkU false z S4).1 (mkU false z S4).2 else Q (.d (.bl false)) S2 := by
  show (R.bind _ _).sat X Q = _
  rw [w_bind]
  congr 1
  funext x S1
  rw [w_bind]
  congr 1
  funext y S2
  cases f2 f S2 x y with
  | none => rfl
  | some z =>
    cases z <;> try rfl
    rename_i q
    cases q
    · rfl
    · show (R.bind _ _).sat X Q = _
      rw [w_bind]
      simp only [w_up]
      rfl
theorem w_goN (P : Option Int → Store → Prop) : (goN ρ S).sat X P = P none S := rfl
theorem w_goS (a : G) (P : Option Int → Store → Prop) : (goS a ρ S).sat X P = (a ρ S).sat X fun x S1 => asO (uInt x) fun i => P (some i) S1 := by
  show (R.bind _ _).sat X P = _
  rw [w_bind]
  congr 1
  funext x S1
  cases uInt x <;> rfl
theorem w_sl (a : G) (lo hi : GO) : (gSl mu a lo hi ρ S).sat X Q = (a ρ S).sat X fun x S1 => (lo ρ S1).sat X fun l S2 => (hi ρ S2).sat X fun h S3 => asO (f1 (dSl l h) S3 x) fun z => Q (mkU mu z S3).1 (mkU mu z S3).2 := by
  show (R.bind _ _).sat X Q = _
  rw [w_bind]
  simp only [w_bind, w_up]
theorem w_attr (T : Tab) (f : Str) (a : G) : (gAttr T f a ρ S).sat X Q = (a ρ S).sat X fun u S1 => (attrR T f u S1).sat X Q := w_bind _ _ _
def methGo (T : Tab) (m : Str) (mu : Bool) (ks : List Str) (a ka : GA) (ρ : Env) (u : U) (S1 : Store) (k : Sum Str String) : R U := match k with
  | .inl c => (match T.mth c m with
    | some q => (a ρ S1).bind fun us S2 => (ka ρ S2).bind fun ws S3 => T.call q mu ks (u :: us) ws S3
    | none => .bad)
  | .inr t => (match mbFor m t with
    | some f => if ks.isEmpty then (a ρ S1).bind fun us S2 => match tyU S2 u with
      | some (.b t') => if t' = t then (match f mu S2 u us with
        | some (z, S') => .ok z S'
        | none => .bad) else .bad
      | _ => .bad else .bad
    | none => .bad)
theorem w_meth (T : Tab) (m : Str) (ks : List Str) (o : G) (a ka : GA) : (gMeth T m mu ks o a ka ρ S).sat X Q = (o ρ S).sat X fun u S1 => asO (methKind T m u S1) fun k => (methGo T m mu ks a ka ρ u S1 k).sat X Q := by
  show (R.bind _ _).sat X Q = _
  rw [w_bind]
  congr 1
  funext u S1
  cases methKind T m u S1 with
  | none => rfl
  | some k => cases k <;> rfl
def upM (o : Option (U × Store)) : R U := match o with
  | some p => .ok p.1 p.2
  | none => .bad
theorem w_upM (o : Option (U × Store)) : (upM o).sat X Q = asO o fun p => Q p.1 p.2 := by cases o <;> rfl
/-- a built-in method on a thing whose type is seen -/
def tyOk (S : Store) (u : U) (t : String) : Bool := match tyU S u with
  | some (.b t') => decide (t' = t)
  | _ => false
theorem w_mb (T : Tab) (m : Str) (a ka : GA) (u : U) (t : String) (f : FM) (h : mbFor m t = some f) : (methGo T m mu [] a ka ρ u S (.inr t)).sat X Q = (a ρ S).sat X fun us S2 => asO (if tyOk S2 u t = true then f mu S2 u us else none) fun p => Q p.1 p.2 := by
  unfold methGo
  dsimp only
  rw [h]
  dsimp only
  rw [show ([] : List Str).isEmpty = true from rfl, if_pos rfl, w_bind]
  congr 1
  funext us S2
  unfold tyOk
  cases tyU S2 u with
  | none => rfl
  | some t' =>
    cases t' with
    | c x => rfl
    | b t' =>
      dsimp only
      by_cases e : t' = t
      · rw [if_pos e, if_pos (by simpa using e)]
        cases f mu S2 u us <;> rfl
      · rw [if_neg e, if_neg (by simpa using e)]
        rfl
theorem w_mo (T : Tab) (m : Str) (ks : List Str) (a ka : GA) (u : U) (c q : Str) (h : T.mth c m = some q) : (methGo T m mu ks a ka ρ u S (.inl c)).sat X Q = (a ρ S).sat X fun us S2 => (ka ρ S2).sat X fun ws S3 => (T.call q mu ks (u :: us) ws S3).sat X Q := by
  unfold methGo
  dsimp only
  rw [h]
  dsimp only
  rw [w_bind]
  simp only [w_bind]
def mkCell (T : Tab) (m : Str) : Cell → Option (Sum Str String)
  | .lst _ => (mbFor m "list").map fun _ => .inr "list"
  | .lsu _ => (mbFor m "list").map fun _ => .inr "list"
  | .dct _ => (mbFor m "dict").map fun _ => .inr "dict"
  | .ins c fs => (T.mth c m).bind fun _ => if (fs.lookup m).isNone then some (.inl c) else none
  | .fz x => methKind T m (.d x) []
theorem mk_ref (T : Tab) (m : Str) (n : Nat) : methKind T m (.ref n) S = (S[n]?).bind (mkCell T m) := by
  unfold methKind insU tyU
  dsimp only
  cases S[n]? with
  | none => rfl
  | some c =>
    cases c with
    | lst ds => simp only [mkCell, Option.bind_some]; cases mbFor m "list" <;> rfl
    | lsu ds => simp only [mkCell, Option.bind_some]; cases mbFor m "list" <;> rfl
    | dct ds => simp only [mkCell, Option.bind_some]; cases mbFor m "dict" <;> rfl
    | ins c fs => dsimp only; cases h : T.mth c m <;> simp [mkCell, h]
    | fz x => cases x <;> rfl
theorem mk_str (T : Tab) (m : Str) (x : Str) : methKind T m (.d (.str x)) S = (mbFor m "str").map fun _ => .inr "str" := by
  unfold methKind insU tyU tyD
  dsimp only
  cases mbFor m "str" <;> rfl
theorem mk_ins (T : Tab) (m c : Str) (fs : List (Str × D)) : methKind T m (.d (.ins c fs)) S = (T.mth c m).bind fun _ => if ((dFs fs).lookup m).isNone then some (.inl c) else none := by
  unfold methKind insU
  dsimp only
  cases T.mth c m <;> rfl
theorem mb_append : mbFor "append" "list" = some mAppend := rfl
theorem mb_insert : mbFor "insert" "list" = some mInsert := rfl
theorem mb_clear : mbFor "clear" "list" = some mClear := rfl
theorem mb_pop : mbFor "pop" "list" = some mPop := rfl
theorem mb_clearD : mbFor "clear" "dict" = some mClearD := rfl
theorem mb_join : mbFor "join" "str" = some mJoin := rfl
/-! statements -/
theorem s_nil : satS (sNil ρ S) E = E.nx ρ S := rfl
theorem s_seq (a b : GS) : satS (sSeq a b ρ S) E = satS (a ρ S) { E with nx := fun ρ' S' => satS (b ρ' S') E } := by
  unfold sSeq
  cases a ρ S <;> rfl
theorem s_bindS (r : R α) (f : α → Store → RS) : satS (bindS ρ r f) E = r.sat (fun c fs S' => E.ex c fs ρ S') fun a S1 => satS (f a S1) E := by cases r <;> rfl
theorem s_drop (a : G) : satS (sDrop a ρ S) E = (a ρ S).sat (fun c fs S' => E.ex c fs ρ S') fun _ S1 => E.nx ρ S1 := s_bindS _ _
theorem s_ret (a : G) : satS (sRet a ρ S) E = (a ρ S).sat (fun c fs S' => E.ex c fs ρ S') E.rt := s_bindS _ _
theorem s_retN : satS (sRetN ρ S) E = E.rt (.d .non) S := rfl
theorem s_if (t : GT) (a b : GS) : satS (sIf t a b ρ S) E = (t ρ S).sat (fun c fs S' => E.ex c fs ρ S') fun c S1 => if c = true then satS (a ρ S1) E else satS (b ρ S1) E := by
  show satS (bindS _ _ _) E = _
  rw [s_bindS]
  congr 1
  funext c S1
  cases c <;> rfl
theorem s_asg (a : G) (t : GTg) : satS (sAsg a t ρ S) E = (a ρ S).sat (fun c fs S' => E.ex c fs ρ S') fun d S1 => asO (t d ρ S1) fun p => E.nx p.1 p.2 := by
  show satS (bindS _ _ _) E = _
  rw [s_bindS]
  congr 1
  funext d S1
  cases t d ρ S1 <;> rfl
theorem s_par (is : List Nat) (a : GA) : satS (sPar is a ρ S) E = (a ρ S).sat (fun c fs S' => E.ex c fs ρ S') fun ds S1 => ds.length = is.length ∧ E.nx (setAll is.reverse ds.reverse ρ) S1 := by
  show satS (bindS _ _ _) E = _
  rw [s_bindS]
  congr 1
  funext ds S1
  by_cases h : ds.length = is.length
  · simp [h, satS]
  · simp [h, satS]
theorem s_par2 (i j : Nat) (a b : G) : satS (sPar [i, j] (gCons a (gCons b gNil)) ρ S) E = (a ρ S).sat (fun c fs S' => E.ex c fs ρ S') fun x S1 => (b ρ S1).sat (fun c fs S' => E.ex c fs ρ S') fun y S2 => E.nx ((ρ.set j (some y)).set i (some x)) S2 := by
  rw [s_par, w_cons]
  congr 1
  funext x S1
  rw [w_cons]
  congr 1
  funext y S2
  rw [w_nil]
  exact propext ⟨fun h => h.2, fun h => ⟨rfl, h⟩⟩
theorem s_par3 (i j k : Nat) (a b c : G) : satS (sPar [i, j, k] (gCons a (gCons b (gCons c gNil))) ρ S) E = (a ρ S).sat (fun c fs S' => E.ex c fs ρ S') fun x S1 => (b ρ S1).sat (fun c fs S' => E.ex c fs ρ S') fun y S2 => (c ρ S2).sat (fun c fs S' => E.ex c fs ρ S') fun z S3 => E.nx (((ρ.set k (some z)).set j (some y)).set i (some x)) S3 := by
  rw [s_par, w_cons]
  congr 1
  funext x S1
  rw [w_cons]
  congr 1
  funext y S2
  rw [w_cons]
  congr 1
  funext z S3
  rw [w_nil]
  exact propext ⟨fun h => h.2, fun h => ⟨rfl, h⟩⟩
theorem s_asgT (n : Nat) (a : GA) (t : GTgs) : satS (sAsgT n a t ρ S) E = (a ρ S).sat (fun c fs S' => E.ex c fs ρ S') fun us S1 => us.length = n ∧ asO (t us ρ S1) fun p => E.nx p.1 p.2 := by
  show satS (bindS _ _ _) E = _
  rw [s_bindS]
  congr 1
  funext us S1
  by_cases h : us.length = n
  · rw [if_pos h]
    cases t us ρ S1 with
    | none => simp [asO, satS]
    | some p => simp [asO, satS, h]
  · rw [if_neg h]; simp [satS, h]
theorem s_aug0 (op : Operator) (a : G) (m : Int) : satS (sAug 0 op a (some (.d (.int m)) :: ρ) S) E = (a (some (.d (.int m)) :: ρ) S).sat (fun c fs S' => E.ex c fs (some (.d (.int m)) :: ρ) S') fun y S1 => asO ((uInt y).bind fun n => augI op m n) fun k => E.nx (some (.d (.int k)) :: ρ) S1 := by
  show satS (bindS _ _ _) E = _
  rw [s_bindS]
  congr 1
  funext y S1
  cases uInt y with
  | none => rfl
  | some n => 
    dsimp only [Option.bind_some]
    cases augI op m n <;> rfl
theorem s_aug (i : Nat) (op : Operator) (a : G) : satS (sAug i op a ρ S) E = asO ((ρ[i]?).bind fun o => o.bind uInt) fun m => (a ρ S).sat (fun c fs S' => E.ex c fs ρ S') fun y S1 => asO ((uInt y).bind fun n => augI op m n) fun k => E.nx (ρ.set i (some (.d (.int k)))) S1 := by
  unfold sAug
  cases h : ρ[i]? with
  | none => rfl
  | some o =>
    cases o with
    | none => rfl
    | some u =>
      cases u with
      | ref n => rfl
      | d x =>
        cases x <;> try rfl
        rename_i m
        show satS (bindS _ _ _) E = _
        rw [s_bindS]
        show _ = (a ρ S).sat _ _
        congr 1
        funext y S1
        cases uInt y with
        | none => rfl
        | some n =>
          dsimp only [Option.bind_some]
          cases augI op m n <;> rfl
theorem s_break : satS (sBreak ρ S) E = E.bk ρ S := rfl
theorem s_cont : satS (sCont ρ S) E = E.ct ρ S := rfl
theorem t_name (i : Nat) (d : U) : tgName i d ρ S = some (ρ.set i (some d), S) := rfl
theorem set0 (o p : Option U) : List.set (o :: ρ) 0 p = p :: ρ := rfl
theorem setS (o p : Option U) (i : Nat) : List.set (o :: ρ) (i + 1) p = o :: List.set ρ i p := rfl
theorem w_end (r : RS) : (endR r).sat X Q = satS r { nx := fun _ S => Q (.d .non) S, rt := Q, ex := fun c fs _ S => X c fs S } := by cases r <;> rfl
theorem t_sub (o i : G) (d : U) (P : Env × Store → Prop) : asO (tgSub o i d ρ S) P = (o ρ S).sat noX fun x S1 => (i ρ S1).sat noX fun y S2 => asO (dPut S2 x y d) fun S3 => P (ρ, S3) := by
  unfold tgSub
  cases o ρ S with
  | ok x S1 =>
    dsimp only [R.sat]
    cases i ρ S1 with
    | ok y S2 =>
      dsimp only
      cases dPut S2 x y d <;> rfl
    | exc c fs S => rfl
    | bad => rfl
  | exc c fs S => rfl
  | bad => rfl
theorem t_attr (T : Tab) (o : G) (f : Str) (d : U) (P : Env × Store → Prop) : asO (tgAttr T o f d ρ S) P = (o ρ S).sat noX fun x S1 => asO (attrPut T S1 x f d) fun S3 => P (ρ, S3) := by
  unfold tgAttr
  cases o ρ S with
  | ok x S1 => dsimp only [R.sat]; cases attrPut T S1 x f d <;> rfl
  | exc c fs S => rfl
  | bad => rfl
theorem asO_bind {γ : Type} (o : Option α) (f : α → Option γ) (P : γ → Prop) : asO (o.bind f) P = asO o fun x => asO (f x) P := by cases o <;> rfl
theorem asO_map {γ : Type} (o : Option α) (f : α → γ) (P : γ → Prop) : asO (o.map f) P = asO o fun x => P (f x) := by cases o <;> rfl
theorem asO_if (c : Prop) [Decidable c] (a : α) (P : α → Prop) : asO (if c then some a else none) P = (c ∧ P a) := by
  by_cases h : c
  · rw [if_pos h]; exact propext ⟨fun p => ⟨h, p⟩, fun p => p.2⟩
  · rw [if_neg h]; exact propext ⟨fun p => p.elim, fun p => absurd p.1 h⟩
theorem t_tup (n : Nat) (u : GTgs) (d : U) (P : Env × Store → Prop) : asO (tgTup n u d ρ S) P = asO (itemsU S d) fun ds => ds.length = n ∧ asO (u ds ρ S) P := by
  show asO ((itemsU S d).bind _) P = _
  rw [asO_bind]
  congr 1
  funext ds
  by_cases h : ds.length = n
  · rw [if_pos h]; exact propext ⟨fun p => ⟨h, p⟩, fun p => p.2⟩
  · rw [if_neg h]; exact propext ⟨fun p => p.elim, fun p => absurd p.1 h⟩
theorem t_nil : tgNil [] ρ S = some (ρ, S) := rfl
theorem t_cons (t : GTg) (u : GTgs) (d : U) (ds : List U) (P : Env × Store → Prop) : asO (tgCons t u (d :: ds) ρ S) P = asO (t d ρ S) fun p => asO (u ds p.1 p.2) P := by
  show asO ((t d ρ S).bind _) P = _
  rw [asO_bind]
theorem it_tup (ds : List D) : itemsU S (.d (.tup ds)) = some (ds.map U.d) := rfl
theorem it_lst (ds : List D) : itemsU S (.d (.lst ds)) = some (ds.map U.d) := rfl
/-! loops -/
theorem forGo_sat {src : Src} {tg : GTg} {body : GS} {E : EndsD} (N : Nat) (item : Nat → U) (I : Nat → Env → Store → Prop)
    (hs : ∀ i ρ S, i ≤ N → I i ρ S → src i S = if i < N then some (some (item i)) else some none)
    (step : ∀ i ρ S, i < N → I i ρ S → asO (tg (item i) ρ S) fun p => satS (body p.1 p.2) { nx := I (i + 1), ct := I (i + 1), bk := E.nx, rt := E.rt, ex := E.ex })
    (fin : ∀ ρ S, I N ρ S → E.nx ρ S) : ∀ (k i m : Nat) (ρ : Env) (S : Store), N - i = k → i ≤ N → N < i + m → I i ρ S → satS (forGo src tg body m i ρ S) E
  | _, i, 0, _, _, _, hi, hm, _ => absurd hm (by omega)
  | k, i, m + 1, ρ, S, hk, hi, hm, h => by
    have hs' := hs i ρ S hi h
    unfold forGo
    by_cases hlt : i < N
    · rw [if_pos hlt] at hs'
      rw [hs']
      have st := step i ρ S hlt h
      dsimp only
      cases ht : tg (item i) ρ S with
      | none => rw [ht] at st; exact st.elim
      | some p =>
        obtain ⟨ρ1, S1⟩ := p
        rw [ht] at st
        have st' : satS (body ρ1 S1) { nx := I (i + 1), ct := I (i + 1), bk := E.nx, rt := E.rt, ex := E.ex } := st
        dsimp only
        cases hb : body ρ1 S1 with
        | nx ρ2 S2 => rw [hb] at st'; exact forGo_sat N item I hs step fin (k - 1) (i + 1) m ρ2 S2 (by omega) (by omega) (by omega) st'
        | ct ρ2 S2 => rw [hb] at st'; exact forGo_sat N item I hs step fin (k - 1) (i + 1) m ρ2 S2 (by omega) (by omega) (by omega) st'
        | bk ρ2 S2 => rw [hb] at st'; exact st'
        | rt d S2 => rw [hb] at st'; exact st'
        | exc c fs ρ2 S2 => rw [hb] at st'; exact st'
        | bad => rw [hb] at st'; exact st'.elim
    · rw [if_neg hlt] at hs'
      rw [hs']
      have : i = N := by omega
      subst this
      exact fin ρ S h
theorem s_for (it : GI) (tg : GTg) (body : GS) : satS (sFor it tg body ρ S) E = (it ρ S).sat (fun c fs S' => E.ex c fs ρ S') fun src S1 => satS (forGo src tg body lim 0 ρ S1) E := s_bindS _ _
/-- a loop by a measure -/
theorem whileGo_sat {t : GT} {body : GS} {E : EndsD} (I : Env → Store → Prop) (μ : Env → Store → Nat)
    (step : ∀ ρ S, I ρ S → (t ρ S).sat (fun c fs S' => E.ex c fs ρ S') fun c S1 => if c = true then satS (body ρ S1) { nx := fun ρ2 S2 => I ρ2 S2 ∧ μ ρ2 S2 < μ ρ S, ct := fun ρ2 S2 => I ρ2 S2 ∧ μ ρ2 S2 < μ ρ S, bk := E.nx, rt := E.rt, ex := E.ex } else E.nx ρ S1) :
    ∀ (m : Nat) (ρ : Env) (S : Store), I ρ S → μ ρ S < m → satS (whileGo t body m ρ S) E
  | 0, _, _, _, hm => absurd hm (by omega)
  | m + 1, ρ, S, h, hm => by
    have st := step ρ S h
    unfold whileGo
    rw [s_bindS]
    refine st.imp fun c S1 hc => ?_
    cases c with
    | false => exact hc
    | true =>
      have hc' : satS (body ρ S1) { nx := fun ρ2 S2 => I ρ2 S2 ∧ μ ρ2 S2 < μ ρ S, ct := fun ρ2 S2 => I ρ2 S2 ∧ μ ρ2 S2 < μ ρ S, bk := E.nx, rt := E.rt, ex := E.ex } := hc
      rw [if_pos rfl]
      cases hb : body ρ S1 with
      | nx ρ2 S2 => rw [hb] at hc'; exact whileGo_sat I μ step m ρ2 S2 hc'.1 (by have := hc'.2; omega)
      | ct ρ2 S2 => rw [hb] at hc'; exact whileGo_sat I μ step m ρ2 S2 hc'.1 (by have := hc'.2; omega)
      | bk ρ2 S2 => rw [hb] at hc'; exact hc'
      | rt d S2 => rw [hb] at hc'; exact hc'
      | exc c fs ρ2 S2 => rw [hb] at hc'; exact hc'
      | bad => rw [hb] at hc'; exact hc'.elim
theorem s_while (t : GT) (body : GS) : satS (sWhile t body ρ S) E = satS (whileGo t body lim ρ S) E := rfl
theorem w_upI (o : Option Src) (P : Src → Store → Prop) : (upI o S).sat X P = asO o fun s => P s S := by cases o <;> rfl
theorem w_giE (a : G) (P : Src → Store → Prop) : (giE a ρ S).sat X P = (a ρ S).sat X fun d S1 => asO (iterU S1 d) fun s => P s S1 := by
  show (R.bind _ _).sat X P = _
  rw [w_bind]; simp only [w_upI]
theorem w_gir1 (a : GA) (P : Src → Store → Prop) : (giRange1 a ρ S).sat X P = (a ρ S).sat X fun ds S1 => asO (rangeOf1 ds) fun s => P s S1 := by
  show (R.bind _ _).sat X P = _
  rw [w_bind]; simp only [w_upI]
theorem w_gir2 (a : GA) (P : Src → Store → Prop) : (giRange2 a ρ S).sat X P = (a ρ S).sat X fun ds S1 => asO (rangeOf2 ds) fun s => P s S1 := by
  show (R.bind _ _).sat X P = _
  rw [w_bind]; simp only [w_upI]
theorem w_gizip (a : GA) (P : Src → Store → Prop) : (giZip a ρ S).sat X P = (a ρ S).sat X fun ds S1 => asO (zipOf S1 ds) fun s => P s S1 := by
  show (R.bind _ _).sat X P = _
  rw [w_bind]; simp only [w_upI]
theorem w_gienum (a : GA) (P : Src → Store → Prop) : (giEnum a ρ S).sat X P = (a ρ S).sat X fun ds S1 => asO (enumOf S1 ds) fun s => P s S1 := by
  show (R.bind _ _).sat X P = _
  rw [w_bind]; simp only [w_upI]
def testLc (t : Option GT) : GT := fun ρ S => match t with
  | none => .ok true S
  | some t => t ρ S
theorem lcGo_some {src : Src} {ct : CT} {t : Option GT} {el : G} {n : Nat} {ρw ρ1 : Env} {m i : Nat} {d : U} (h : src i S = some (some d)) (hp : ct.put d ρw = some ρ1) : lcGo src ct t el n ρw (m + 1) i S = match testLc t ρ1 S with
    | .ok true S1 => (match el ρ1 S1 with
      | .ok y S2 => (match fr S2 y with
        | some (x, S3) => (match S3[n]? with
          | some (.lst acc) => if acc.length < sizeLine then lcGo src ct t el n ρw m (i + 1) (S3.set n (.lst (acc ++ [x]))) else none
          | _ => none)
        | none => none)
      | _ => none)
    | .ok false S1 => lcGo src ct t el n ρw m (i + 1) S1
    | _ => none := by
  rw [lcGo, h]
  dsimp only
  rw [hp]
  cases t <;> rfl
theorem lcGo_sat {src : Src} {ct : CT} {t : Option GT} {el : G} {n : Nat} {ρw : Env} {Q : Store → Prop} (N : Nat) (item : Nat → U) (I : Nat → List D → Store → Prop)
    (hs : ∀ i acc S, i ≤ N → I i acc S → src i S = if i < N then some (some (item i)) else some none)
    (step : ∀ i acc S, i < N → I i acc S → asO (ct.put (item i) ρw) fun ρ1 => (testLc t ρ1 S).sat noX fun c S1 => if c = true then (el ρ1 S1).sat noX fun y S2 => asO (fr S2 y) fun p => p.2[n]? = some (.lst acc) ∧ acc.length < sizeLine ∧ I (i + 1) (acc ++ [p.1]) (p.2.set n (.lst (acc ++ [p.1]))) else I (i + 1) acc S1)
    (fin : ∀ acc S, I N acc S → Q S) : ∀ (k i m : Nat) (acc : List D) (S : Store), N - i = k → i ≤ N → N < i + m → I i acc S → ∃ S2, lcGo src ct t el n ρw m i S = some S2 ∧ Q S2
  | _, i, 0, _, _, _, hi, hm, _ => absurd hm (by omega)
  | k, i, m + 1, acc, S, hk, hi, hm, h => by
    have hs' := hs i acc S hi h
    by_cases hlt : i < N
    · rw [if_pos hlt] at hs'
      have st := step i acc S hlt h
      cases hp : ct.put (item i) ρw with
      | none => rw [hp] at st; exact st.elim
      | some ρ1 =>
        rw [hp] at st
        have st2 : (testLc t ρ1 S).sat noX fun c S1 => if c = true then (el ρ1 S1).sat noX fun y S2 => asO (fr S2 y) fun p => p.2[n]? = some (.lst acc) ∧ acc.length < sizeLine ∧ I (i + 1) (acc ++ [p.1]) (p.2.set n (.lst (acc ++ [p.1]))) else I (i + 1) acc S1 := st
        rw [lcGo_some hs' hp]
        cases hc : testLc t ρ1 S with
        | ok c S1 =>
          rw [hc] at st2
          have st3 : if c = true then (el ρ1 S1).sat noX fun y S2 => asO (fr S2 y) fun p => p.2[n]? = some (.lst acc) ∧ acc.length < sizeLine ∧ I (i + 1) (acc ++ [p.1]) (p.2.set n (.lst (acc ++ [p.1]))) else I (i + 1) acc S1 := st2
          cases c with
          | true =>
            rw [if_pos rfl] at st3
            dsimp only
            obtain ⟨y, S2, e1, e2⟩ := R.sat.ex st3
            rw [e1]
            dsimp only
            cases hf : fr S2 y with
            | none => rw [hf] at e2; exact e2.elim
            | some p =>
              obtain ⟨x, S3⟩ := p
              rw [hf] at e2
              have e3 : S3[n]? = some (.lst acc) ∧ acc.length < sizeLine ∧ I (i + 1) (acc ++ [x]) (S3.set n (.lst (acc ++ [x]))) := e2
              dsimp only
              rw [e3.1]
              dsimp only
              rw [if_pos e3.2.1]
              exact lcGo_sat N item I hs step fin (k - 1) (i + 1) m _ _ (by omega) (by omega) (by omega) e3.2.2
          | false =>
            rw [if_neg (by decide)] at st3
            dsimp only
            exact lcGo_sat N item I hs step fin (k - 1) (i + 1) m _ _ (by omega) (by omega) (by omega) st3
        | exc c fs S1 => rw [hc] at st2; exact st2.elim
        | bad => rw [hc] at st2; exact st2.elim
    · rw [if_neg hlt] at hs'
      have : i = N := by omega
      subst this
      exact ⟨S, by rw [lcGo, hs'], fin acc S h⟩
theorem w_lc (it : GI) (ct : CT) (t : Option GT) (el : G) (vs : List Nat) : (gLc mu it ct t el vs ρ S).sat X Q = (it ρ S).sat X fun src S1 => asO (lcGo src ct t el S1.length (wipeD ρ vs) lim 0 (S1 ++ [.lst []])) fun S2 => (frzLst mu S1 S2).sat X Q := by
  show (R.bind _ _).sat X Q = _
  rw [w_bind]
  congr 1
  funext src S1
  cases h : lcGo src ct t el S1.length (wipeD ρ vs) lim 0 (S1 ++ [.lst []]) with
  | none => simp [R.sat, asO]
  | some S2 => simp [asO]
end
end
end Dv
set_option maxRecDepth 100000
set_option maxHeartbeats 1000000
namespace Dv
open PySem PySem.Spec PyProof.Rows L2
noncomputable section
/-! ### defs with a keyword-only parameter and a starred one -/
theorem bindF_both {q n pv : Str} {d : FD} {v : D} (hk : d.ko = some (n, v)) (hv : d.va = some pv)
    (h00 : ∀ (Da : Addr) (doc pm : Value) (an : Option Addr) (cdv ct m : Value) (us : List Value), us.length = d.ps.length →
      KwEnd Da n m (bindArgs (PySem.W.fnOf d.nm q (defArgs d.st) (defBody d.st) (defScope d.st) .none (.ref Da) doc pm an cdv ct) ⟨us, []⟩) (newTuple [] >>= fun t => pure (d.ps.zip us ++ [(n, m)] ++ [(pv, t)])))
    (h01 : ∀ (Da : Addr) (doc pm : Value) (an : Option Addr) (cdv ct m : Value) (us : List Value) (r : Value) (rs : List Value), us.length = d.ps.length →
      KwEnd Da n m (bindArgs (PySem.W.fnOf d.nm q (defArgs d.st) (defBody d.st) (defScope d.st) .none (.ref Da) doc pm an cdv ct) ⟨us ++ r :: rs, []⟩) (newTuple (r :: rs) >>= fun t => pure (d.ps.zip us ++ [(n, m)] ++ [(pv, t)])))
    (h10 : ∀ (kV doc pm : Value) (an : Option Addr) (cdv ct m : Value) (us : List Value), us.length = d.ps.length →
      bindArgs (PySem.W.fnOf d.nm q (defArgs d.st) (defBody d.st) (defScope d.st) .none kV doc pm an cdv ct) ⟨us, [(n, m)]⟩ = newTuple [] >>= fun t => pure (d.ps.zip us ++ [(n, m)] ++ [(pv, t)]))
    (h11 : ∀ (kV doc pm : Value) (an : Option Addr) (cdv ct m : Value) (us : List Value) (r : Value) (rs : List Value), us.length = d.ps.length →
      bindArgs (PySem.W.fnOf d.nm q (defArgs d.st) (defBody d.st) (defScope d.st) .none kV doc pm an cdv ct) ⟨us ++ r :: rs, [(n, m)]⟩ = newTuple (r :: rs) >>= fun t => pure (d.ps.zip us ++ [(n, m)] ++ [(pv, t)])) : BindF q d := by
  unfold BindF
  rw [hk]
  refine ⟨fun Da doc pm an cdv ct m us rest hl hr => ?_, fun kV doc pm an cdv ct m us rest hl hr => ?_⟩
  · rw [hv]
    cases rest with
    | nil => rw [List.append_nil]; exact h00 Da doc pm an cdv ct m us hl
    | cons r rs => exact h01 Da doc pm an cdv ct m us r rs hl
  · rw [hv]
    cases rest with
    | nil => rw [List.append_nil]; exact h10 kV doc pm an cdv ct m us hl
    | cons r rs => exact h11 kV doc pm an cdv ct m us r rs hl
/-- a def with a starred parameter, called with data for it -/
theorem ck_va {T : Tab} {gk : Str → Option GK} {muA : List Str} {tab : Str → Option FD} {k : Nat} {q v : Str} {mu : Bool} {ks : List Str} {d : FD} {us ws kv : List U} {ds : List D} {S : Store} (h1 : tab q = some d) (h2 : koU d.ko ks ws = some kv) (h3 : d.va = some v) (h4 : us.length = d.ps.length) (h5 : us.length + ds.length ≤ 1000) :
    CK T gk muA tab (k + 1) q mu ks (us ++ ds.map U.d) ws S = cutR mu S (runF d.N (bodyG (T.with (CK T gk muA tab k)) (d.sc gk muA mu) (defBody d.st)) (us ++ kv ++ [.d (.tup ds)]) S) := by
  have e : bindU d ks (us ++ ds.map U.d) ws = some (us ++ kv ++ [.d (.tup ds)]) := by
    unfold bindU
    rw [h2, h3]
    show (if d.ps.length ≤ (us ++ ds.map U.d).length ∧ (us ++ ds.map U.d).length ≤ 1000 then _ else none) = _
    rw [if_pos ⟨by rw [List.length_append]; omega, by rw [List.length_append, List.length_map]; exact h5⟩, ← h4, List.drop_left, List.take_left, datas_map]
    rfl
  show (match tab q with
    | some d => callF (T.with (CK T gk muA tab k)) gk muA d mu ks (us ++ ds.map U.d) ws S
    | none => .bad) = _
  rw [h1]
  show (match bindU d ks (us ++ ds.map U.d) ws with
    | some as => cutR mu S (runF d.N (bodyG (T.with (CK T gk muA tab k)) (d.sc gk muA mu) (defBody d.st)) as S)
    | none => .bad) = _
  rw [e]
end
end Dv
set_option maxRecDepth 100000
set_option maxHeartbeats 1000000
namespace Dv
open PySem PySem.Spec PyProof.Rows L2
noncomputable section
/-! ### plain rules for own methods, starred things and instances -/
section
variable {α β : Type} {X : XQ} {Q : U → Store → Prop} {QL : List U → Store → Prop} {QB : Bool → Store → Prop} {ρ : Env} {S : Store} {mu : Bool} {T : Tab}
/-- no own instance -/
def noI (S : Store) (u : U) : Bool := (insU S u).isNone
def noC : Cell → Bool
  | .ins _ _ => false
  | .fz (.ins _ _) => false
  | _ => true
def noD : D → Bool
  | .ins _ _ => false
  | _ => true
theorem noI_d (x : D) : noI S (.d x) = noD x := by cases x <;> rfl
theorem noI_r (n : Nat) : noI S (.ref n) = (S[n]?).elim true noC := by
  unfold noI insU
  dsimp only
  cases S[n]? with
  | none => rfl
  | some c =>
    cases c <;> try rfl
    rename_i x
    cases x <;> rfl
theorem ownM_no {u : U} {m : Str} (h : noI S u = true) : ownM T S u m = none := by
  unfold ownM
  unfold noI at h
  rw [Option.isNone_iff_eq_none.mp h]
theorem ni_int (i : Int) : noD (.int i) = true := rfl
theorem ni_str (i : Str) : noD (.str i) = true := rfl
theorem ni_bl (i : Bool) : noD (.bl i) = true := rfl
theorem ni_non : noD .non = true := rfl
theorem ni_tup (i : List D) : noD (.tup i) = true := rfl
theorem ni_lst (i : List D) : noD (.lst i) = true := rfl
theorem ni_dct (i : List (D × D)) : noD (.dct i) = true := rfl
theorem nc_lst (i : List D) : noC (.lst i) = true := rfl
theorem nc_lsu (i : List U) : noC (.lsu i) = true := rfl
theorem nc_dct (i : List (D × D)) : noC (.dct i) = true := rfl
theorem w_OR (f : Store → List U → R U) (a : GA) : (gOR f a ρ S).sat X Q = (a ρ S).sat X fun us S1 => (okR (f S1 us)).sat X Q := w_bind _ _ _
theorem w_cmp (op : CmpOp) (f : F2) (a b : G) : (gCmp T op f a b ρ S).sat X Q = (a ρ S).sat X fun x S1 => (b ρ S1).sat X fun y S2 => (cmpR T op f x y S2).sat X Q := by
  show (R.bind _ _).sat X Q = _
  rw [w_bind]
  simp only [w_bind]
theorem upf (o : Option D) : (up false S o).sat X Q = asO o fun z => Q (.d z) S := by
  rw [w_up]; cases o with
  | none => rfl
  | some z => show Q _ _ = _; rw [mkU_f]; rfl
theorem cmp_no (op : CmpOp) (f : F2) (x y : U) (hx : noI S x = true) (hy : noI S y = true) : (cmpR T op f x y S).sat X Q = asO (f2 f S x y) fun z => Q (.d z) S := by
  have e : ownCmp T op S x y = none := by
    cases op <;> simp only [ownCmp, ownM_no hx, ownM_no hy, Option.map_none]
  unfold cmpR
  rw [e]
  exact upf _
theorem cmp_eq (f : F2) (x y : U) (hx : noI S x = true) : (cmpR T .Eq f x y S).sat X Q = asO (f2 f S x y) fun z => Q (.d z) S := by
  have e : ownCmp T .Eq S x y = none := by simp only [ownCmp, ownM_no hx, Option.map_none]
  unfold cmpR
  rw [e]
  exact upf _
theorem cmp_ne (f : F2) (x y : U) (hx : noI S x = true) : (cmpR T .NotEq f x y S).sat X Q = asO (f2 f S x y) fun z => Q (.d z) S := by
  have e : ownCmp T .NotEq S x y = none := by simp only [ownCmp, ownM_no hx, Option.map_none]
  unfold cmpR
  rw [e]
  exact upf _
theorem cmp_in (f : F2) (x y : U) (hy : noI S y = true) : (cmpR T .In f x y S).sat X Q = asO (f2 f S x y) fun z => Q (.d z) S := by
  have e : ownCmp T .In S x y = none := by simp only [ownCmp, ownM_no hy, Option.map_none]
  unfold cmpR
  rw [e]
  exact upf _
theorem cmp_ni (f : F2) (x y : U) (hy : noI S y = true) : (cmpR T .NotIn f x y S).sat X Q = asO (f2 f S x y) fun z => Q (.d z) S := by
  have e : ownCmp T .NotIn S x y = none := by simp only [ownCmp, ownM_no hy, Option.map_none]
  unfold cmpR
  rw [e]
  exact upf _
/-- the own == asked -/
theorem cmp_own {f : F2} {x y : U} {c q : Str} {t : TyD} {z : Bool} (h1 : ownM T S x "__eq__" = some (c, q)) (h2 : tyU S y = some t) (h3 : T.nf c t = true) (h : T.call q false [] [x, y] [] S = .ok (.d (.bl z)) S) : (cmpR T .Eq f x y S).sat X Q = Q (.d (.bl z)) S := by
  have e : ownCmp T .Eq S x y = some (some (q, [x, y], false)) := by
    simp only [ownCmp, h1, Option.map_some, h2, h3, if_true]
  unfold cmpR
  rw [e]
  dsimp only
  rw [h]
  show Q (.d (.bl (z != false))) S = _
  cases z <;> rfl
theorem cmp_nown {f : F2} {x y : U} {c q : Str} {t : TyD} {z : Bool} (h1 : ownM T S x "__eq__" = some (c, q)) (h2 : tyU S y = some t) (h3 : T.nf c t = true) (h4 : T.neq c = true) (h : T.call q false [] [x, y] [] S = .ok (.d (.bl z)) S) : (cmpR T .NotEq f x y S).sat X Q = Q (.d (.bl (!z))) S := by
  have e : ownCmp T .NotEq S x y = some (some (q, [x, y], true)) := by
    simp only [ownCmp, h1, Option.map_some, h2, h3, h4, Bool.and_self, if_true]
  unfold cmpR
  rw [e]
  dsimp only
  rw [h]
  show Q (.d (.bl (z != true))) S = _
  cases z <;> rfl
theorem w_bin (op : Operator) (f : F2) (a b : G) : (gBin T mu op f a b ρ S).sat X Q = (a ρ S).sat X fun x S1 => (b ρ S1).sat X fun y S2 => (binR T mu op f x y S2).sat X Q := by
  show (R.bind _ _).sat X Q = _
  rw [w_bind]
  simp only [w_bind]
theorem bin_no (op : Operator) (f : F2) (x y : U) (hx : noI S x = true) : (binR T mu op f x y S).sat X Q = asO (f2 f S x y) fun z => Q (mkU mu z S).1 (mkU mu z S).2 := by
  have e : ownAdd T op S x y = none := by
    cases op <;> simp only [ownAdd, ownM_no hx, Option.map_none]
  unfold binR
  rw [e]
  exact w_up _
theorem w_truO (a : G) : (gtTruO T a ρ S).sat X QB = (a ρ S).sat X fun x S1 => (truR T x S1).sat X QB := w_bind _ _ _
theorem tru_no (u : U) (hx : noI S u = true) : (truR T u S).sat X QB = asO ((vw S u).bind dTru) fun c => QB c S := by
  unfold truR
  rw [ownM_no hx]
  dsimp only
  cases (vw S u).bind dTru <;> rfl
theorem lenR_no (u : U) (hx : noI S u = true) : (okR (lenR T S [u])).sat X Q = asO ((vw S u).bind fun x => cLen [x]) fun z => (match z with
    | .int i => Q (.d (.int i)) S
    | _ => False) := by
  unfold lenR
  dsimp only
  rw [ownM_no hx]
  dsimp only
  unfold plV
  rw [fA_u, vws_cons]
  cases vw S u with
  | none => rfl
  | some x =>
    rw [vws_nil, Option.bind_some, Option.bind_some, Option.bind_some, Option.bind_some]
    have : ∀ z, cLen [x] = some z → ∃ i, z = .int i := by
      intro z h
      cases x <;> first | (cases h; exact ⟨_, rfl⟩) | cases h
    cases h : cLen [x] with
    | none => rfl
    | some z =>
      obtain ⟨i, rfl⟩ := this z h
      rfl
theorem lenR_own {u : U} {c q : Str} {i : Int} (h1 : ownM T S u "__len__" = some (c, q)) (h : T.call q false [] [u] [] S = .ok (.d (.int i)) S) (h0 : 0 ≤ i) (h2 : i < 2 ^ 63) : (okR (lenR T S [u])).sat X Q = Q (.d (.int i)) S := by
  unfold lenR
  dsimp only
  rw [h1]
  dsimp only
  rw [h]
  dsimp only
  rw [if_pos ⟨h0, h2⟩]
  rfl
theorem reprR_own {u : U} {c q : Str} {x : Str} (h1 : ownM T S u "__repr__" = some (c, q)) (h : T.call q false [] [u] [] S = .ok (.d (.str x)) S) : (okR (reprR T S [u])).sat X Q = Q (.d (.str x)) S := by
  unfold reprR
  dsimp only
  rw [h1]
  dsimp only
  rw [h]
  rfl
theorem ownM_ins {c m : Str} {fs : List (Str × D)} : ownM T S (.d (.ins c fs)) m = (T.mth c m).map fun q => (c, q) := rfl
def strU : U → Option Str
  | .d (.str x) => some x
  | _ => none
theorem w_jn (acc : Str) : (gJs [] acc ρ S).sat X Q = Q (.d (.str acc)) S := rfl
theorem w_js (g : G) (gs : List G) (acc : Str) : (gJs (g :: gs) acc ρ S).sat X Q = (g ρ S).sat X fun u S1 => asO (strU u) fun y => (acc ++ y).length ≤ sizeLine ∧ (gJs gs (acc ++ y) ρ S1).sat X Q := by
  show (R.bind _ _).sat X Q = _
  rw [w_bind]
  congr 1
  funext u S1
  cases u with
  | ref n => rfl
  | d x =>
    cases x <;> try rfl
    rename_i y
    dsimp only [strU, asO]
    by_cases h : (acc ++ y).length ≤ sizeLine
    · rw [if_pos h]; exact propext ⟨fun q => ⟨h, q⟩, fun q => q.2⟩
    · rw [if_neg h]; exact propext ⟨fun q => q.elim, fun q => absurd q.1 h⟩
theorem strU_s (x : Str) : strU (.d (.str x)) = some x := rfl
theorem w_spl (a : G) (r : GA) : (gSpl a r ρ S).sat X QL = (a ρ S).sat X fun u S1 => asO (itemsU S1 u) fun ds => (r ρ S1).sat X fun us S2 => QL (ds ++ us) S2 := by
  show (R.bind _ _).sat X QL = _
  rw [w_bind]
  congr 1
  funext u S1
  cases itemsU S1 u with
  | none => rfl
  | some ds => exact w_bind _ _ _
theorem t_star (n i : Nat) (u : GTgs) (d : U) (P : Env × Store → Prop) : asO (tgStar n i u d ρ S) P = asO (itemsU S d) fun ds => (i < n ∧ n ≤ ds.length + 1 ∧ ds.length ≤ 16384) ∧ asO (datas ((ds.drop i).take (ds.length + 1 - n))) fun ms => asO (u (ds.take i ++ [.d (.lst ms)] ++ (ds.drop i).drop (ds.length + 1 - n)) ρ S) P := by
  unfold tgStar
  rw [asO_bind]
  congr 1
  funext ds
  by_cases h : i < n ∧ n ≤ ds.length + 1 ∧ ds.length ≤ 16384
  · rw [if_pos h, asO_bind]
    exact propext ⟨fun q => ⟨h, q⟩, fun q => q.2⟩
  · rw [if_neg h]
    exact propext ⟨fun q => q.elim, fun q => absurd q.1 h⟩
/-! a new instance -/
theorem frFs_d (ds : List (Str × D)) (S : Store) : frFs (dFs ds) S = some (ds, S) := by
  induction ds with
  | nil => rfl
  | cons p r ih =>
    obtain ⟨f, x⟩ := p
    show ((fr S (.d x)).bind fun p => (frFs (dFs r) p.2).map fun q => ((f, p.1) :: q.1, q.2)) = _
    rw [fr_d, Option.bind_some, ih]
    rfl
theorem ins_new {c : Str} {F : FC} {us ws : List U} {ds : List (Str × D)} (h : F (.ref S.length :: us) ws (S ++ [.ins c []]) = .ok (.d .non) (S ++ [.ins c (dFs ds)])) : mkIns false c F us ws S = .ok (.d (.ins c ds)) S := by
  unfold mkIns
  rw [h]
  show (if isNonU (.d .non) = true then (if false = true then R.ok (.ref S.length) (S ++ [.ins c (dFs ds)]) else frzIns S (S ++ [.ins c (dFs ds)])) else R.bad) = _
  rw [if_pos (show isNonU (.d .non) = true from rfl), if_neg (by decide)]
  unfold frzIns
  have e : (S ++ [Cell.ins c (dFs ds)])[S.length]? = some (.ins c (dFs ds)) := List.getElem?_concat_length
  rw [e]
  dsimp only
  rw [frFs_d]
  dsimp only
  rw [e]
  dsimp only
  rw [if_pos ⟨by simp, fun j d hj e => .inl (by rwa [List.getElem?_append_left hj] at e)⟩, List.take_left]
theorem dFs_ok (n : Nat) (ds : List (Str × D)) : refsB n (.ins c (dFs ds)) = true := by
  show (dFs ds).all _ = true
  rw [List.all_eq_true]
  intro p hp
  induction ds with
  | nil => cases hp
  | cons q r ih =>
    rcases List.mem_cons.mp hp with rfl | h
    · rfl
    · exact ih h
theorem w_attr_ins {c f : Str} {fs : List (Str × D)} : (attrR T f (.d (.ins c fs)) S).sat X Q = (match T.prp c f with
    | some q => (match T.call q false [] [.d (.ins c fs)] [] S with
      | .ok v S' => Q v S'
      | _ => False)
    | none => if T.fld c f = true then asO ((dFs fs).lookup f) fun v => Q v S else asO (T.con c f) fun d => ((dFs fs).lookup f).isNone = true ∧ Q (.d d) S) := by
  unfold attrR
  rw [show insU S (.d (.ins c fs)) = some (c, dFs fs) from rfl]
  dsimp only
  cases T.prp c f with
  | some q => dsimp only; cases T.call q false [] [.d (.ins c fs)] [] S <;> rfl
  | none =>
    dsimp only
    by_cases h : T.fld c f = true
    · rw [if_pos h, if_pos h]
      cases (dFs fs).lookup f <;> rfl
    · rw [if_neg h, if_neg h]
      cases T.con c f with
      | none => rfl
      | some d =>
        dsimp only [asO]
        by_cases g : ((dFs fs).lookup f).isNone = true
        · rw [if_pos g]; exact propext ⟨fun q => ⟨g, q⟩, fun q => q.2⟩
        · rw [if_neg g]; exact propext ⟨fun q => q.elim, fun q => absurd q.1 g⟩
theorem attr_prop {c f q : Str} {fs : List (Str × D)} {x : D} (h1 : T.prp c f = some q) (h : T.call q false [] [.d (.ins c fs)] [] S = .ok (.d x) S) : (attrR T f (.d (.ins c fs)) S).sat X Q = Q (.d x) S := by
  rw [w_attr_ins, h1]
  dsimp only
  rw [h]
theorem attr_fld {c f : Str} {fs : List (Str × D)} {x : D} (h1 : T.prp c f = none) (h2 : T.fld c f = true) (h3 : (dFs fs).lookup f = some (.d x)) : (attrR T f (.d (.ins c fs)) S).sat X Q = Q (.d x) S := by
  rw [w_attr_ins, h1]
  dsimp only
  rw [if_pos h2, h3]
  rfl
theorem attr_con {c f : Str} {x : D} (h : T.ccon c f = some x) : (attrR T f (.d (.gl c)) S).sat X Q = Q (.d x) S := by
  unfold attrR
  rw [show insU S (.d (.gl c)) = none from rfl]
  dsimp only
  rw [h]
  rfl
theorem mk_insD {c m q : Str} {fs : List (Str × D)} (h : T.mth c m = some q) (h2 : ((dFs fs).lookup m).isNone = true) : methKind T m (.d (.ins c fs)) S = some (.inl c) := by
  unfold methKind
  rw [show insU S (.d (.ins c fs)) = some (c, dFs fs) from rfl]
  dsimp only
  rw [h]
  dsimp only
  rw [if_pos h2]
end
end
end Dv
set_option maxRecDepth 100000
set_option maxHeartbeats 0
namespace Dv
open PySem PySem.Spec PyProof.Rows L2
noncomputable section
def B_is_name (T : Tab) (rm : Bool) : GS :=
  sRet (gAnd (gOU false (isiU T.kit) (gCons (gV 0) (gCons (gC (.ty "str")) (gNil)))) (gAnd (gChain oLe oLe (gC (.int 1)) (gOU false (fA cLen) (gCons (gV 0) (gNil))) (gC (.int 8))) (gOU false (fA cAll) (gCons (gLc false (giE (gV 0)) (.one 1) (none) (gO2 false oIn (gV 1) (gC (.str "abcdefghijklmnopqrstuvwxyz"))) [1]) (gNil)))))
def B_is_listed (T : Tab) (rm : Bool) : GS :=
  sRet (gOU rm (isiU T.kit) (gCons (gV 0) (gCons (gTup (dCons (gC (.ty "list")) (dCons (gC (.ty "tuple")) (dNil)))) (gNil))))
def B_are_words (T : Tab) (rm : Bool) : GS :=
  sSeq (
    sIf (gtOr (gtNot (gtTru (gCall (T.call "is_listed" false []) (gCons (gV 0) (gNil)) (gNil)))) (gtOr (gtB (gO2 false oGt (gOU false (fA cLen) (gCons (gV 0) (gNil))) (gC (.int 4)))) (gtNot (gtTru (gOU false (fA cAll) (gCons (gLc false (giE (gV 0)) (.one 1) (none) (gCall (T.call "is_name" false []) (gCons (gV 1) (gNil)) (gNil)) [1]) (gNil))))))) (
      sRet (gC (.bl false))) (
      sNil)) (
  sRet (gO2 false oEq (gO1 false cLenSet (gV 0)) (gOU false (fA cLen) (gCons (gV 0) (gNil)))))
def B_step_of (T : Tab) (rm : Bool) : GS :=
  sSeq (
    sIf (gtOr (gtNot (gtTru (gOU false (isiU T.kit) (gCons (gV 0) (gCons (gC (.ty "tuple")) (gNil)))))) (gtB (gO2 false oEq (gV 0) (gTup (dNil))))) (
      sRet (gC (.non))) (
      sNil)) (
  sSeq (
    sIf (gtB (gO2 false oIn (gV 0) (gC (.tup [.tup [.str "take"], .tup [.str "put"], .tup [.str "give"]])))) (
      sRet (gV 0)) (
      sNil)) (
  sSeq (
    sIf (gtOr (gtB (gO2 false oNe (gOU false (fA cLen) (gCons (gV 0) (gNil))) (gC (.int 2)))) (gtNot (gtTru (gOU false (isiU T.kit) (gCons (gIx (gV 0) (gC (.int 0))) (gCons (gC (.ty "str")) (gNil))))))) (
      sRet (gC (.non))) (
      sNil)) (
  sSeq (
    sIf (gtAnd (gtB (gO2 false oEq (gIx (gV 0) (gC (.int 0))) (gC (.str "note")))) (gtTru (gCall (T.call "is_name" false []) (gCons (gIx (gV 0) (gC (.int 1))) (gNil)) (gNil)))) (
      sRet (gV 0)) (
      sNil)) (
  sSeq (
    sIf (gtAnd (gtB (gO2 false oEq (gIx (gV 0) (gC (.int 0))) (gC (.str "check")))) (gtTru (gCall (T.call "are_words" false []) (gCons (gIx (gV 0) (gC (.int 1))) (gNil)) (gNil)))) (
      sRet (gTup (dCons (gC (.str "check")) (dCons (gOU false (fA cTuple) (gCons (gOU false (fA cSorted) (gCons (gIx (gV 0) (gC (.int 1))) (gNil))) (gNil))) (dNil))))) (
      sNil)) (
  sRet (gC (.non)))))))
def B_is_step (T : Tab) (rm : Bool) : GS :=
  sRet (gO2 false oIsNot (gCall (T.call "step_of" false []) (gCons (gV 0) (gNil)) (gNil)) (gC (.non)))
def B__law_source (T : Tab) (rm : Bool) : GS :=
  sRet ((if rm = true then gLstM (gCons (gOU false (fA cList) (gCons (gSl false (gV 0) (goN) (goS (gC (.int 63)))) (gNil))) (gCons (gC (.int 0)) (gCons (gC (.int 0)) (gCons (gC (.int 4922)) (gCons (gC (.int 0)) (gNil)))))) else gLst false (dCons (gOU false (fA cList) (gCons (gSl false (gV 0) (goN) (goS (gC (.int 63)))) (gNil))) (dCons (gC (.int 0)) (dCons (gC (.int 0)) (dCons (gC (.int 4922)) (dCons (gC (.int 0)) (dNil))))))))
def B__law_draw (T : Tab) (rm : Bool) : GS :=
  sSeq (
    sIf (gtAnd (gtB (gO2 false oEq (gIx (gV 0) (gC (.int 2))) (gC (.int 0)))) (gtB (gO2 false oLt (gIx (gV 0) (gC (.int 1))) (gOU false (fA cLen) (gCons (gIx (gV 0) (gC (.int 0))) (gNil)))))) (
      sSeq (
        sAsg (gIx (gIx (gV 0) (gC (.int 0))) (gIx (gV 0) (gC (.int 1)))) (tgName 3)) (
      sSeq (
        sAsg (gO2 false oAdd (gIx (gV 0) (gC (.int 1))) (gC (.int 1))) (tgSub (gV 0) (gC (.int 1)))) (
      sIf (gtB (gO2 false oGe (gV 3) (gO2 false oPow (gC (.int 10)) (gC (.int 18))))) (
        sAsg (gV 3) (tgSub (gV 0) (gC (.int 2)))) (
        sAsg (gO2 false oMod (gOU false (fA cInt) (gCons (gO2 false oAdd (gO2 false oAdd (gO2 false oMul (gIx (gV 0) (gC (.int 3))) (gC (.int 46337))) (gO2 false oMul (gO2 false oMod (gOU false (fA cInt) (gCons (gV 3) (gNil))) (gC (.int 2147483579))) (gC (.int 5003)))) (gC (.int 41))) (gNil))) (gC (.int 2147483629))) (tgSub (gV 0) (gC (.int 3))))))) (
      sNil)) (
  sSeq (
    sIf (gtB (gO2 false oGt (gIx (gV 0) (gC (.int 2))) (gC (.int 0)))) (
      sSeq (
        sAsg (gO2 false oMod (gOU false (fA cInt) (gCons (gIx (gV 0) (gC (.int 2))) (gNil))) (gV 1)) (tgName 4)) (
      sSeq (
        sAsg (gO2 false oFdiv (gIx (gV 0) (gC (.int 2))) (gV 1)) (tgSub (gV 0) (gC (.int 2)))) (
      sRet (gV 4)))) (
      sNil)) (
  sSeq (
    sAsg (gO2 false oAdd (gIx (gV 0) (gC (.int 4))) (gC (.int 1))) (tgSub (gV 0) (gC (.int 4)))) (
  sSeq (
    sAsg (gIx (gV 0) (gC (.int 3))) (tgName 2)) (
  sSeq (
    sAsg (gO2 false oMod (gOU false (fA cInt) (gCons (gO2 false oAdd (gO2 false oAdd (gO2 false oAdd (gO2 false oMul (gV 2) (gV 2)) (gO2 false oMul (gV 2) (gC (.int 30011)))) (gO2 false oMul (gIx (gV 0) (gC (.int 4))) (gC (.int 1299721)))) (gC (.int 77761))) (gNil))) (gC (.int 2147483629))) (tgSub (gV 0) (gC (.int 3)))) (
  sRet (gO2 rm oMod (gOU false (fA cInt) (gCons (gO2 false oAdd (gO2 false oFdiv (gIx (gV 0) (gC (.int 3))) (gC (.int 67))) (gO2 false oMul (gO2 false oMod (gOU false (fA cInt) (gCons (gIx (gV 0) (gC (.int 3))) (gNil))) (gC (.int 7919))) (gC (.int 53)))) (gNil))) (gV 1)))))))
def B__law_of (T : Tab) (rm : Bool) : GS :=
  sRet (gIx (gV 1) (gCall (T.call "_law_draw" false []) (gCons (gV 0) (gCons (gOU false (fA cLen) (gCons (gV 1) (gNil))) (gNil))) (gNil)))
def B__law_some (T : Tab) (rm : Bool) : GS :=
  sSeq (
    sAsg (gLstM (gNil)) (tgName 2)) (
  sSeq (
    sFor (giE (gV 1)) (tgName 3) (
      sIf (gtB (gO2 false oEq (gCall (T.call "_law_draw" false []) (gCons (gV 0) (gCons (gC (.int 2)) (gNil))) (gNil)) (gC (.int 0)))) (
        sDrop (gMeth T "append" false [] (gV 2) (gCons (gV 3) (gNil)) (gNil))) (
        sNil))) (
  sRet (gV 2)))
def B__law_mixed (T : Tab) (rm : Bool) : GS :=
  sSeq (
    sAsg (gLstM (gNil)) (tgName 2)) (
  sSeq (
    sFor (giE (gV 1)) (tgName 3) (
      sDrop (gMeth T "insert" false [] (gV 2) (gCons (gCall (T.call "_law_draw" false []) (gCons (gV 0) (gCons (gO2 false oAdd (gOU false (fA cLen) (gCons (gV 2) (gNil))) (gC (.int 1))) (gNil))) (gNil)) (gCons (gV 3) (gNil))) (gNil)))) (
  sRet (gV 2)))
def B__law_word (T : Tab) (rm : Bool) : GS :=
  sSeq (
    sAsg (gC (.str "abcdefghijklmnopqrstuvwxyz")) (tgName 1)) (
  sRet (gMeth T "join" rm [] (gC (.str "")) (gCons (gLc false (giRange1 (gCons (gO2 false oAdd (gC (.int 1)) (gCall (T.call "_law_draw" false []) (gCons (gV 0) (gCons (gC (.int 8)) (gNil))) (gNil))) (gNil))) (.one 2) (none) (gIx (gV 1) (gCall (T.call "_law_draw" false []) (gCons (gV 0) (gCons (gC (.int 26)) (gNil))) (gNil))) [2]) (gNil)) (gNil)))
def B__law_names (T : Tab) (rm : Bool) : GS :=
  sSeq (
    sAsgT 2 (gCons (gC (.str "abcdefghijklmnopqrstuvwxyz")) (gCons (gLstM (gNil)) (gNil))) (tgCons (tgName 3) (tgCons (tgName 4) (tgNil)))) (
  sSeq (
    sFor (giRange1 (gCons (gV 1) (gNil))) (tgName 2) (
      sSeq (
        sAsg (gLc false (giE (gO2 false oAdd (gLst false (dCons (gCall (T.call "_law_word" false []) (gCons (gV 0) (gNil)) (gNil)) (dNil))) (gOU false (fA cList) (gCons (gV 3) (gNil))))) (.one 6) (some (gtB (gO2 false oNotIn (gV 6) (gV 4)))) (gV 6) [6]) (tgName 5)) (
      sDrop (gMeth T "append" false [] (gV 4) (gCons (gIx (gV 5) (gC (.int 0))) (gNil)) (gNil))))) (
  sRet (gV 4)))
def B__law_bad_name (T : Tab) (rm : Bool) : GS :=
  sRet (gCall (T.call "_law_of" rm []) (gCons (gV 0) (gCons (gLst false (dCons (gC (.str "")) (dCons (gC (.str "B")) (dCons (gC (.str "a b")) (dCons (gC (.str "ninesigns")) (dCons (gC (.str "k2")) (dCons (gC (.str "-")) (dCons (gC (.str "row ")) (dCons (gO2 false oMul (gC (.str "x")) (gC (.int 9))) (dCons (gC (.str "y_")) (dCons (gC (.str "a\n")) (dNil)))))))))))) (gNil))) (gNil))
def B__law_any (T : Tab) (rm : Bool) : GS :=
  sRet (gCall (T.call "_law_of" rm []) (gCons (gV 0) (gCons (gLst false (dCons (gC (.non)) (dCons (gC (.bl true)) (dCons (gC (.int 0)) (dCons (gO1 false oNeg (gC (.int 1))) (dCons (gC (.str "")) (dCons (gC (.str "Take")) (dCons (gTup (dNil)) (dCons (gLst false (dNil)) (dCons (gTup (dCons (gC (.int 1)) (dCons (gC (.int 2)) (dNil)))) (dCons (gLst false (dCons (gC (.int 1)) (dNil))) (dCons (gTup (dCons (gC (.str "take")) (dCons (gC (.int 1)) (dNil)))) (dCons (gO2 false oPow (gC (.int 10)) (gC (.int 29))) (dNil)))))))))))))) (gNil))) (gNil))
def B__law_same (T : Tab) (rm : Bool) : GS :=
  sSeq (
    sIf (gtTru (gOU false (isiU T.kit) (gCons (gV 1) (gCons (gTup (dCons (gC (.ty "list")) (dCons (gC (.ty "tuple")) (dNil)))) (gNil))))) (
      sSeq (
        sIf (gtB (gO2 false oNe (gOU false (isiU T.kit) (gCons (gV 0) (gCons (gC (.ty "list")) (gNil)))) (gOU false (isiU T.kit) (gCons (gV 1) (gCons (gC (.ty "list")) (gNil)))))) (
          sRet (gC (.bl false))) (
          sNil)) (
      sSeq (
        sIf (gtB (gO2 false oNe (gOU false (isiU T.kit) (gCons (gV 0) (gCons (gC (.ty "tuple")) (gNil)))) (gOU false (isiU T.kit) (gCons (gV 1) (gCons (gC (.ty "tuple")) (gNil)))))) (
          sRet (gC (.bl false))) (
          sNil)) (
      sRet (gAnd (gO2 false oEq (gOU false (fA cLen) (gCons (gV 0) (gNil))) (gOU false (fA cLen) (gCons (gV 1) (gNil)))) (gOU false (fA cAll) (gCons (gLc false (giZip (gCons (gV 0) (gCons (gV 1) (gNil)))) (.tup [2, 3]) (none) (gCall (T.call "_law_same" false []) (gCons (gV 2) (gCons (gV 3) (gNil))) (gNil)) [2, 3]) (gNil))))))) (
      sNil)) (
  sSeq (
    sIf (gtOr (gtB (gO2 false oIs (gV 1) (gC (.non)))) (gtB (gO2 false oIs (gV 0) (gC (.non))))) (
      sRet (gAnd (gO2 false oIs (gV 1) (gC (.non))) (gO2 false oIs (gV 0) (gC (.non))))) (
      sNil)) (
  sSeq (
    sIf (gtOr (gtB (gO2 false oNe (gOU false (isiU T.kit) (gCons (gV 0) (gCons (gC (.ty "bool")) (gNil)))) (gOU false (isiU T.kit) (gCons (gV 1) (gCons (gC (.ty "bool")) (gNil)))))) (gtB (gO2 false oNe (gOU false (isiU T.kit) (gCons (gV 0) (gCons (gC (.ty "int")) (gNil)))) (gOU false (isiU T.kit) (gCons (gV 1) (gCons (gC (.ty "int")) (gNil))))))) (
      sRet (gC (.bl false))) (
      sNil)) (
  sRet (gAnd (gO2 false oEq (gOU false (isiU T.kit) (gCons (gV 0) (gCons (gC (.ty "str")) (gNil)))) (gOU false (isiU T.kit) (gCons (gV 1) (gCons (gC (.ty "str")) (gNil))))) (gO2 false oEq (gV 0) (gV 1))))))
def B__law_is_name (T : Tab) (rm : Bool) : GS :=
  sSeq (
    sIf (gtOr (gtNot (gtTru (gOU false (isiU T.kit) (gCons (gV 0) (gCons (gC (.ty "str")) (gNil)))))) (gtNot (gtB (gChain oLe oLe (gC (.int 1)) (gOU false (fA cLen) (gCons (gV 0) (gNil))) (gC (.int 8)))))) (
      sRet (gC (.bl false))) (
      sNil)) (
  sRet (gOU rm (fA cAll) (gCons (gLc false (giE (gV 0)) (.one 1) (none) (gO2 false oIn (gV 1) (gC (.str "abcdefghijklmnopqrstuvwxyz"))) [1]) (gNil))))
def B__law_step (T : Tab) (rm : Bool) : GS :=
  sSeq (
    sAsg (gCall (T.call "_law_draw" false []) (gCons (gV 0) (gCons (gC (.int 8)) (gNil))) (gNil)) (tgName 2)) (
  sSeq (
    sIf (gtB (gO2 false oLt (gV 2) (gC (.int 3)))) (
      sRet (gIx (gLst false (dCons (gTup (dCons (gC (.str "take")) (dNil))) (dCons (gTup (dCons (gC (.str "put")) (dNil))) (dCons (gTup (dCons (gC (.str "give")) (dNil))) (dNil))))) (gV 2))) (
      sNil)) (
  sSeq (
    sIf (gtB (gO2 false oLt (gV 2) (gC (.int 6)))) (
      sRet (gTup (dCons (gC (.str "note")) (dCons (gCall (T.call "_law_of" false []) (gCons (gV 0) (gCons (gV 1) (gNil))) (gNil)) (dNil))))) (
      sNil)) (
  sRet (gTup (dCons (gC (.str "check")) (dCons (gOU false (fA cTuple) (gCons (gOU false (fA cSorted) (gCons (gCall (T.call "_law_some" false []) (gCons (gV 0) (gCons (gV 1) (gNil))) (gNil)) (gNil))) (gNil))) (dNil)))))))
def B_need_words (T : Tab) (rm : Bool) : GS :=
  sSeq (
    sFor (giEnum (gCons (gV 0) (gNil))) (tgTup 2 (tgCons (tgName 1) (tgCons (tgName 2) (tgNil)))) (
      sSeq (
        sIf (gtNot (gtTru (gCall (T.call "is_name" false []) (gCons (gV 2) (gNil)) (gNil)))) (
          sBad) (
          sNil)) (
      sIf (gtB (gO2 false oIn (gV 2) (gSl false (gV 0) (goN) (goS (gV 1))))) (
        sBad) (
        sNil)))) (
  sIf (gtB (gO2 false oGt (gOU false (fA cLen) (gCons (gV 0) (gNil))) (gC (.int 4)))) (
    sBad) (
    sNil))
def B_Deed___init__ (T : Tab) (rm : Bool) : GS :=
  sSeq (
    sDrop (gCall (T.call "need_words" false []) (gCons (gV 1) (gNil)) (gNil))) (
  sSeq (
    sIf (gtB (gO2 false oGt (gOU false (fA cLen) (gCons (gV 3) (gNil))) (gC (.int 5)))) (
      sBad) (
      sNil)) (
  sSeq (
    sAsg (gLc false (giE (gV 3)) (.one 6) (none) (gCall (T.call "step_of" false []) (gCons (gV 6) (gNil)) (gNil)) [6]) (tgName 4)) (
  sSeq (
    sFor (giEnum (gCons (gV 4) (gNil))) (tgTup 2 (tgCons (tgName 5) (tgCons (tgName 6) (tgNil)))) (
      sIf (gtB (gO2 false oIs (gV 6) (gC (.non)))) (
        sBad) (
        sNil))) (
  sSeq (
    sIf (gtOr (gtNot (gtTru (gOU false (isiU T.kit) (gCons (gV 2) (gCons (gC (.ty "str")) (gNil)))))) (gtB (gO2 false oNotIn (gV 2) (gC (.tup [.str "none", .str "look", .str "seek"]))))) (
      sBad) (
      sNil)) (
  sSeq (
    sAsg (gOU false (fA cSorted) (gCons (gV 1) (gNil))) (tgAttr T (gV 0) "own_when")) (
  sSeq (
    sAsg (gV 4) (tgAttr T (gV 0) "own_steps")) (
  sAsg (gV 2) (tgAttr T (gV 0) "own_ask"))))))))
def B_Deed_idle (T : Tab) (rm : Bool) : GS :=
  sRet (gCall (mkIns false "Deed" (T.call "Deed.__init__" false [])) (gCons (gLst false (dNil)) (gNil)) (gNil))
def B_Deed_ask (T : Tab) (rm : Bool) : GS :=
  sRet (gAttr T "own_ask" (gV 0))
def B_Deed_takes (T : Tab) (rm : Bool) : GS :=
  sRet (gO2 rm oAdd (gMeth T "count" false [] (gAttr T "own_steps" (gV 0)) (gCons (gTup (dCons (gC (.str "take")) (dNil))) (gNil)) (gNil)) (gOU false (fA cInt) (gCons (gO2 false oEq (gAttr T "own_ask" (gV 0)) (gC (.str "seek"))) (gNil))))
def B_Deed_quiet (T : Tab) (rm : Bool) : GS :=
  sRet (gAnd (gO2 false oEq (gAttr T "own_ask" (gV 0)) (gC (.str "none"))) (gAnd (gO2 false oNotIn (gTup (dCons (gC (.str "take")) (dNil))) (gAttr T "own_steps" (gV 0))) (gO2 false oNotIn (gTup (dCons (gC (.str "give")) (dNil))) (gAttr T "own_steps" (gV 0)))))
def B_Deed_when (T : Tab) (rm : Bool) : GS :=
  sRet (gOU rm (fA cList) (gCons (gAttr T "own_when" (gV 0)) (gNil)))
def B_Deed_steps (T : Tab) (rm : Bool) : GS :=
  sRet (gOU rm (fA cList) (gCons (gAttr T "own_steps" (gV 0)) (gNil)))
def B_Deed_words (T : Tab) (rm : Bool) : GS :=
  sSeq (
    sAsg (gOU true (fA cList) (gCons (gAttr T "own_when" (gV 0)) (gNil))) (tgName 1)) (
  sSeq (
    sFor (giE (gAttr T "own_steps" (gV 0))) (tgStar 2 1 (tgCons (tgName 2) (tgCons (tgName 3) (tgNil)))) (
      sIf (gtB (gO2 false oEq (gV 2) (gC (.str "note")))) (
        sDrop (gMeth T "append" false [] (gV 1) (gCons (gIx (gV 3) (gC (.int 0))) (gNil)) (gNil))) (
        sIf (gtB (gO2 false oEq (gV 2) (gC (.str "check")))) (
          sDrop (gMeth T "extend" false [] (gV 1) (gCons (gIx (gV 3) (gC (.int 0))) (gNil)) (gNil))) (
          sNil)))) (
  sRet (gO1 rm cSortSet (gV 1))))
def B_Deed___add__ (T : Tab) (rm : Bool) : GS :=
  sRet (gCall (mkIns false "Deed" (T.call "Deed.__init__" false ["ask"])) (gCons (gAttr T "own_when" (gV 0)) (gSpl (gAttr T "own_steps" (gV 0)) (gSpl (gAttr T "own_steps" (gV 1)) (gNil)))) (gCons (gAttr T "own_ask" (gV 0)) (gNil)))
def B_Deed___len__ (T : Tab) (rm : Bool) : GS :=
  sRet (gOU rm (fA cLen) (gCons (gAttr T "own_steps" (gV 0)) (gNil)))
def B_Deed___eq__ (T : Tab) (rm : Bool) : GS :=
  sSeq (
    sIf (gtNot (gtTru (gOU false (isiU T.kit) (gCons (gV 1) (gCons (gC (.gl "Deed")) (gNil)))))) (
      sRet (gC (.bl false))) (
      sNil)) (
  sRet (gO2 false oEq (gTup (dCons (gAttr T "own_when" (gV 0)) (dCons (gAttr T "own_steps" (gV 0)) (dCons (gAttr T "own_ask" (gV 0)) (dNil))))) (gTup (dCons (gAttr T "own_when" (gV 1)) (dCons (gAttr T "own_steps" (gV 1)) (dCons (gAttr T "own_ask" (gV 1)) (dNil)))))))
def B_Deed___repr__ (T : Tab) (rm : Bool) : GS :=
  sRet (gJs [gC (.str "Deed("), gO1 false strD (gOU false (fA cLen) (gCons (gAttr T "own_steps" (gV 0)) (gNil))), gC (.str " steps)")] Str.empty)
def B__law_deed (T : Tab) (rm : Bool) : GS :=
  sSeq (
    sAsg (gOU false (fA cSorted) (gCons (gLc false (giE (gV 1)) (.one 6) (some (gtB (gO2 false oGt (gCall (T.call "_law_draw" false []) (gCons (gV 0) (gCons (gC (.int 3)) (gNil))) (gNil)) (gC (.int 0))))) (gV 6) [6]) (gNil))) (tgName 3)) (
  sSeq (
    sAsg (gLc false (giRange1 (gCons (gCall (T.call "_law_draw" false []) (gCons (gV 0) (gCons (gO2 false oAdd (gV 2) (gC (.int 1))) (gNil))) (gNil)) (gNil))) (.one 5) (none) (gCall (T.call "_law_step" false []) (gCons (gV 0) (gCons (gV 1) (gNil))) (gNil)) [5]) (tgName 4)) (
  sRet (gTup (dCons (gV 3) (dCons (gV 4) (dCons (gCall (T.call "_law_of" false []) (gCons (gV 0) (gCons (gLst false (dCons (gC (.str "none")) (dCons (gC (.str "look")) (dCons (gC (.str "seek")) (dNil))))) (gNil))) (gNil)) (dNil)))))))
def B__law_deed_call (T : Tab) (rm : Bool) : GS :=
  sSeq (
    sIf (gtB (gO2 false oLt (gOU false (fA cLen) (gCons (gV 1) (gNil))) (gC (.int 2)))) (
      sRet (gIf (gtB (gO2 false oEq (gOU false (fA cLen) (gCons (gV 1) (gNil))) (gC (.int 0)))) (gCall (mkIns false "Deed" (T.call "Deed.__init__" false ["ask"])) (gCons (gV 0) (gNil)) (gCons (gV 2) (gNil))) (gCall (mkIns false "Deed" (T.call "Deed.__init__" false ["ask"])) (gCons (gV 0) (gCons (gIx (gV 1) (gC (.int 0))) (gNil))) (gCons (gV 2) (gNil))))) (
      sNil)) (
  sSeq (
    sIf (gtB (gO2 false oEq (gOU false (fA cLen) (gCons (gV 1) (gNil))) (gC (.int 2)))) (
      sRet (gCall (mkIns false "Deed" (T.call "Deed.__init__" false ["ask"])) (gCons (gV 0) (gCons (gIx (gV 1) (gC (.int 0))) (gCons (gIx (gV 1) (gC (.int 1))) (gNil)))) (gCons (gV 2) (gNil)))) (
      sNil)) (
  sSeq (
    sIf (gtB (gO2 false oEq (gOU false (fA cLen) (gCons (gV 1) (gNil))) (gC (.int 3)))) (
      sRet (gCall (mkIns false "Deed" (T.call "Deed.__init__" false ["ask"])) (gCons (gV 0) (gCons (gIx (gV 1) (gC (.int 0))) (gCons (gIx (gV 1) (gC (.int 1))) (gCons (gIx (gV 1) (gC (.int 2))) (gNil))))) (gCons (gV 2) (gNil)))) (
      sNil)) (
  sSeq (
    sIf (gtB (gO2 false oEq (gOU false (fA cLen) (gCons (gV 1) (gNil))) (gC (.int 4)))) (
      sRet (gCall (mkIns false "Deed" (T.call "Deed.__init__" false ["ask"])) (gCons (gV 0) (gCons (gIx (gV 1) (gC (.int 0))) (gCons (gIx (gV 1) (gC (.int 1))) (gCons (gIx (gV 1) (gC (.int 2))) (gCons (gIx (gV 1) (gC (.int 3))) (gNil)))))) (gCons (gV 2) (gNil)))) (
      sNil)) (
  sSeq (
    sIf (gtB (gO2 false oEq (gOU false (fA cLen) (gCons (gV 1) (gNil))) (gC (.int 5)))) (
      sRet (gCall (mkIns false "Deed" (T.call "Deed.__init__" false ["ask"])) (gCons (gV 0) (gCons (gIx (gV 1) (gC (.int 0))) (gCons (gIx (gV 1) (gC (.int 1))) (gCons (gIx (gV 1) (gC (.int 2))) (gCons (gIx (gV 1) (gC (.int 3))) (gCons (gIx (gV 1) (gC (.int 4))) (gNil))))))) (gCons (gV 2) (gNil)))) (
      sNil)) (
  sRet (gCall (mkIns false "Deed" (T.call "Deed.__init__" false ["ask"])) (gCons (gV 0) (gCons (gIx (gV 1) (gC (.int 0))) (gCons (gIx (gV 1) (gC (.int 1))) (gCons (gIx (gV 1) (gC (.int 2))) (gCons (gIx (gV 1) (gC (.int 3))) (gCons (gIx (gV 1) (gC (.int 4))) (gCons (gIx (gV 1) (gC (.int 5))) (gNil)))))))) (gCons (gV 2) (gNil))))))))
def B__law_deed_made (T : Tab) (rm : Bool) : GS :=
  sRet (gCall (T.call "_law_deed_call" rm []) (gCons (gOU false (fA cList) (gCons (gIx (gV 0) (gC (.int 0))) (gNil))) (gCons (gIx (gV 0) (gC (.int 1))) (gCons (gIx (gV 0) (gC (.int 2))) (gNil)))) (gNil))
def B__law_words_of (T : Tab) (rm : Bool) : GS :=
  sSeq (
    sAsg (gOU true (fA cList) (gCons (gIx (gV 0) (gC (.int 0))) (gNil))) (tgName 1)) (
  sSeq (
    sFor (giE (gIx (gV 0) (gC (.int 1)))) (tgName 2) (
      sSeq (
        sIf (gtB (gO2 false oEq (gIx (gV 2) (gC (.int 0))) (gC (.str "note")))) (
          sDrop (gMeth T "append" false [] (gV 1) (gCons (gIx (gV 2) (gC (.int 1))) (gNil)) (gNil))) (
          sNil)) (
      sIf (gtB (gO2 false oEq (gIx (gV 2) (gC (.int 0))) (gC (.str "check")))) (
        sAsg (gO2 true oAdd (gV 1) (gOU false (fA cList) (gCons (gIx (gV 2) (gC (.int 1))) (gNil)))) (tgName 1)) (
        sNil)))) (
  sRet (gO1 rm cSortSet (gV 1))))
def B__law_deed_so_v2 (T : Tab) (rm : Bool) : GS :=
  sSeq (
    sAsg (gBin T false .Add oAdd (gOR (lenR T) (gCons (gLc false (giE (gIx (gV 1) (gC (.int 1)))) (.one 6) (some (gtB (gCmp T .Eq oEq (gV 6) (gTup (dCons (gC (.str "take")) (dNil)))))) (gV 6) [6]) (gNil))) (gOU false (fA cInt) (gCons (gCmp T .Eq oEq (gIx (gV 1) (gC (.int 2))) (gC (.str "seek"))) (gNil)))) (tgName 2)) (
  sSeq (
    sAsg (gAnd (gCmp T .Eq oEq (gIx (gV 1) (gC (.int 2))) (gC (.str "none"))) (gAnd (gCmp T .Eq oEq (gV 2) (gC (.int 0))) (gCmp T .NotIn oNotIn (gTup (dCons (gC (.str "give")) (dNil))) (gIx (gV 1) (gC (.int 1)))))) (tgName 3)) (
  sSeq (
    sAsg (gLst false (dCons (gMeth T "when" false [] (gV 0) (gNil) (gNil)) (dCons (gMeth T "steps" false [] (gV 0) (gNil) (gNil)) (dCons (gAttr T "ask" (gV 0)) (dCons (gAttr T "takes" (gV 0)) (dCons (gAttr T "quiet" (gV 0)) (dCons (gMeth T "words" false [] (gV 0) (gNil) (gNil)) (dCons (gOR (lenR T) (gCons (gV 0) (gNil))) (dCons (gOR (reprR T) (gCons (gV 0) (gNil))) (dNil)))))))))) (tgName 4)) (
  sSeq (
    sAsg (gLst false (dCons (gIx (gV 1) (gC (.int 0))) (dCons (gIx (gV 1) (gC (.int 1))) (dCons (gIx (gV 1) (gC (.int 2))) (dCons (gV 2) (dCons (gV 3) (dCons (gCall (T.call "_law_words_of" false []) (gCons (gV 1) (gNil)) (gNil)) (dCons (gOR (lenR T) (gCons (gIx (gV 1) (gC (.int 1))) (gNil))) (dCons (gBin T false .Add oAdd (gBin T false .Add oAdd (gC (.str "Deed(")) (gOU false (fA cStr) (gCons (gOR (lenR T) (gCons (gIx (gV 1) (gC (.int 1))) (gNil))) (gNil)))) (gC (.str " steps)"))) (dNil)))))))))) (tgName 5)) (
  sRet (gCall (T.call "_law_same" rm []) (gCons (gV 4) (gCons (gV 5) (gNil))) (gNil))))))
end
end Dv
set_option maxRecDepth 100000
set_option maxHeartbeats 1000000
namespace Dv
open PySem PySem.Spec PyProof.Rows L2
noncomputable section
/-! ### draws -/
/-- the source, with at most M draws behind it -/
structure SrcC (M : Int) (c : Cell) : Prop where
  ex : ∃ (ns : List Int) (i a b e : Int), c = .lst [.lst (ns.map D.int), .int i, .int a, .int b, .int e] ∧ 0 ≤ i ∧ 0 ≤ a ∧ 0 ≤ b ∧ b < 2147483629 ∧ 0 ≤ e ∧ e ≤ M
theorem SrcC.mono {M N : Int} {c : Cell} (h : SrcC M c) (l : M ≤ N) : SrcC N c := by
  obtain ⟨ns, i, a, b, e, h1, h2, h3, h4, h5, h6, h7⟩ := h.ex
  exact ⟨ns, i, a, b, e, h1, h2, h3, h4, h5, h6, by omega⟩
abbrev Cs := Str → Bool → List Str → FC
abbrev LIM : Int := 1000000000000
def DrawOk (C : Cs) : Prop := ∀ (M m : Int) (c : Cell) (R : Store) (mu : Bool), SrcC M c → M < LIM → 0 < m → m < 1000000 →
  (C "_law_draw" mu [] [.ref 0, .d (.int m)] [] (c :: R)).sat noX fun u S' => ∃ v c', u = .d (.int v) ∧ 0 ≤ v ∧ v < m ∧ S' = c' :: R ∧ SrcC (M + 1) c'
theorem log_lt {i : Int} (h0 : 0 ≤ i) (h : i < 2 ^ 62) : i.natAbs.log2 < 62 := by
  have : i.natAbs < 2 ^ 62 := by omega
  by_cases z : i.natAbs = 0
  · rw [z]; decide
  · exact (Nat.log2_lt z).mpr this
theorem mul_ok {i j : Int} (h0 : 0 ≤ i) (h1 : i < 2 ^ 62) (h2 : 0 ≤ j) (h3 : j < 2 ^ 62) : oMul (.int i) (.int j) = some (.int (i * j)) := by
  show (if _ then _ else _) = _
  rw [if_pos]
  have := log_lt h0 h1
  have := log_lt h2 h3
  omega
theorem mod_ok {i j : Int} (h : 0 < j) : oMod (.int i) (.int j) = some (.int (i % j)) := by
  show (if _ then _ else _) = _
  rw [if_pos (by omega), Int.fmod_eq_emod_of_nonneg _ (by omega)]
theorem fdiv_ok {i j : Int} (h : 0 < j) (h1 : j < 2 ^ 62) : oFdiv (.int i) (.int j) = some (.int (i / j)) := by
  show (if _ then _ else _) = _
  rw [if_pos]
  exact ⟨h, Nat.lt_trans (log_lt (by omega) h1) (by decide)⟩
theorem add_ii (i j : Int) : oAdd (.int i) (.int j) = some (.int (i + j)) := rfl
theorem sub_ii (i j : Int) : oSub (.int i) (.int j) = some (.int (i - j)) := rfl
theorem eq_ii (i j : Int) : oEq (.int i) (.int j) = some (.bl (decide (i = j))) := rfl
theorem cmp_ii (p : Int → Int → Bool) (i j : Int) : oCmpI p (.int i) (.int j) = some (.bl (p i j)) := rfl
theorem int_i (i : Int) : cInt [.int i] = some (.int i) := rfl
theorem len_l (ds : List D) : cLen [.lst ds] = some (.int ds.length) := rfl
theorem len_t (ds : List D) : cLen [.tup ds] = some (.int ds.length) := rfl
theorem len_s (x : Str) : cLen [.str x] = some (.int x.length) := rfl
theorem fA_1 (f : FA) (S : Store) (x : D) : fA f S [.d x] = f [x] := rfl
theorem atI_nat {α : Type} {ds : List α} {i : Int} {z : α} (h0 : 0 ≤ i) (hz : ds[i.toNat]? = some z) : atI ds i = some z := by
  have hl : i.toNat < ds.length := (List.getElem?_eq_some_iff.mp hz).1
  unfold atI ixN
  rw [if_pos h0, if_pos (by omega)]
  exact hz
theorem ix_l (ds : List D) (i : Int) : dIx (.lst ds) (.int i) = atI ds i := rfl
theorem ix_t (ds : List D) (i : Int) : dIx (.tup ds) (.int i) = atI ds i := rfl
theorem g0 (c : Cell) (R : Store) : (c :: R)[0]? = some c := rfl
theorem gS (c : Cell) (R : Store) (n : Nat) : (c :: R)[n + 1]? = R[n]? := rfl
theorem st0 (c d : Cell) (R : Store) : List.set (c :: R) 0 d = d :: R := rfl
theorem stS (c d : Cell) (R : Store) (n : Nat) : List.set (c :: R) (n + 1) d = c :: List.set R n d := rfl
theorem at5 (x0 x1 x2 x3 x4 : D) : atI [x0, x1, x2, x3, x4] 0 = some x0 ∧ atI [x0, x1, x2, x3, x4] 1 = some x1 ∧ atI [x0, x1, x2, x3, x4] 2 = some x2 ∧ atI [x0, x1, x2, x3, x4] 3 = some x3 ∧ atI [x0, x1, x2, x3, x4] 4 = some x4 := ⟨rfl, rfl, rfl, rfl, rfl⟩
theorem a50 (x0 x1 x2 x3 x4 : D) : atI [x0, x1, x2, x3, x4] 0 = some x0 := rfl
theorem a51 (x0 x1 x2 x3 x4 : D) : atI [x0, x1, x2, x3, x4] 1 = some x1 := rfl
theorem a52 (x0 x1 x2 x3 x4 : D) : atI [x0, x1, x2, x3, x4] 2 = some x2 := rfl
theorem a53 (x0 x1 x2 x3 x4 : D) : atI [x0, x1, x2, x3, x4] 3 = some x3 := rfl
theorem a54 (x0 x1 x2 x3 x4 : D) : atI [x0, x1, x2, x3, x4] 4 = some x4 := rfl
theorem cIx_l (S : Store) (n : Nat) (b : U) (ds : List D) : cellIx S n b (.lst ds) = (f2 dIx S (.ref n) b).map .d := rfl
theorem cV_l (ds : List D) : cellV (.lst ds) = some (.lst ds) := rfl
theorem p51 (x0 x1 x2 x3 x4 d : D) (R : Store) : dPut (.lst [x0, x1, x2, x3, x4] :: R) (.ref 0) (.d (.int 1)) (.d d) = some (.lst [x0, d, x2, x3, x4] :: R) := rfl
theorem p52 (x0 x1 x2 x3 x4 d : D) (R : Store) : dPut (.lst [x0, x1, x2, x3, x4] :: R) (.ref 0) (.d (.int 2)) (.d d) = some (.lst [x0, x1, d, x3, x4] :: R) := rfl
theorem p53 (x0 x1 x2 x3 x4 d : D) (R : Store) : dPut (.lst [x0, x1, x2, x3, x4] :: R) (.ref 0) (.d (.int 3)) (.d d) = some (.lst [x0, x1, x2, d, x4] :: R) := rfl
theorem p54 (x0 x1 x2 x3 x4 d : D) (R : Store) : dPut (.lst [x0, x1, x2, x3, x4] :: R) (.ref 0) (.d (.int 4)) (.d d) = some (.lst [x0, x1, x2, x3, d] :: R) := rfl
theorem pow18 : oPow (.int 10) (.int 18) = some (.int 1000000000000000000) := rfl
theorem draw_B (T : Tab) (M m : Int) (c : Cell) (R : Store) (mu : Bool) (hs : SrcC M c) (hM : M < LIM) (hm : 0 < m) (hm2 : m < 1000000) :
    (endR (B__law_draw T mu [some (.ref 0), some (.d (.int m)), none, none, none] (c :: R))).sat noX fun u S' => ∃ v c', u = .d (.int v) ∧ 0 ≤ v ∧ v < m ∧ S' = c' :: R ∧ SrcC (M + 1) c' := by
  have hM : M < 1000000000000 := hM
  obtain ⟨ns, i, a, b, e, rfl, h4, h5, h6, h7, h8, h9⟩ := hs.ex
  rw [w_end]
  unfold B__law_draw
  rw [s_seq]
  refine satS_mono (E := { nx := fun ρ S1 => ∃ (i a b : Int) (o : Option U), ρ = [some (.ref 0), some (.d (.int m)), none, o, none] ∧ S1 = .lst [.lst (ns.map D.int), .int i, .int a, .int b, .int e] :: R ∧ 0 ≤ i ∧ 0 ≤ a ∧ 0 ≤ b ∧ b < 2147483629 }) ?_ ?_ (fun _ _ h => h.elim) (fun _ _ h => h.elim) (fun _ _ h => h.elim) (fun _ _ _ _ h => h.elim)
  · simp only [w_asO, w_ok, w_bind, w_up, w_upU, w_V0, w_VS, w_C, w_O1, w_O2, w_OA, w_OU, w_ix, w_call, w_nil, w_cons, w_dnil, w_dcons, w_tup, w_lst, w_lstM, w_dct0, w_if, w_and, w_or, w_not, w_tAnd, w_tOr, w_tNot, w_tB, w_tTru, w_chain, w_goN, w_goS, w_sl, w_attr, w_meth, uBl_b, uInt_i, s_nil, s_seq, s_drop, s_ret, s_retN, s_if, s_asg, s_par2, s_par3, s_asgT, s_break, s_cont, t_name, t_sub, t_attr, t_tup, t_nil, t_cons, set0, setS, s_for, w_giE, w_gir1, w_gir2, w_gizip, w_gienum, w_lc, Option.bind_some, Option.map_some, mkU_f, mkU_i, mkU_b, mkU_s, mkU_t, mkU_n, vw_d, vw_ref, fr_d, fr_ref, f1_d, f2_d, f1_u, f2_u, fA_1, fA_u, vws_nil, vws_cons, ixU_d, ixU_ref, cIx_l, cV_l, g0, gS, st0, stS, ix_l, ix_t, add_ii, sub_ii, eq_ii, cmp_ii, int_i, len_l, len_t, len_s, a52]
    by_cases ha : a = 0
    · subst ha
      simp only [decide_true, if_true, w_asO, w_ok, w_bind, w_up, w_upU, w_V0, w_VS, w_C, w_O1, w_O2, w_OA, w_OU, w_ix, w_call, w_nil, w_cons, w_dnil, w_dcons, w_tup, w_lst, w_lstM, w_dct0, w_if, w_and, w_or, w_not, w_tAnd, w_tOr, w_tNot, w_tB, w_tTru, w_chain, w_goN, w_goS, w_sl, w_attr, w_meth, uBl_b, uInt_i, s_nil, s_seq, s_drop, s_ret, s_retN, s_if, s_asg, s_par2, s_par3, s_asgT, s_break, s_cont, t_name, t_sub, t_attr, t_tup, t_nil, t_cons, set0, setS, s_for, w_giE, w_gir1, w_gir2, w_gizip, w_gienum, w_lc, Option.bind_some, Option.map_some, mkU_f, mkU_i, mkU_b, mkU_s, mkU_t, mkU_n, vw_d, vw_ref, fr_d, fr_ref, f1_d, f2_d, f1_u, f2_u, fA_1, fA_u, vws_nil, vws_cons, ixU_d, ixU_ref, cIx_l, cV_l, g0, gS, st0, stS, ix_l, ix_t, add_ii, sub_ii, eq_ii, cmp_ii, int_i, len_l, len_t, len_s, a50, a51]
      by_cases hi : i < ((ns.map D.int).length : Int)
      · have hi2 : i.toNat < ns.length := by simp at hi; omega
        have hc : (ns.map D.int)[i.toNat]? = some (.int ns[i.toNat]) := by rw [List.getElem?_map, List.getElem?_eq_getElem hi2]; rfl
        simp only [hi, decide_true, if_true, w_asO, w_ok, w_bind, w_up, w_upU, w_V0, w_VS, w_C, w_O1, w_O2, w_OA, w_OU, w_ix, w_call, w_nil, w_cons, w_dnil, w_dcons, w_tup, w_lst, w_lstM, w_dct0, w_if, w_and, w_or, w_not, w_tAnd, w_tOr, w_tNot, w_tB, w_tTru, w_chain, w_goN, w_goS, w_sl, w_attr, w_meth, uBl_b, uInt_i, s_nil, s_seq, s_drop, s_ret, s_retN, s_if, s_asg, s_par2, s_par3, s_asgT, s_break, s_cont, t_name, t_sub, t_attr, t_tup, t_nil, t_cons, set0, setS, s_for, w_giE, w_gir1, w_gir2, w_gizip, w_gienum, w_lc, Option.bind_some, Option.map_some, mkU_f, mkU_i, mkU_b, mkU_s, mkU_t, mkU_n, vw_d, vw_ref, fr_d, fr_ref, f1_d, f2_d, f1_u, f2_u, fA_1, fA_u, vws_nil, vws_cons, ixU_d, ixU_ref, cIx_l, cV_l, g0, gS, st0, stS, ix_l, ix_t, add_ii, sub_ii, eq_ii, cmp_ii, int_i, len_l, len_t, len_s, a50, a51, atI_nat h4 hc, p51, pow18]
        generalize ns[i.toNat] = v
        by_cases hv : 1000000000000000000 ≤ v
        · simp only [hv, decide_true, if_true, w_asO, w_ok, w_bind, w_up, w_upU, w_V0, w_VS, w_C, w_O1, w_O2, w_OA, w_OU, w_ix, w_call, w_nil, w_cons, w_dnil, w_dcons, w_tup, w_lst, w_lstM, w_dct0, w_if, w_and, w_or, w_not, w_tAnd, w_tOr, w_tNot, w_tB, w_tTru, w_chain, w_goN, w_goS, w_sl, w_attr, w_meth, uBl_b, uInt_i, s_nil, s_seq, s_drop, s_ret, s_retN, s_if, s_asg, s_par2, s_par3, s_asgT, s_break, s_cont, t_name, t_sub, t_attr, t_tup, t_nil, t_cons, set0, setS, s_for, w_giE, w_gir1, w_gir2, w_gizip, w_gienum, w_lc, Option.bind_some, Option.map_some, mkU_f, mkU_i, mkU_b, mkU_s, mkU_t, mkU_n, vw_d, vw_ref, fr_d, fr_ref, f1_d, f2_d, f1_u, f2_u, fA_1, fA_u, vws_nil, vws_cons, ixU_d, ixU_ref, cIx_l, cV_l, g0, gS, st0, stS, ix_l, ix_t, add_ii, sub_ii, eq_ii, cmp_ii, int_i, len_l, len_t, len_s, p52]
          exact ⟨i + 1, v, b, some (.d (.int v)), rfl, rfl, by omega, by omega, h6, h7⟩
        · have b1 := Int.emod_nonneg v (show (2147483579 : Int) ≠ 0 by decide)
          have b2 := Int.emod_lt_of_pos v (show (0 : Int) < 2147483579 by decide)
          have e2 : oMul (.int b) (.int 46337) = _ := mul_ok h6 (by omega) (by decide) (by decide)
          have e3 : oMul (.int (v % 2147483579)) (.int 5003) = _ := mul_ok b1 (by omega) (by decide) (by decide)
          simp only [hv, decide_false, Bool.false_eq_true, if_false, w_asO, w_ok, w_bind, w_up, w_upU, w_V0, w_VS, w_C, w_O1, w_O2, w_OA, w_OU, w_ix, w_call, w_nil, w_cons, w_dnil, w_dcons, w_tup, w_lst, w_lstM, w_dct0, w_if, w_and, w_or, w_not, w_tAnd, w_tOr, w_tNot, w_tB, w_tTru, w_chain, w_goN, w_goS, w_sl, w_attr, w_meth, uBl_b, uInt_i, s_nil, s_seq, s_drop, s_ret, s_retN, s_if, s_asg, s_par2, s_par3, s_asgT, s_break, s_cont, t_name, t_sub, t_attr, t_tup, t_nil, t_cons, set0, setS, s_for, w_giE, w_gir1, w_gir2, w_gizip, w_gienum, w_lc, Option.bind_some, Option.map_some, mkU_f, mkU_i, mkU_b, mkU_s, mkU_t, mkU_n, vw_d, vw_ref, fr_d, fr_ref, f1_d, f2_d, f1_u, f2_u, fA_1, fA_u, vws_nil, vws_cons, ixU_d, ixU_ref, cIx_l, cV_l, g0, gS, st0, stS, ix_l, ix_t, add_ii, sub_ii, eq_ii, cmp_ii, int_i, len_l, len_t, len_s, a53, mod_ok (show (0 : Int) < 2147483579 by decide), mod_ok (show (0 : Int) < 2147483629 by decide), e2, e3, p53]
          exact ⟨i + 1, 0, _, some (.d (.int v)), rfl, rfl, by omega, by omega, Int.emod_nonneg _ (by decide), Int.emod_lt_of_pos _ (by decide)⟩
      · simp only [hi, decide_false, Bool.false_eq_true, if_false, w_asO, w_ok, w_bind, w_up, w_upU, w_V0, w_VS, w_C, w_O1, w_O2, w_OA, w_OU, w_ix, w_call, w_nil, w_cons, w_dnil, w_dcons, w_tup, w_lst, w_lstM, w_dct0, w_if, w_and, w_or, w_not, w_tAnd, w_tOr, w_tNot, w_tB, w_tTru, w_chain, w_goN, w_goS, w_sl, w_attr, w_meth, uBl_b, uInt_i, s_nil, s_seq, s_drop, s_ret, s_retN, s_if, s_asg, s_par2, s_par3, s_asgT, s_break, s_cont, t_name, t_sub, t_attr, t_tup, t_nil, t_cons, set0, setS, s_for, w_giE, w_gir1, w_gir2, w_gizip, w_gienum, w_lc, Option.bind_some, Option.map_some, mkU_f, mkU_i, mkU_b, mkU_s, mkU_t, mkU_n, vw_d, vw_ref, fr_d, fr_ref, f1_d, f2_d, f1_u, f2_u, fA_1, fA_u, vws_nil, vws_cons, ixU_d, ixU_ref, cIx_l, cV_l, g0, gS, st0, stS, ix_l, ix_t, add_ii, sub_ii, eq_ii, cmp_ii, int_i, len_l, len_t, len_s]
        exact ⟨i, 0, b, none, rfl, rfl, h4, h5, h6, h7⟩
    · simp only [ha, decide_false, Bool.false_eq_true, if_false, w_asO, w_ok, w_bind, w_up, w_upU, w_V0, w_VS, w_C, w_O1, w_O2, w_OA, w_OU, w_ix, w_call, w_nil, w_cons, w_dnil, w_dcons, w_tup, w_lst, w_lstM, w_dct0, w_if, w_and, w_or, w_not, w_tAnd, w_tOr, w_tNot, w_tB, w_tTru, w_chain, w_goN, w_goS, w_sl, w_attr, w_meth, uBl_b, uInt_i, s_nil, s_seq, s_drop, s_ret, s_retN, s_if, s_asg, s_par2, s_par3, s_asgT, s_break, s_cont, t_name, t_sub, t_attr, t_tup, t_nil, t_cons, set0, setS, s_for, w_giE, w_gir1, w_gir2, w_gizip, w_gienum, w_lc, Option.bind_some, Option.map_some, mkU_f, mkU_i, mkU_b, mkU_s, mkU_t, mkU_n]
      exact ⟨i, a, b, none, rfl, rfl, h4, h5, h6, h7⟩
  · rintro ρ S1 ⟨i, a, b, o, rfl, rfl, h4, h5, h6, h7⟩
    simp only [w_asO, w_ok, w_bind, w_up, w_upU, w_V0, w_VS, w_C, w_O1, w_O2, w_OA, w_OU, w_ix, w_call, w_nil, w_cons, w_dnil, w_dcons, w_tup, w_lst, w_lstM, w_dct0, w_if, w_and, w_or, w_not, w_tAnd, w_tOr, w_tNot, w_tB, w_tTru, w_chain, w_goN, w_goS, w_sl, w_attr, w_meth, uBl_b, uInt_i, s_nil, s_seq, s_drop, s_ret, s_retN, s_if, s_asg, s_par2, s_par3, s_asgT, s_break, s_cont, t_name, t_sub, t_attr, t_tup, t_nil, t_cons, set0, setS, s_for, w_giE, w_gir1, w_gir2, w_gizip, w_gienum, w_lc, Option.bind_some, Option.map_some, mkU_f, mkU_i, mkU_b, mkU_s, mkU_t, mkU_n, vw_d, vw_ref, fr_d, fr_ref, f1_d, f2_d, f1_u, f2_u, fA_1, fA_u, vws_nil, vws_cons, ixU_d, ixU_ref, cIx_l, cV_l, g0, gS, st0, stS, ix_l, ix_t, add_ii, sub_ii, eq_ii, cmp_ii, int_i, len_l, len_t, len_s, a52]
    by_cases ha : 0 < a
    · simp only [ha, decide_true, if_true, w_asO, w_ok, w_bind, w_up, w_upU, w_V0, w_VS, w_C, w_O1, w_O2, w_OA, w_OU, w_ix, w_call, w_nil, w_cons, w_dnil, w_dcons, w_tup, w_lst, w_lstM, w_dct0, w_if, w_and, w_or, w_not, w_tAnd, w_tOr, w_tNot, w_tB, w_tTru, w_chain, w_goN, w_goS, w_sl, w_attr, w_meth, uBl_b, uInt_i, s_nil, s_seq, s_drop, s_ret, s_retN, s_if, s_asg, s_par2, s_par3, s_asgT, s_break, s_cont, t_name, t_sub, t_attr, t_tup, t_nil, t_cons, set0, setS, s_for, w_giE, w_gir1, w_gir2, w_gizip, w_gienum, w_lc, Option.bind_some, Option.map_some, mkU_f, mkU_i, mkU_b, mkU_s, mkU_t, mkU_n, vw_d, vw_ref, fr_d, fr_ref, f1_d, f2_d, f1_u, f2_u, fA_1, fA_u, vws_nil, vws_cons, ixU_d, ixU_ref, cIx_l, cV_l, g0, gS, st0, stS, ix_l, ix_t, add_ii, sub_ii, eq_ii, cmp_ii, int_i, len_l, len_t, len_s, a52, mod_ok hm, fdiv_ok (i := a) hm (by omega), p52]
      exact ⟨a % m, _, rfl, Int.emod_nonneg _ (by omega), Int.emod_lt_of_pos _ hm, rfl, ⟨ns, i, a / m, b, e, rfl, h4, Int.ediv_nonneg h5 (by omega), h6, h7, h8, by omega⟩⟩
    · have e1 : oMul (.int b) (.int b) = _ := mul_ok h6 (by omega) h6 (by omega)
      have e2 : oMul (.int b) (.int 30011) = _ := mul_ok h6 (by omega) (by decide) (by decide)
      have e3 : oMul (.int (e + 1)) (.int 1299721) = _ := mul_ok (by omega) (by omega) (by decide) (by decide)
      simp only [ha, decide_false, Bool.false_eq_true, if_false, w_asO, w_ok, w_bind, w_up, w_upU, w_V0, w_VS, w_C, w_O1, w_O2, w_OA, w_OU, w_ix, w_call, w_nil, w_cons, w_dnil, w_dcons, w_tup, w_lst, w_lstM, w_dct0, w_if, w_and, w_or, w_not, w_tAnd, w_tOr, w_tNot, w_tB, w_tTru, w_chain, w_goN, w_goS, w_sl, w_attr, w_meth, uBl_b, uInt_i, s_nil, s_seq, s_drop, s_ret, s_retN, s_if, s_asg, s_par2, s_par3, s_asgT, s_break, s_cont, t_name, t_sub, t_attr, t_tup, t_nil, t_cons, set0, setS, s_for, w_giE, w_gir1, w_gir2, w_gizip, w_gienum, w_lc, Option.bind_some, Option.map_some, mkU_f, mkU_i, mkU_b, mkU_s, mkU_t, mkU_n, vw_d, vw_ref, fr_d, fr_ref, f1_d, f2_d, f1_u, f2_u, fA_1, fA_u, vws_nil, vws_cons, ixU_d, ixU_ref, cIx_l, cV_l, g0, gS, st0, stS, ix_l, ix_t, add_ii, sub_ii, eq_ii, cmp_ii, int_i, len_l, len_t, len_s, a54, a53, p54, e1, e2, e3, mod_ok (show (0 : Int) < 2147483629 by decide), p53]
      generalize hb2 : (b * b + b * 30011 + (e + 1) * 1299721 + 77761) % 2147483629 = b2
      have c1 : 0 ≤ b2 := by rw [← hb2]; exact Int.emod_nonneg _ (by decide)
      have c2 : b2 < 2147483629 := by rw [← hb2]; exact Int.emod_lt_of_pos _ (by decide)
      have f1 : oFdiv (.int b2) (.int 67) = _ := fdiv_ok (by decide) (by decide)
      have f3 : oMul (.int (b2 % 7919)) (.int 53) = _ := mul_ok (Int.emod_nonneg _ (by decide)) (Int.lt_trans (Int.emod_lt_of_pos _ (by decide)) (by decide)) (by decide) (by decide)
      simp only [w_asO, w_ok, w_bind, w_up, w_upU, w_V0, w_VS, w_C, w_O1, w_O2, w_OA, w_OU, w_ix, w_call, w_nil, w_cons, w_dnil, w_dcons, w_tup, w_lst, w_lstM, w_dct0, w_if, w_and, w_or, w_not, w_tAnd, w_tOr, w_tNot, w_tB, w_tTru, w_chain, w_goN, w_goS, w_sl, w_attr, w_meth, uBl_b, uInt_i, s_nil, s_seq, s_drop, s_ret, s_retN, s_if, s_asg, s_par2, s_par3, s_asgT, s_break, s_cont, t_name, t_sub, t_attr, t_tup, t_nil, t_cons, set0, setS, s_for, w_giE, w_gir1, w_gir2, w_gizip, w_gienum, w_lc, Option.bind_some, Option.map_some, mkU_f, mkU_i, mkU_b, mkU_s, mkU_t, mkU_n, vw_d, vw_ref, fr_d, fr_ref, f1_d, f2_d, f1_u, f2_u, fA_1, fA_u, vws_nil, vws_cons, ixU_d, ixU_ref, cIx_l, cV_l, g0, gS, st0, stS, ix_l, ix_t, add_ii, sub_ii, eq_ii, cmp_ii, int_i, len_l, len_t, len_s, f1, mod_ok (show (0 : Int) < 7919 by decide), f3, mod_ok hm]
      exact ⟨_, _, rfl, Int.emod_nonneg _ (by omega), Int.emod_lt_of_pos _ hm, rfl, ⟨ns, i, a, b2, e + 1, rfl, h4, h5, c1, c2, by omega, by omega⟩⟩
end
end Dv
set_option maxRecDepth 100000
set_option maxHeartbeats 1000000
namespace Dv
open PySem PySem.Spec PyProof.Rows L2
noncomputable section
/-! ### at a call's end -/
theorem keep_refl (S : Store) : keepP S S := ⟨Nat.le_refl _, fun j c h e => .inl e⟩
theorem keep_app (S L : Store) : keepP S (S ++ L) := ⟨by simp, fun j c h e => .inl (by rwa [List.getElem?_append_left h] at e)⟩
theorem keep_src (c c' : Cell) (R L : Store) (h : refsB (R.length + 1) c' = true) : keepP (c :: R) (c' :: (R ++ L)) := by
  refine ⟨by simp, fun j d hj e => ?_⟩
  cases j with
  | zero => rw [g0] at e; cases e; exact .inr h
  | succ j =>
    rw [gS] at e
    have hj' : j < R.length := by simpa using hj
    rw [List.getElem?_append_left hj'] at e
    exact .inl e
theorem cut_bad {mu : Bool} {S : Store} : cutR mu S .bad = .bad := rfl
theorem cut_d {mu : Bool} {S S' : Store} {x : D} (h : keepP S S') : cutR mu S (.ok (.d x) S') = .ok (.d x) (S'.take S.length) := by
  have e : cutR mu S (.ok (.d x) S') = if keepP S S' then .ok (.d x) (S'.take S.length) else .ok (.d x) S' := by cases mu <;> rfl
  rw [e, if_pos h]
theorem cut_rf {S S' : Store} {n : Nat} {ds : List D} (h : keepP S S') (hn : S.length ≤ n) (e : S'[n]? = some (.lst ds)) : cutR false S (.ok (.ref n) S') = .ok (.d (.lst ds)) (S'.take S.length) := by
  show (match fr S' (.ref n) with
    | some (x, S1) => if keepP S S1 then R.ok (U.d x) (S1.take S.length) else R.ok (U.d x) S1
    | none => R.ok (U.ref n) S') = _
  rw [fr_ref, e]
  show (if keepP S (S'.set n (.fz (.lst ds))) then R.ok (U.d (.lst ds)) ((S'.set n (.fz (.lst ds))).take S.length) else _) = _
  rw [if_pos, List.take_set_of_le hn]
  exact ⟨by simpa using h.1, fun j c hj e' => by
    rw [List.getElem?_set_ne (by omega)] at e'
    exact h.2 j c hj e'⟩
theorem cut_rt {S S' : Store} {n : Nat} {ds : List D} (h : keepP S S') (hn : S.length ≤ n) (e : S'[n]? = some (.lst ds)) : cutR true S (.ok (.ref n) S') = .ok (.ref S.length) (S'.take S.length ++ [.lst ds]) := by
  show (match S'[n]? with
    | some c => if boxC c = true ∧ S.length ≤ n ∧ keepP S S' then R.ok (U.ref S.length) (S'.take S.length ++ [c]) else R.ok (U.ref n) S'
    | none => R.ok (U.ref n) S') = _
  rw [e]
  exact if_pos ⟨rfl, hn, h⟩
/-- what is handed back is x, made data -/
def Fz (S : Store) (n : Nat) (u : U) (x : D) : Prop := u = .d x ∨ ∃ m ds, u = .ref m ∧ n ≤ m ∧ S[m]? = some (.lst ds) ∧ x = .lst ds
theorem cut_fz {S S' : Store} {u : U} {x : D} (h : keepP S S') (f : Fz S' S.length u x) : cutR false S (.ok u S') = .ok (.d x) (S'.take S.length) := by
  rcases f with rfl | ⟨m, ds, rfl, hm, e, rfl⟩
  · exact cut_d h
  · exact cut_rf h hm e
/-- pure: the store is as it was -/
theorem cut_pure {S : Store} {r : R U} {x : D} (h : r.sat noX fun u S' => ∃ L, S' = S ++ L ∧ Fz S' S.length u x) : cutR false S r = .ok (.d x) S := by
  obtain ⟨u, S', rfl, L, rfl, f⟩ := h.ex
  rw [cut_fz (keep_app S L) f]
  simp
/-- pure, and no list is handed back -/
theorem cut_val {mu : Bool} {S : Store} {r : R U} {x : D} (h : r.sat noX fun u S' => u = .d x ∧ ∃ L, S' = S ++ L) : cutR mu S r = .ok (.d x) S := by
  obtain ⟨u, S', rfl, rfl, L, rfl⟩ := h.ex
  rw [cut_d (keep_app S L)]
  simp
theorem SrcC.refs {M : Int} {c : Cell} (h : SrcC M c) (n : Nat) : refsB n c = true := by
  obtain ⟨ns, i, a, b, e, rfl, _⟩ := h.ex
  rfl
/-- with draws: x is handed back -/
def DS (r : R U) (R : Store) (M : Int) (P : D → Prop) : Prop := r.sat noX fun u S' => ∃ x c', u = .d x ∧ S' = c' :: R ∧ SrcC M c' ∧ P x
theorem DS.use {r : R U} {R : Store} {M : Int} {P : D → Prop} {X : XQ} {Q : U → Store → Prop} (h : DS r R M P) (k : ∀ x c', SrcC M c' → P x → Q (.d x) (c' :: R)) : r.sat X Q :=
  Dv.R.sat.no h fun u S' ⟨x, c', hu, hS, hc, hp⟩ => by subst hu; subst hS; exact k x c' hc hp
theorem DS.cut {r : R U} {c : Cell} {R : Store} {M : Int} {P : D → Prop} (h : r.sat noX fun u S' => ∃ x c' L, S' = c' :: (R ++ L) ∧ SrcC M c' ∧ Fz S' (R.length + 1) u x ∧ P x) : DS (cutR false (c :: R) r) R M P := by
  obtain ⟨u, S', rfl, x, c', L, rfl, hc, f, hp⟩ := h.ex
  rw [cut_fz (keep_src c c' R L (hc.refs _)) f]
  exact ⟨x, c', rfl, by simp, hc, hp⟩
theorem DS.cutv {mu : Bool} {r : R U} {c : Cell} {R : Store} {M : Int} {P : D → Prop} (h : r.sat noX fun u S' => ∃ x c' L, u = .d x ∧ S' = c' :: (R ++ L) ∧ SrcC M c' ∧ P x) : DS (cutR mu (c :: R) r) R M P := by
  obtain ⟨u, S', rfl, x, c', L, rfl, rfl, hc, hp⟩ := h.ex
  rw [cut_d (keep_src c c' R L (hc.refs _))]
  exact ⟨x, c', rfl, by simp, hc, hp⟩
theorem DrawOk.ds {C : Cs} (h : DrawOk C) {M m : Int} {c : Cell} {R : Store} {mu : Bool} (hs : SrcC M c) (hM : M < LIM) (hm : 0 < m) (hm2 : m < 1000000) : DS (C "_law_draw" mu [] [.ref 0, .d (.int m)] [] (c :: R)) R (M + 1) fun x => ∃ v, x = .int v ∧ 0 ≤ v ∧ v < m := by
  refine (h M m c R mu hs hM hm hm2).imp ?_
  rintro u S' ⟨v, c', rfl, h0, h1, rfl, hc⟩
  exact ⟨_, c', rfl, rfl, hc, v, rfl, h0, h1⟩
theorem draw_cut (T : Tab) (M m : Int) (c : Cell) (R : Store) (mu : Bool) (hs : SrcC M c) (hM : M < LIM) (hm : 0 < m) (hm2 : m < 1000000) :
    (cutR mu (c :: R) (endR (B__law_draw T mu [some (.ref 0), some (.d (.int m)), none, none, none] (c :: R)))).sat noX fun u S' => ∃ v c', u = .d (.int v) ∧ 0 ≤ v ∧ v < m ∧ S' = c' :: R ∧ SrcC (M + 1) c' := by
  have h : DS (cutR mu (c :: R) (endR (B__law_draw T mu [some (.ref 0), some (.d (.int m)), none, none, none] (c :: R)))) R (M + 1) fun x => ∃ v, x = .int v ∧ 0 ≤ v ∧ v < m := DS.cutv ((draw_B T M m c R mu hs hM hm hm2).imp fun u S' ⟨v, c', hu, h0, h1, hS, hc⟩ => ⟨_, c', [], hu, by simpa using hS, hc, v, rfl, h0, h1⟩)
  exact h.imp fun u S' ⟨x, c', hu, hS, hc, v, hx, h0, h1⟩ => ⟨v, c', by rw [hu, hx], h0, h1, hS, hc⟩
/-! lists that grow behind the source -/
theorem gE (R : Store) (c : Cell) : (R ++ [c])[R.length]? = some c := List.getElem?_concat_length
theorem stE (R : Store) (c d : Cell) : List.set (R ++ [c]) R.length d = R ++ [d] := by rw [List.set_append_right _ _ (Nat.le_refl _)]; simp
theorem app_l (c : Cell) (R : Store) (ds : List D) (y : D) (h : ds.length < 1000000) : mAppend false (c :: (R ++ [.lst ds])) (.ref (R.length + 1)) [.d y] = some (.d .non, c :: (R ++ [.lst (ds ++ [y])])) := by
  show (appU _ _ _).map _ = _
  unfold appU
  rw [fr_d]
  dsimp only
  rw [gS, gE]
  dsimp only
  rw [if_pos (by rw [sizeLine_eq]; omega), stS, stE]
  rfl
theorem ins_l (c : Cell) (R : Store) (ds : List D) (y : D) (i : Int) (h : ds.length < 1000000) (h0 : 0 ≤ i) (h1 : i < 1000000000) : mInsert false (c :: (R ++ [.lst ds])) (.ref (R.length + 1)) [.d (.int i), .d y] = some (.d .non, c :: (R ++ [.lst (ds.take i.toNat ++ [y] ++ ds.drop i.toNat)])) := by
  unfold mInsert
  dsimp only
  rw [gS, gE]
  dsimp only
  rw [if_pos ⟨by rw [sizeLine_eq]; omega, h0, h1⟩, stS, stE]
theorem mk_l (T : Tab) (m : Str) (ds : List D) : mkCell T m (.lst ds) = (mbFor m "list").map fun _ => .inr "list" := rfl
theorem tyOk_l (c : Cell) (R : Store) (ds : List D) : tyOk (c :: (R ++ [.lst ds])) (.ref (R.length + 1)) "list" = true := by
  unfold tyOk tyU
  dsimp only
  rw [gS, gE]
  rfl
theorem tyOk_s (S : Store) (x : Str) : tyOk S (.d (.str x)) "str" = true := rfl
/-! sources that are walked -/
theorem items_at (ds : List D) (S : Store) (i : Nat) (h : i ≤ ds.length) : srcItems ds i S = if i < ds.length then some (some (.d (ds.getD i .non))) else some none := by
  show some ((ds[i]?).map U.d) = _
  by_cases q : i < ds.length
  · rw [if_pos q]; simp [q]
  · rw [if_neg q]; simp [q]
theorem range_at (lo : Int) (N : Nat) (S : Store) (i : Nat) : srcRange lo N i S = if i < N then some (some (.d (.int (lo + i)))) else some none := by
  show some (if i < N then some (U.d (D.int (lo + i))) else none) = _
  by_cases q : i < N
  · rw [if_pos q, if_pos q]
  · rw [if_neg q, if_neg q]
theorem getD_mem {α : Type} {ds : List α} {i : Nat} {d : α} (h : i < ds.length) : ds.getD i d ∈ ds := by
  rw [List.getD_eq_getElem?_getD, List.getElem?_eq_getElem h]
  exact List.getElem_mem h
theorem iter_l (S : Store) (ds : List D) : iterU S (.d (.lst ds)) = some (srcItems ds) := rfl
theorem iter_t (S : Store) (ds : List D) : iterU S (.d (.tup ds)) = some (srcItems ds) := rfl
theorem iter_f (S : Store) (ds : List D) : iterU S (.d (.fl ds)) = some (srcItems ds) := rfl
theorem iter_s (S : Store) (x : Str) : iterU S (.d (.str x)) = some (srcItems (x.cps.toList.map fun c => .str ⟨#[c]⟩)) := rfl
theorem range1_i (j : Int) (h : -(2 ^ 62) ≤ j ∧ j < 2 ^ 62) : rangeOf1 [.d (.int j)] = some (srcRange 0 j.toNat) := if_pos h
/-! a loop over items -/
theorem for_items {ds : List D} {tg : GTg} {body : GS} {E : EndsD} {ρ : Env} {S : Store} (hl : ds.length < 1000000) (I : Nat → Env → Store → Prop) (h0 : I 0 ρ S)
    (step : ∀ i ρ S, i < ds.length → I i ρ S → asO (tg (.d (ds.getD i .non)) ρ S) fun p => satS (body p.1 p.2) { nx := I (i + 1), ct := I (i + 1), bk := E.nx, rt := E.rt, ex := E.ex })
    (fin : ∀ ρ S, I ds.length ρ S → E.nx ρ S) : satS (forGo (srcItems ds) tg body lim 0 ρ S) E :=
  forGo_sat ds.length (fun i => .d (ds.getD i .non)) I (fun i ρ S hi _ => items_at ds S i hi) step fin ds.length 0 lim ρ S (by omega) (Nat.zero_le _) (by have := lim_big; omega) h0
theorem for_range {lo : Int} {N : Nat} {tg : GTg} {body : GS} {E : EndsD} {ρ : Env} {S : Store} (hl : N < 1000000) (I : Nat → Env → Store → Prop) (h0 : I 0 ρ S)
    (step : ∀ i ρ S, i < N → I i ρ S → asO (tg (.d (.int (lo + i))) ρ S) fun p => satS (body p.1 p.2) { nx := I (i + 1), ct := I (i + 1), bk := E.nx, rt := E.rt, ex := E.ex })
    (fin : ∀ ρ S, I N ρ S → E.nx ρ S) : satS (forGo (srcRange lo N) tg body lim 0 ρ S) E :=
  forGo_sat N (fun i => .d (.int (lo + i))) I (fun i ρ S hi _ => range_at lo N S i) step fin N 0 lim ρ S (by omega) (Nat.zero_le _) (by have := lim_big; omega) h0
/-! comprehensions -/
theorem lc_items {ds : List D} {ct : CT} {t : Option GT} {el : G} {n : Nat} {ρw : Env} {S : Store} {P : Store → Prop} (hl : ds.length < 1000000) (I : Nat → List D → Store → Prop) (h0 : I 0 [] S)
    (step : ∀ i acc S, i < ds.length → acc.length ≤ i → I i acc S → asO (ct.put (.d (ds.getD i .non)) ρw) fun ρ1 => (testLc t ρ1 S).sat noX fun c S1 => if c = true then (el ρ1 S1).sat noX fun y S2 => asO (fr S2 y) fun p => p.2[n]? = some (.lst acc) ∧ I (i + 1) (acc ++ [p.1]) (p.2.set n (.lst (acc ++ [p.1]))) else I (i + 1) acc S1)
    (fin : ∀ acc S, acc.length ≤ ds.length → I ds.length acc S → P S) : asO (lcGo (srcItems ds) ct t el n ρw lim 0 S) P := by
  obtain ⟨S2, e, h⟩ := lcGo_sat (src := srcItems ds) (ct := ct) (t := t) (el := el) (n := n) (ρw := ρw) (Q := P) ds.length (fun i => .d (ds.getD i .non)) (fun i acc S => acc.length ≤ i ∧ I i acc S) (fun i acc S hi _ => items_at ds S i hi)
    (fun i acc S hi h => by
      have st := step i acc S hi h.1 h.2
      cases hp : ct.put (.d (ds.getD i .non)) ρw with
      | none => rw [hp] at st; exact st.elim
      | some ρ1 =>
        rw [hp] at st
        refine R.sat.imp (show (testLc t ρ1 S).sat noX _ from st) fun c S1 hc => ?_
        cases c with
        | false =>
          rw [if_neg (by decide)] at hc ⊢
          exact ⟨by omega, hc⟩
        | true =>
          rw [if_pos rfl] at hc ⊢
          refine R.sat.imp hc fun y S2 hy => ?_
          cases hf : fr S2 y with
          | none => rw [hf] at hy; exact hy.elim
          | some p =>
            rw [hf] at hy
            exact ⟨hy.1, by rw [sizeLine_eq]; omega, by rw [List.length_append, List.length_singleton]; omega, hy.2⟩) (fun acc S h => fin acc S h.1 h.2) ds.length 0 lim [] S (by omega) (Nat.zero_le _) (by have := lim_big; omega) ⟨Nat.le_refl _, h0⟩
  rw [e]
  exact h
theorem lc_range {lo : Int} {N : Nat} {ct : CT} {t : Option GT} {el : G} {n : Nat} {ρw : Env} {S : Store} {P : Store → Prop} (hl : N < 1000000) (I : Nat → List D → Store → Prop) (h0 : I 0 [] S)
    (step : ∀ i acc S, i < N → acc.length ≤ i → I i acc S → asO (ct.put (.d (.int (lo + i))) ρw) fun ρ1 => (testLc t ρ1 S).sat noX fun c S1 => if c = true then (el ρ1 S1).sat noX fun y S2 => asO (fr S2 y) fun p => p.2[n]? = some (.lst acc) ∧ I (i + 1) (acc ++ [p.1]) (p.2.set n (.lst (acc ++ [p.1]))) else I (i + 1) acc S1)
    (fin : ∀ acc S, acc.length ≤ N → I N acc S → P S) : asO (lcGo (srcRange lo N) ct t el n ρw lim 0 S) P := by
  obtain ⟨S2, e, h⟩ := lcGo_sat (src := srcRange lo N) (ct := ct) (t := t) (el := el) (n := n) (ρw := ρw) (Q := P) N (fun i => .d (.int (lo + i))) (fun i acc S => acc.length ≤ i ∧ I i acc S) (fun i acc S hi _ => range_at lo N S i)
    (fun i acc S hi h => by
      have st := step i acc S hi h.1 h.2
      cases hp : ct.put (.d (.int (lo + i))) ρw with
      | none => rw [hp] at st; exact st.elim
      | some ρ1 =>
        rw [hp] at st
        refine R.sat.imp (show (testLc t ρ1 S).sat noX _ from st) fun c S1 hc => ?_
        cases c with
        | false =>
          rw [if_neg (by decide)] at hc ⊢
          exact ⟨by omega, hc⟩
        | true =>
          rw [if_pos rfl] at hc ⊢
          refine R.sat.imp hc fun y S2 hy => ?_
          cases hf : fr S2 y with
          | none => rw [hf] at hy; exact hy.elim
          | some p =>
            rw [hf] at hy
            exact ⟨hy.1, by rw [sizeLine_eq]; omega, by rw [List.length_append, List.length_singleton]; omega, hy.2⟩) (fun acc S h => fin acc S h.1 h.2) N 0 lim [] S (by omega) (Nat.zero_le _) (by have := lim_big; omega) ⟨Nat.le_refl _, h0⟩
  rw [e]
  exact h
theorem flst_f (S : Store) (L : Store) (ds : List D) (h : L[0]? = some (.lst ds)) : frzLst false S (S ++ L) = .ok (.d (.lst ds)) S := by
  unfold frzLst
  have e : (S ++ L)[S.length]? = some (.lst ds) := by rw [List.getElem?_append_right (Nat.le_refl _)]; simpa using h
  rw [e]
  dsimp only
  rw [if_pos ⟨rfl, keep_app S L⟩]
  simp
theorem flst_s (c c' : Cell) (R : Store) (ds : List D) (h : refsB (R.length + 1) c' = true) : frzLst false (c :: R) (c' :: (R ++ [.lst ds])) = .ok (.d (.lst ds)) (c' :: R) := by
  unfold frzLst
  have e : (c' :: (R ++ [.lst ds]))[(c :: R).length]? = some (.lst ds) := by rw [List.length_cons, gS, gE]
  rw [e]
  dsimp only
  rw [if_pos ⟨rfl, keep_src c c' R [.lst ds] h⟩]
  simp
/-- a comprehension over data without effects -/
theorem lc_pure {ds : List D} {ct : CT} {t : Option GT} {el : G} {S : Store} {vs : List Nat} {ρ : Env} {Q : U → Store → Prop} {X : XQ} {p : D → Bool} {f : D → D} (hl : ds.length < 1000000)
    (step : ∀ d ∈ ds, ∀ L, ∃ ρ1, ct.put (.d d) (wipeD ρ vs) = some ρ1 ∧ testLc t ρ1 (S ++ [.lst L]) = .ok (p d) (S ++ [.lst L]) ∧ (p d = true → el ρ1 (S ++ [.lst L]) = .ok (.d (f d)) (S ++ [.lst L])))
    (fin : Q (.d (.lst ((ds.filter p).map f))) S) : asO (lcGo (srcItems ds) ct t el S.length (wipeD ρ vs) lim 0 (S ++ [.lst []])) fun S2 => (frzLst false S S2).sat X Q := by
  refine lc_items hl (fun i acc S' => S' = S ++ [.lst acc] ∧ acc = ((ds.take i).filter p).map f) ⟨rfl, rfl⟩ ?_ ?_
  · rintro i acc S' hi _ ⟨rfl, rfl⟩
    have hd : ds.getD i .non ∈ ds := getD_mem hi
    have ht : ds.take (i + 1) = ds.take i ++ [ds.getD i .non] := by
      rw [List.take_succ, List.getElem?_eq_getElem hi, List.getD_eq_getElem?_getD, List.getElem?_eq_getElem hi]; rfl
    obtain ⟨ρ1, h1, h2, h3⟩ := step _ hd (((ds.take i).filter p).map f)
    rw [h1, w_asO, h2, w_ok]
    by_cases hp : p (ds.getD i .non) = true
    · rw [if_pos hp, h3 hp, w_ok, fr_d, w_asO]
      refine ⟨by simp, by rw [List.set_append_right _ _ (Nat.le_refl _)]; simp, ?_⟩
      rw [ht, List.filter_append, List.map_append, List.filter_cons_of_pos hp]
      rfl
    · rw [if_neg hp]
      refine ⟨rfl, ?_⟩
      rw [ht, List.filter_append, List.map_append, List.filter_cons_of_neg hp]
      simp
  · rintro acc S' _ ⟨rfl, rfl⟩
    rw [flst_f S _ _ rfl, w_ok, List.take_length]
    exact fin
end
end Dv
set_option maxRecDepth 100000
set_option maxHeartbeats 1000000
namespace Dv
open PySem PySem.Spec PyProof.Rows L2
noncomputable section
/-! ### what the law's drawing defs give -/
def SeqX (x : D) (ds : List D) : Prop := x = .lst ds ∨ x = .tup ds
theorem SeqX.len {x : D} {ds : List D} (h : SeqX x ds) : cLen [x] = some (.int ds.length) := by rcases h with rfl | rfl <;> rfl
theorem SeqX.ix {x : D} {ds : List D} (h : SeqX x ds) (i : Int) : dIx x (.int i) = atI ds i := by rcases h with rfl | rfl <;> rfl
theorem SeqX.iter {x : D} {ds : List D} (h : SeqX x ds) (S : Store) : iterU S (.d x) = some (srcItems ds) := by rcases h with rfl | rfl <;> rfl
def OfOk (C : Cs) : Prop := ∀ (M : Int) (c : Cell) (R : Store) (mu : Bool) (x : D) (ds : List D), SrcC M c → M < LIM → SeqX x ds → 0 < ds.length → ds.length < 1000000 → DS (C "_law_of" mu [] [.ref 0, .d x] [] (c :: R)) R (M + 1) fun y => y ∈ ds
theorem of_B {T : Tab} (hd : DrawOk T.call) (M : Int) (c : Cell) (R : Store) (mu : Bool) (x : D) (ds : List D) (hs : SrcC M c) (hM : M < LIM) (hx : SeqX x ds) (h0 : 0 < ds.length) (h1 : ds.length < 1000000) :
    DS (cutR mu (c :: R) (endR (B__law_of T mu [some (.ref 0), some (.d x)] (c :: R)))) R (M + 1) fun y => y ∈ ds := by
  refine DS.cutv ?_
  rw [w_end]
  unfold B__law_of
  simp only [w_asO, w_ok, w_bind, w_up, w_upU, w_V0, w_VS, w_C, w_O1, w_O2, w_OA, w_OU, w_ix, w_call, w_nil, w_cons, w_dnil, w_dcons, w_tup, w_lst, w_lstM, w_dct0, w_if, w_and, w_or, w_not, w_tAnd, w_tOr, w_tNot, w_tB, w_tTru, w_chain, w_goN, w_goS, w_sl, w_attr, w_meth, uBl_b, uInt_i, s_nil, s_seq, s_drop, s_ret, s_retN, s_if, s_asg, s_par2, s_par3, s_asgT, s_break, s_cont, t_name, t_sub, t_attr, t_tup, t_nil, t_cons, set0, setS, s_for, w_giE, w_gir1, w_gir2, w_gizip, w_gienum, w_lc, Option.bind_some, Option.map_some, mkU_f, mkU_i, mkU_b, mkU_s, mkU_t, mkU_n, vw_d, vw_ref, fr_d, fr_ref, f1_d, f2_d, f1_u, f2_u, fA_1, fA_u, vws_nil, vws_cons, ixU_d, ixU_ref, cIx_l, cV_l, g0, gS, st0, stS, ix_l, ix_t, add_ii, sub_ii, eq_ii, cmp_ii, int_i, len_l, len_t, len_s, hx.len]
  refine (hd.ds hs hM (by omega) (by omega)).use ?_
  rintro y c' hc ⟨v, rfl, v0, v1⟩
  have hv : v.toNat < ds.length := by omega
  simp only [w_asO, w_ok, w_bind, w_up, w_upU, w_V0, w_VS, w_C, w_O1, w_O2, w_OA, w_OU, w_ix, w_call, w_nil, w_cons, w_dnil, w_dcons, w_tup, w_lst, w_lstM, w_dct0, w_if, w_and, w_or, w_not, w_tAnd, w_tOr, w_tNot, w_tB, w_tTru, w_chain, w_goN, w_goS, w_sl, w_attr, w_meth, uBl_b, uInt_i, s_nil, s_seq, s_drop, s_ret, s_retN, s_if, s_asg, s_par2, s_par3, s_asgT, s_break, s_cont, t_name, t_sub, t_attr, t_tup, t_nil, t_cons, set0, setS, s_for, w_giE, w_gir1, w_gir2, w_gizip, w_gienum, w_lc, Option.bind_some, Option.map_some, mkU_f, mkU_i, mkU_b, mkU_s, mkU_t, mkU_n, vw_d, vw_ref, fr_d, fr_ref, f1_d, f2_d, f1_u, f2_u, fA_1, fA_u, vws_nil, vws_cons, ixU_d, ixU_ref, cIx_l, cV_l, g0, gS, st0, stS, ix_l, ix_t, add_ii, sub_ii, eq_ii, cmp_ii, int_i, len_l, len_t, len_s, hx.ix, atI_nat v0 (List.getElem?_eq_getElem hv)]
  exact ⟨_, c', [], rfl, by simp, hc, List.getElem_mem hv⟩
theorem take_succ' {α : Type} {ds : List α} {i : Nat} {e : α} (h : i < ds.length) : ds.take (i + 1) = ds.take i ++ [ds.getD i e] := by
  rw [List.take_succ, List.getElem?_eq_getElem h, List.getD_eq_getElem?_getD, List.getElem?_eq_getElem h]; rfl
theorem len_c (c : Cell) (R : Store) : (c :: R).length = R.length + 1 := rfl
theorem app_c (c d : Cell) (R : Store) : (c :: R) ++ [d] = c :: (R ++ [d]) := rfl
def SomeOk (C : Cs) : Prop := ∀ (M : Int) (c : Cell) (R : Store) (x : D) (ds : List D), SrcC M c → M + ds.length < LIM → SeqX x ds → ds.length < 1000000 → DS (C "_law_some" false [] [.ref 0, .d x] [] (c :: R)) R (M + ds.length) fun y => ∃ es, y = .lst es ∧ es.Sublist ds
theorem some_B {T : Tab} (hd : DrawOk T.call) (M : Int) (c : Cell) (R : Store) (x : D) (ds : List D) (hs : SrcC M c) (hM : M + ds.length < LIM) (hx : SeqX x ds) (h1 : ds.length < 1000000) :
    DS (cutR false (c :: R) (endR (B__law_some T false [some (.ref 0), some (.d x), none, none] (c :: R)))) R (M + ds.length) fun y => ∃ es, y = .lst es ∧ es.Sublist ds := by
  have hM : M + ds.length < 1000000000000 := hM
  refine DS.cut ?_
  rw [w_end]
  unfold B__law_some
  simp only [w_asO, w_ok, w_bind, w_up, w_upU, w_V0, w_VS, w_C, w_O1, w_O2, w_OA, w_OU, w_ix, w_call, w_nil, w_cons, w_dnil, w_dcons, w_tup, w_lst, w_lstM, w_dct0, w_if, w_and, w_or, w_not, w_tAnd, w_tOr, w_tNot, w_tB, w_tTru, w_chain, w_goN, w_goS, w_sl, w_attr, w_meth, uBl_b, uInt_i, s_nil, s_seq, s_drop, s_ret, s_retN, s_if, s_asg, s_par2, s_par3, s_asgT, s_break, s_cont, t_name, t_sub, t_attr, t_tup, t_nil, t_cons, set0, setS, s_for, w_giE, w_gir1, w_gir2, w_gizip, w_gienum, w_lc, Option.bind_some, Option.map_some, mkU_f, mkU_i, mkU_b, mkU_s, mkU_t, mkU_n, vw_d, vw_ref, fr_d, fr_ref, f1_d, f2_d, f1_u, f2_u, fA_1, fA_u, vws_nil, vws_cons, ixU_d, ixU_ref, cIx_l, cV_l, g0, gS, st0, stS, ix_l, ix_t, add_ii, sub_ii, eq_ii, cmp_ii, int_i, len_l, len_t, len_s, mkL_nil, len_c, app_c, hx.iter]
  refine for_items h1 (fun i ρ S => ∃ (es : List D) (o : Option U) (c' : Cell), ρ = [some (.ref 0), some (.d x), some (.ref (R.length + 1)), o] ∧ S = c' :: (R ++ [.lst es]) ∧ es.Sublist (ds.take i) ∧ SrcC (M + i) c') ⟨[], none, c, rfl, rfl, by simp, by simpa using hs⟩ ?_ ?_
  · rintro i ρ S hi ⟨es, o, c', rfl, rfl, h2, h3⟩
    simp only [w_asO, w_ok, w_bind, w_up, w_upU, w_V0, w_VS, w_C, w_O1, w_O2, w_OA, w_OU, w_ix, w_call, w_nil, w_cons, w_dnil, w_dcons, w_tup, w_lst, w_lstM, w_dct0, w_if, w_and, w_or, w_not, w_tAnd, w_tOr, w_tNot, w_tB, w_tTru, w_chain, w_goN, w_goS, w_sl, w_attr, w_meth, uBl_b, uInt_i, s_nil, s_seq, s_drop, s_ret, s_retN, s_if, s_asg, s_par2, s_par3, s_asgT, s_break, s_cont, t_name, t_sub, t_attr, t_tup, t_nil, t_cons, set0, setS, s_for, w_giE, w_gir1, w_gir2, w_gizip, w_gienum, w_lc, Option.bind_some, Option.map_some, mkU_f, mkU_i, mkU_b, mkU_s, mkU_t, mkU_n, vw_d, vw_ref, fr_d, fr_ref, f1_d, f2_d, f1_u, f2_u, fA_1, fA_u, vws_nil, vws_cons, ixU_d, ixU_ref, cIx_l, cV_l, g0, gS, st0, stS, ix_l, ix_t, add_ii, sub_ii, eq_ii, cmp_ii, int_i, len_l, len_t, len_s]
    refine (hd.ds h3 (show M + i < 1000000000000 by omega) (by decide) (by decide)).use ?_
    rintro y c2 hc ⟨v, rfl, v0, v1⟩
    simp only [w_asO, w_ok, w_bind, w_up, w_upU, w_V0, w_VS, w_C, w_O1, w_O2, w_OA, w_OU, w_ix, w_call, w_nil, w_cons, w_dnil, w_dcons, w_tup, w_lst, w_lstM, w_dct0, w_if, w_and, w_or, w_not, w_tAnd, w_tOr, w_tNot, w_tB, w_tTru, w_chain, w_goN, w_goS, w_sl, w_attr, w_meth, uBl_b, uInt_i, s_nil, s_seq, s_drop, s_ret, s_retN, s_if, s_asg, s_par2, s_par3, s_asgT, s_break, s_cont, t_name, t_sub, t_attr, t_tup, t_nil, t_cons, set0, setS, s_for, w_giE, w_gir1, w_gir2, w_gizip, w_gienum, w_lc, Option.bind_some, Option.map_some, mkU_f, mkU_i, mkU_b, mkU_s, mkU_t, mkU_n, vw_d, vw_ref, fr_d, fr_ref, f1_d, f2_d, f1_u, f2_u, fA_1, fA_u, vws_nil, vws_cons, ixU_d, ixU_ref, cIx_l, cV_l, g0, gS, st0, stS, ix_l, ix_t, add_ii, sub_ii, eq_ii, cmp_ii, int_i, len_l, len_t, len_s]
    have hl : es.length < 1000000 := by have := h2.length_le; have := List.length_take_le i ds; omega
    by_cases hv : v = 0
    · simp only [hv, decide_true, if_true, w_asO, w_ok, w_bind, w_up, w_upU, w_V0, w_VS, w_C, w_O1, w_O2, w_OA, w_OU, w_ix, w_call, w_nil, w_cons, w_dnil, w_dcons, w_tup, w_lst, w_lstM, w_dct0, w_if, w_and, w_or, w_not, w_tAnd, w_tOr, w_tNot, w_tB, w_tTru, w_chain, w_goN, w_goS, w_sl, w_attr, w_meth, uBl_b, uInt_i, s_nil, s_seq, s_drop, s_ret, s_retN, s_if, s_asg, s_par2, s_par3, s_asgT, s_break, s_cont, t_name, t_sub, t_attr, t_tup, t_nil, t_cons, set0, setS, s_for, w_giE, w_gir1, w_gir2, w_gizip, w_gienum, w_lc, Option.bind_some, Option.map_some, mkU_f, mkU_i, mkU_b, mkU_s, mkU_t, mkU_n, mk_ref, vw_d, vw_ref, fr_d, fr_ref, f1_d, f2_d, f1_u, f2_u, fA_1, fA_u, vws_nil, vws_cons, ixU_d, ixU_ref, cIx_l, cV_l, g0, gS, st0, stS, ix_l, ix_t, add_ii, sub_ii, eq_ii, cmp_ii, int_i, len_l, len_t, len_s, gE, mk_l, mb_append, w_mb (h := mb_append), tyOk_l, app_l _ _ _ _ hl]
      refine ⟨es ++ [ds.getD i .non], _, c2, rfl, rfl, ?_, hc.mono (by omega)⟩
      rw [take_succ' hi]
      exact h2.append (List.Sublist.refl _)
    · simp only [hv, decide_false, Bool.false_eq_true, if_false, w_asO, w_ok, w_bind, w_up, w_upU, w_V0, w_VS, w_C, w_O1, w_O2, w_OA, w_OU, w_ix, w_call, w_nil, w_cons, w_dnil, w_dcons, w_tup, w_lst, w_lstM, w_dct0, w_if, w_and, w_or, w_not, w_tAnd, w_tOr, w_tNot, w_tB, w_tTru, w_chain, w_goN, w_goS, w_sl, w_attr, w_meth, uBl_b, uInt_i, s_nil, s_seq, s_drop, s_ret, s_retN, s_if, s_asg, s_par2, s_par3, s_asgT, s_break, s_cont, t_name, t_sub, t_attr, t_tup, t_nil, t_cons, set0, setS, s_for, w_giE, w_gir1, w_gir2, w_gizip, w_gienum, w_lc, Option.bind_some, Option.map_some, mkU_f, mkU_i, mkU_b, mkU_s, mkU_t, mkU_n]
      refine ⟨es, _, c2, rfl, rfl, ?_, hc.mono (by omega)⟩
      rw [take_succ' (e := .non) hi]
      exact h2.trans (List.sublist_append_left _ _)
  · rintro ρ S ⟨es, o, c', rfl, rfl, h2, h3⟩
    simp only [w_asO, w_ok, w_bind, w_up, w_upU, w_V0, w_VS, w_C, w_O1, w_O2, w_OA, w_OU, w_ix, w_call, w_nil, w_cons, w_dnil, w_dcons, w_tup, w_lst, w_lstM, w_dct0, w_if, w_and, w_or, w_not, w_tAnd, w_tOr, w_tNot, w_tB, w_tTru, w_chain, w_goN, w_goS, w_sl, w_attr, w_meth, uBl_b, uInt_i, s_nil, s_seq, s_drop, s_ret, s_retN, s_if, s_asg, s_par2, s_par3, s_asgT, s_break, s_cont, t_name, t_sub, t_attr, t_tup, t_nil, t_cons, set0, setS, s_for, w_giE, w_gir1, w_gir2, w_gizip, w_gienum, w_lc, Option.bind_some, Option.map_some, mkU_f, mkU_i, mkU_b, mkU_s, mkU_t, mkU_n, vw_d, vw_ref, fr_d, fr_ref, f1_d, f2_d, f1_u, f2_u, fA_1, fA_u, vws_nil, vws_cons, ixU_d, ixU_ref, cIx_l, cV_l, g0, gS, st0, stS, ix_l, ix_t, add_ii, sub_ii, eq_ii, cmp_ii, int_i, len_l, len_t, len_s]
    rw [List.take_length] at h2
    exact ⟨_, c', [.lst es], rfl, h3, .inr ⟨_, es, rfl, Nat.le_refl _, by rw [gS, gE], rfl⟩, es, rfl, h2⟩
theorem ins_perm {es : List D} {y : D} {k : Nat} : (es.take k ++ [y] ++ es.drop k).Perm (es ++ [y]) := by
  have e : es.take k ++ es.drop k = es := List.take_append_drop k es
  refine (List.Perm.append_right _ (List.perm_append_comm (l₁ := es.take k) (l₂ := [y]))).trans ?_
  rw [List.append_assoc, e]
  exact List.perm_append_comm
def MixedOk (C : Cs) : Prop := ∀ (M : Int) (c : Cell) (R : Store) (x : D) (ds : List D), SrcC M c → M + ds.length < LIM → SeqX x ds → ds.length < 100000 → DS (C "_law_mixed" false [] [.ref 0, .d x] [] (c :: R)) R (M + ds.length) fun y => ∃ es, y = .lst es ∧ es.Perm ds
theorem mixed_B {T : Tab} (hd : DrawOk T.call) (M : Int) (c : Cell) (R : Store) (x : D) (ds : List D) (hs : SrcC M c) (hM : M + ds.length < LIM) (hx : SeqX x ds) (h1 : ds.length < 100000) :
    DS (cutR false (c :: R) (endR (B__law_mixed T false [some (.ref 0), some (.d x), none, none] (c :: R)))) R (M + ds.length) fun y => ∃ es, y = .lst es ∧ es.Perm ds := by
  have hM : M + ds.length < 1000000000000 := hM
  refine DS.cut ?_
  rw [w_end]
  unfold B__law_mixed
  simp only [w_asO, w_ok, w_bind, w_up, w_upU, w_V0, w_VS, w_C, w_O1, w_O2, w_OA, w_OU, w_ix, w_call, w_nil, w_cons, w_dnil, w_dcons, w_tup, w_lst, w_lstM, w_dct0, w_if, w_and, w_or, w_not, w_tAnd, w_tOr, w_tNot, w_tB, w_tTru, w_chain, w_goN, w_goS, w_sl, w_attr, w_meth, uBl_b, uInt_i, s_nil, s_seq, s_drop, s_ret, s_retN, s_if, s_asg, s_par2, s_par3, s_asgT, s_break, s_cont, t_name, t_sub, t_attr, t_tup, t_nil, t_cons, set0, setS, s_for, w_giE, w_gir1, w_gir2, w_gizip, w_gienum, w_lc, Option.bind_some, Option.map_some, mkU_f, mkU_i, mkU_b, mkU_s, mkU_t, mkU_n, vw_d, vw_ref, fr_d, fr_ref, f1_d, f2_d, f1_u, f2_u, fA_1, fA_u, vws_nil, vws_cons, ixU_d, ixU_ref, cIx_l, cV_l, g0, gS, st0, stS, ix_l, ix_t, add_ii, sub_ii, eq_ii, cmp_ii, int_i, len_l, len_t, len_s, mkL_nil, len_c, app_c, hx.iter]
  refine for_items (by omega) (fun i ρ S => ∃ (es : List D) (o : Option U) (c' : Cell), ρ = [some (.ref 0), some (.d x), some (.ref (R.length + 1)), o] ∧ S = c' :: (R ++ [.lst es]) ∧ es.Perm (ds.take i) ∧ SrcC (M + i) c') ⟨[], none, c, rfl, rfl, .refl _, by simpa using hs⟩ ?_ ?_
  · rintro i ρ S hi ⟨es, o, c', rfl, rfl, h2, h3⟩
    have hl : es.length ≤ i := by have := h2.length_eq; have := List.length_take_le i ds; omega
    simp only [w_asO, w_ok, w_bind, w_up, w_upU, w_V0, w_VS, w_C, w_O1, w_O2, w_OA, w_OU, w_ix, w_call, w_nil, w_cons, w_dnil, w_dcons, w_tup, w_lst, w_lstM, w_dct0, w_if, w_and, w_or, w_not, w_tAnd, w_tOr, w_tNot, w_tB, w_tTru, w_chain, w_goN, w_goS, w_sl, w_attr, w_meth, uBl_b, uInt_i, s_nil, s_seq, s_drop, s_ret, s_retN, s_if, s_asg, s_par2, s_par3, s_asgT, s_break, s_cont, t_name, t_sub, t_attr, t_tup, t_nil, t_cons, set0, setS, s_for, w_giE, w_gir1, w_gir2, w_gizip, w_gienum, w_lc, Option.bind_some, Option.map_some, mkU_f, mkU_i, mkU_b, mkU_s, mkU_t, mkU_n, vw_d, vw_ref, fr_d, fr_ref, f1_d, f2_d, f1_u, f2_u, fA_1, fA_u, vws_nil, vws_cons, ixU_d, ixU_ref, cIx_l, cV_l, g0, gS, st0, stS, ix_l, ix_t, add_ii, sub_ii, eq_ii, cmp_ii, int_i, len_l, len_t, len_s, mk_ref, gE, mk_l, mb_insert, w_mb (h := mb_insert)]
    refine (hd.ds h3 (show M + i < 1000000000000 by omega) (by omega) (by omega)).use ?_
    rintro y c2 hc ⟨v, rfl, v0, v1⟩
    simp only [w_asO, w_ok, w_bind, w_up, w_upU, w_V0, w_VS, w_C, w_O1, w_O2, w_OA, w_OU, w_ix, w_call, w_nil, w_cons, w_dnil, w_dcons, w_tup, w_lst, w_lstM, w_dct0, w_if, w_and, w_or, w_not, w_tAnd, w_tOr, w_tNot, w_tB, w_tTru, w_chain, w_goN, w_goS, w_sl, w_attr, w_meth, uBl_b, uInt_i, s_nil, s_seq, s_drop, s_ret, s_retN, s_if, s_asg, s_par2, s_par3, s_asgT, s_break, s_cont, t_name, t_sub, t_attr, t_tup, t_nil, t_cons, set0, setS, s_for, w_giE, w_gir1, w_gir2, w_gizip, w_gienum, w_lc, Option.bind_some, Option.map_some, mkU_f, mkU_i, mkU_b, mkU_s, mkU_t, mkU_n, vw_d, vw_ref, fr_d, fr_ref, f1_d, f2_d, f1_u, f2_u, fA_1, fA_u, vws_nil, vws_cons, ixU_d, ixU_ref, cIx_l, cV_l, g0, gS, st0, stS, ix_l, ix_t, add_ii, sub_ii, eq_ii, cmp_ii, int_i, len_l, len_t, len_s, tyOk_l, if_true, ins_l _ _ _ _ _ (show es.length < 1000000 by omega) v0 (show v < 1000000000 by omega)]
    refine ⟨_, _, c2, rfl, rfl, ?_, hc.mono (by omega)⟩
    rw [take_succ' (e := .non) hi]
    exact ins_perm.trans (h2.append_right _)
  · rintro ρ S ⟨es, o, c', rfl, rfl, h2, h3⟩
    simp only [w_asO, w_ok, w_bind, w_up, w_upU, w_V0, w_VS, w_C, w_O1, w_O2, w_OA, w_OU, w_ix, w_call, w_nil, w_cons, w_dnil, w_dcons, w_tup, w_lst, w_lstM, w_dct0, w_if, w_and, w_or, w_not, w_tAnd, w_tOr, w_tNot, w_tB, w_tTru, w_chain, w_goN, w_goS, w_sl, w_attr, w_meth, uBl_b, uInt_i, s_nil, s_seq, s_drop, s_ret, s_retN, s_if, s_asg, s_par2, s_par3, s_asgT, s_break, s_cont, t_name, t_sub, t_attr, t_tup, t_nil, t_cons, set0, setS, s_for, w_giE, w_gir1, w_gir2, w_gizip, w_gienum, w_lc, Option.bind_some, Option.map_some, mkU_f, mkU_i, mkU_b, mkU_s, mkU_t, mkU_n, vw_d, vw_ref, fr_d, fr_ref, f1_d, f2_d, f1_u, f2_u, fA_1, fA_u, vws_nil, vws_cons, ixU_d, ixU_ref, cIx_l, cV_l, g0, gS, st0, stS, ix_l, ix_t, add_ii, sub_ii, eq_ii, cmp_ii, int_i, len_l, len_t, len_s]
    rw [List.take_length] at h2
    exact ⟨_, c', [.lst es], rfl, h3, .inr ⟨_, es, rfl, Nat.le_refl _, by rw [gS, gE], rfl⟩, es, rfl, h2⟩
/-! ### words -/
def sml (c : Nat) : Bool := decide (97 ≤ c) && decide (c ≤ 122)
def nameB (x : Str) : Bool := (decide (1 ≤ x.length) && decide (x.length ≤ 8)) && x.cps.toList.all sml
abbrev abc : Str := "abcdefghijklmnopqrstuvwxyz"
theorem abc_list : abc.cps.toList = (List.range 26).map (97 + ·) := by decide +kernel
theorem abc_len : abc.length = 26 := by decide +kernel
theorem abc_mem (c : Nat) : c ∈ abc.cps.toList ↔ sml c = true := by
  rw [abc_list, List.mem_map]
  constructor
  · rintro ⟨a, ha, rfl⟩
    have := List.mem_range.mp ha
    simp [sml]; omega
  · intro h
    simp [sml] at h
    exact ⟨c - 97, List.mem_range.mpr (by omega), by omega⟩
def chr (c : Nat) : Str := ⟨#[c]⟩
theorem ix_abc {v : Int} (h0 : 0 ≤ v) (h1 : v < 26) : dIx (.str abc) (.int v) = some (.str (chr (97 + v.toNat))) := by
  show (atI abc.cps.toList v).map (fun c => D.str ⟨#[c]⟩) = _
  rw [abc_list, atI_nat h0 (z := 97 + v.toNat) (by rw [List.getElem?_map, List.getElem?_range (by omega)]; rfl)]
  rfl
theorem join_fold : ∀ (l : List Nat) (acc : Array Nat), (l.map chr).foldl (fun acc p => acc ++ (Str.ofString "").cps ++ p.cps) acc = acc ++ l.toArray
  | [], acc => by simp
  | c :: l, acc => by
    rw [List.map_cons, List.foldl_cons, join_fold l]
    have : (Str.ofString "").cps = #[] := by decide +kernel
    rw [this]
    simp [chr]
theorem join_chars (l : List Nat) : Txt.join (Str.ofString "") (l.map chr) = ⟨l.toArray⟩ := by
  show (⟨_⟩ : Str) = _
  cases l with
  | nil => rfl
  | cons c l =>
    congr 1
    show ((l.map chr).foldl _ #[c]) = _
    rw [join_fold]
    simp
theorem mjoin_ok {S : Store} {cs : List Nat} (hl : cs.length < 1000) : mJoin false S (.d (.str (Str.ofString ""))) [.d (.lst (cs.map fun c => D.str (chr c)))] = some (.d (.str ⟨cs.toArray⟩), S) := by
  have e : (cs.map fun c => D.str (chr c)) = (cs.map chr).map D.str := by simp
  have z : (Str.ofString "").length = 0 := by decide +kernel
  have su : ((cs.map chr).map fun x : Str => x.length).sum = cs.length := by
    clear hl e
    induction cs with
    | nil => rfl
    | cons c cs ih => simp only [List.map_cons, List.sum_cons, ih, List.length_cons]; rw [show (chr c).length = 1 from rfl]; omega
  have j : joinD (Str.ofString "") (.lst (cs.map fun c => D.str (chr c))) = some (.str ⟨cs.toArray⟩) := by
    show (strsD (cs.map fun c => D.str (chr c))).bind _ = _
    rw [e, strsD_map]
    show (if _ then _ else _) = _
    rw [if_pos (by rw [su, z]; omega), join_chars]
  unfold mJoin
  dsimp only
  rw [vw_d, Option.bind_some, j]
  rfl
def WordOk (C : Cs) : Prop := ∀ (M : Int) (c : Cell) (R : Store), SrcC M c → M + 9 < LIM → DS (C "_law_word" false [] [.ref 0] [] (c :: R)) R (M + 9) fun y => ∃ x, y = .str x ∧ nameB x = true
theorem word_B {T : Tab} (hd : DrawOk T.call) (M : Int) (c : Cell) (R : Store) (hs : SrcC M c) (hM : M + 9 < LIM) :
    DS (cutR false (c :: R) (endR (B__law_word T false [some (.ref 0), none, none] (c :: R)))) R (M + 9) fun y => ∃ x, y = .str x ∧ nameB x = true := by
  have hM : M + 9 < 1000000000000 := hM
  refine DS.cut ?_
  rw [w_end]
  unfold B__law_word
  simp only [w_asO, w_ok, w_bind, w_up, w_upU, w_V0, w_VS, w_C, w_O1, w_O2, w_OA, w_OU, w_ix, w_call, w_nil, w_cons, w_dnil, w_dcons, w_tup, w_lst, w_lstM, w_dct0, w_if, w_and, w_or, w_not, w_tAnd, w_tOr, w_tNot, w_tB, w_tTru, w_chain, w_goN, w_goS, w_sl, w_attr, w_meth, uBl_b, uInt_i, s_nil, s_seq, s_drop, s_ret, s_retN, s_if, s_asg, s_par2, s_par3, s_asgT, s_break, s_cont, t_name, t_sub, t_attr, t_tup, t_nil, t_cons, set0, setS, s_for, w_giE, w_gir1, w_gir2, w_gizip, w_gienum, w_lc, Option.bind_some, Option.map_some, mkU_f, mkU_i, mkU_b, mkU_s, mkU_t, mkU_n, vw_d, vw_ref, fr_d, fr_ref, f1_d, f2_d, f1_u, f2_u, fA_1, fA_u, vws_nil, vws_cons, ixU_d, ixU_ref, cIx_l, cV_l, g0, gS, st0, stS, ix_l, ix_t, add_ii, sub_ii, eq_ii, cmp_ii, int_i, len_l, len_t, len_s, mk_str, mb_join, w_mb (h := mb_join)]
  refine (hd.ds hs (show M < 1000000000000 by omega) (by decide) (by decide)).use ?_
  rintro y c1 hc1 ⟨v, rfl, v0, v1⟩
  have rg : rangeOf1 [U.d (.int (1 + v))] = some (srcRange 0 (1 + v).toNat) := if_pos (by omega)
  simp only [w_asO, w_ok, w_bind, w_up, w_upU, w_V0, w_VS, w_C, w_O1, w_O2, w_OA, w_OU, w_ix, w_call, w_nil, w_cons, w_dnil, w_dcons, w_tup, w_lst, w_lstM, w_dct0, w_if, w_and, w_or, w_not, w_tAnd, w_tOr, w_tNot, w_tB, w_tTru, w_chain, w_goN, w_goS, w_sl, w_attr, w_meth, uBl_b, uInt_i, s_nil, s_seq, s_drop, s_ret, s_retN, s_if, s_asg, s_par2, s_par3, s_asgT, s_break, s_cont, t_name, t_sub, t_attr, t_tup, t_nil, t_cons, set0, setS, s_for, w_giE, w_gir1, w_gir2, w_gizip, w_gienum, w_lc, Option.bind_some, Option.map_some, mkU_f, mkU_i, mkU_b, mkU_s, mkU_t, mkU_n, vw_d, vw_ref, fr_d, fr_ref, f1_d, f2_d, f1_u, f2_u, fA_1, fA_u, vws_nil, vws_cons, ixU_d, ixU_ref, cIx_l, cV_l, g0, gS, st0, stS, ix_l, ix_t, add_ii, sub_ii, eq_ii, cmp_ii, int_i, len_l, len_t, len_s, rg, len_c, app_c]
  refine lc_range (by omega) (fun i acc S' => ∃ (cs : List Nat) (c' : Cell), acc = (cs.map fun c => D.str (chr c)) ∧ cs.length = i ∧ (∀ c ∈ cs, sml c = true) ∧ S' = c' :: (R ++ [.lst acc]) ∧ SrcC (M + 1 + i) c') ⟨[], c1, rfl, rfl, (fun c hc => absurd hc List.not_mem_nil), rfl, by simpa using hc1⟩ ?_ ?_
  · rintro i acc S' hi _ ⟨cs, c', rfl, h1, h2, rfl, h4⟩
    simp only [CT.put, testLc, wipeD, set0, setS, w_asO, w_ok, w_bind, w_up, w_upU, w_V0, w_VS, w_C, w_O1, w_O2, w_OA, w_OU, w_ix, w_call, w_nil, w_cons, w_dnil, w_dcons, w_tup, w_lst, w_lstM, w_dct0, w_if, w_and, w_or, w_not, w_tAnd, w_tOr, w_tNot, w_tB, w_tTru, w_chain, w_goN, w_goS, w_sl, w_attr, w_meth, uBl_b, uInt_i, s_nil, s_seq, s_drop, s_ret, s_retN, s_if, s_asg, s_par2, s_par3, s_asgT, s_break, s_cont, t_name, t_sub, t_attr, t_tup, t_nil, t_cons, set0, setS, s_for, w_giE, w_gir1, w_gir2, w_gizip, w_gienum, w_lc, Option.bind_some, Option.map_some, mkU_f, mkU_i, mkU_b, mkU_s, mkU_t, mkU_n, if_true, vw_d, vw_ref, fr_d, fr_ref, f1_d, f2_d, f1_u, f2_u, fA_1, fA_u, vws_nil, vws_cons, ixU_d, ixU_ref, cIx_l, cV_l, g0, gS, st0, stS, ix_l, ix_t, add_ii, sub_ii, eq_ii, cmp_ii, int_i, len_l, len_t, len_s]
    refine (hd.ds h4 (show M + 1 + i < 1000000000000 by omega) (by decide) (by decide)).use ?_
    rintro y c2 hc2 ⟨u, rfl, u0, u1⟩
    simp only [w_asO, w_ok, w_bind, w_up, w_upU, w_V0, w_VS, w_C, w_O1, w_O2, w_OA, w_OU, w_ix, w_call, w_nil, w_cons, w_dnil, w_dcons, w_tup, w_lst, w_lstM, w_dct0, w_if, w_and, w_or, w_not, w_tAnd, w_tOr, w_tNot, w_tB, w_tTru, w_chain, w_goN, w_goS, w_sl, w_attr, w_meth, uBl_b, uInt_i, s_nil, s_seq, s_drop, s_ret, s_retN, s_if, s_asg, s_par2, s_par3, s_asgT, s_break, s_cont, t_name, t_sub, t_attr, t_tup, t_nil, t_cons, set0, setS, s_for, w_giE, w_gir1, w_gir2, w_gizip, w_gienum, w_lc, Option.bind_some, Option.map_some, mkU_f, mkU_i, mkU_b, mkU_s, mkU_t, mkU_n, vw_d, vw_ref, fr_d, fr_ref, f1_d, f2_d, f1_u, f2_u, fA_1, fA_u, vws_nil, vws_cons, ixU_d, ixU_ref, cIx_l, cV_l, g0, gS, st0, stS, ix_l, ix_t, add_ii, sub_ii, eq_ii, cmp_ii, int_i, len_l, len_t, len_s, ix_abc u0 u1, gE, stE]
    refine ⟨trivial, cs ++ [97 + u.toNat], c2, by simp, by simp [h1], ?_, rfl, hc2.mono (by omega)⟩
    intro c hc
    rcases List.mem_append.mp hc with hc | hc
    · exact h2 c hc
    · rw [List.mem_singleton.mp hc]; simp [sml]; omega
  · rintro acc S' _ ⟨cs, c', rfl, h1, h2, rfl, h4⟩
    rw [flst_s _ _ _ _ (h4.refs _), w_ok]
    simp only [w_asO, w_ok, w_bind, w_up, w_upU, w_V0, w_VS, w_C, w_O1, w_O2, w_OA, w_OU, w_ix, w_call, w_nil, w_cons, w_dnil, w_dcons, w_tup, w_lst, w_lstM, w_dct0, w_if, w_and, w_or, w_not, w_tAnd, w_tOr, w_tNot, w_tB, w_tTru, w_chain, w_goN, w_goS, w_sl, w_attr, w_meth, uBl_b, uInt_i, s_nil, s_seq, s_drop, s_ret, s_retN, s_if, s_asg, s_par2, s_par3, s_asgT, s_break, s_cont, t_name, t_sub, t_attr, t_tup, t_nil, t_cons, set0, setS, s_for, w_giE, w_gir1, w_gir2, w_gizip, w_gienum, w_lc, Option.bind_some, Option.map_some, mkU_f, mkU_i, mkU_b, mkU_s, mkU_t, mkU_n, tyOk_s, if_true, mjoin_ok (show cs.length < 1000 by omega)]
    refine ⟨_, c', [], by simp, h4.mono (by omega), .inl rfl, _, rfl, ?_⟩
    simp only [nameB, Str.length, List.size_toArray, h1, Bool.and_eq_true, decide_eq_true_eq, List.all_eq_true]
    exact ⟨by omega, fun c hc => h2 c (by simpa using hc)⟩
end
end Dv
set_option maxRecDepth 100000
set_option maxHeartbeats 1000000
namespace Dv
open PySem PySem.Spec PyProof.Rows L2
noncomputable section
/-! ### isinstance of plain data -/
def tyB : D → Option String
  | .non => some "NoneType"
  | .bl _ => some "bool"
  | .int _ => some "int"
  | .str _ => some "str"
  | .tup _ => some "tuple"
  | .lst _ => some "list"
  | .fl _ => some "list"
  | .dct _ => some "dict"
  | _ => none
def subT (t n : String) : Bool := decide (t = n) || (decide (t = "bool") && decide (n = "int"))
def tysA : List String := ["NoneType", "bool", "int", "str", "tuple", "list", "dict"]
def asksA : List String := ["bool", "int", "str", "tuple", "list", "dict"]
structure KitB (kit : KitT) : Prop where
  b : ∀ t ∈ tysA, ∀ n ∈ asksA, kit (.b t) (.ty n) = some (subT t n)
theorem tyB_ok {x : D} {t : String} (h : tyB x = some t) : tyD x = some (.b t) ∧ t ∈ tysA := by
  cases x <;> cases h <;> exact ⟨rfl, by decide⟩
theorem isi_1 {kit : KitT} (hk : KitB kit) (S : Store) (x : D) (n t : String) (hx : tyB x = some t) (hn : n ∈ asksA) : isiU kit S [.d x, .d (.ty n)] = some (.bl (subT t n)) := by
  obtain ⟨h1, h2⟩ := tyB_ok hx
  show (if isCls (.ty n) then (tyD x).bind fun t => (kit t (.ty n)).map D.bl else none) = _
  rw [show isCls (D.ty n) = true from rfl, if_pos rfl, h1]
  show (kit (.b t) (.ty n)).map D.bl = _
  rw [hk.b t h2 n hn]; rfl
theorem isi_2 {kit : KitT} (hk : KitB kit) (S : Store) (x : D) (n m t : String) (hx : tyB x = some t) (hn : n ∈ asksA) (hm : m ∈ asksA) : isiU kit S [.d x, .d (.tup [.ty n, .ty m])] = some (.bl (subT t n || subT t m)) := by
  obtain ⟨h1, h2⟩ := tyB_ok hx
  show (tyD x).bind (fun t => (kitAny kit t [.ty n, .ty m]).map D.bl) = _
  rw [h1]
  show (kitAny kit (.b t) [.ty n, .ty m]).map D.bl = _
  have e : kitAny kit (.b t) [.ty n, .ty m] = some (subT t n || subT t m) := by
    unfold kitAny
    rw [show ([D.ty n, D.ty m].all isCls && ![D.ty n, D.ty m].isEmpty) = true from rfl, if_pos rfl]
    unfold kitGo
    rw [hk.b t h2 n hn]
    cases subT t n with
    | true => rfl
    | false =>
      dsimp only
      unfold kitGo
      rw [hk.b t h2 m hm]
      cases subT t m with
      | true => rfl
      | false => rfl
  rw [e]; rfl
theorem isi_c {kit : KitT} (hk : KitB kit) (S : Store) {x : D} {n t : String} {b : Bool} (hx : tyB x = some t) (hn : n ∈ asksA) (e : subT t n = b) : isiU kit S [.d x, .d (.ty n)] = some (.bl b) := by rw [← e]; exact isi_1 hk S x n t hx hn
theorem isi_cc {kit : KitT} (hk : KitB kit) (S : Store) {x : D} {n m t : String} {b : Bool} (hx : tyB x = some t) (hn : n ∈ asksA) (hm : m ∈ asksA) (e : (subT t n || subT t m) = b) : isiU kit S [.d x, .d (.tup [.ty n, .ty m])] = some (.bl b) := by rw [← e]; exact isi_2 hk S x n m t hx hn hm
def isL (x : D) : Bool := match x with
  | .lst _ => true
  | .fl _ => true
  | _ => false
def isTu (x : D) : Bool := match x with
  | .tup _ => true
  | _ => false
def isSt (x : D) : Bool := match x with
  | .str _ => true
  | _ => false
def isBo (x : D) : Bool := match x with
  | .bl _ => true
  | _ => false
def isIn (x : D) : Bool := match x with
  | .bl _ => true
  | .int _ => true
  | _ => false
/-- data whose type is a built-in one -/
def pl (x : D) : Bool := (tyB x).isSome
theorem pl_ty {x : D} (h : pl x = true) : ∃ t, tyB x = some t := Option.isSome_iff_exists.mp h
theorem isi_str {kit : KitT} (hk : KitB kit) (S : Store) {x : D} (h : pl x = true) : isiU kit S [.d x, .d (.ty "str")] = some (.bl (isSt x)) := by
  cases x <;> first | (exact isi_c hk S rfl (by decide) (by simp [subT, isSt, isL, isTu, isBo, isIn])) | cases h
theorem isi_list {kit : KitT} (hk : KitB kit) (S : Store) {x : D} (h : pl x = true) : isiU kit S [.d x, .d (.ty "list")] = some (.bl (isL x)) := by
  cases x <;> first | (exact isi_c hk S rfl (by decide) (by simp [subT, isSt, isL, isTu, isBo, isIn])) | cases h
theorem isi_tuple {kit : KitT} (hk : KitB kit) (S : Store) {x : D} (h : pl x = true) : isiU kit S [.d x, .d (.ty "tuple")] = some (.bl (isTu x)) := by
  cases x <;> first | (exact isi_c hk S rfl (by decide) (by simp [subT, isSt, isL, isTu, isBo, isIn])) | cases h
theorem isi_bool {kit : KitT} (hk : KitB kit) (S : Store) {x : D} (h : pl x = true) : isiU kit S [.d x, .d (.ty "bool")] = some (.bl (isBo x)) := by
  cases x <;> first | (exact isi_c hk S rfl (by decide) (by simp [subT, isSt, isL, isTu, isBo, isIn])) | cases h
theorem isi_int {kit : KitT} (hk : KitB kit) (S : Store) {x : D} (h : pl x = true) : isiU kit S [.d x, .d (.ty "int")] = some (.bl (isIn x)) := by
  cases x <;> first | (exact isi_c hk S rfl (by decide) (by simp [subT, isSt, isL, isTu, isBo, isIn])) | cases h
theorem isi_lt {kit : KitT} (hk : KitB kit) (S : Store) {x : D} (h : pl x = true) : isiU kit S [.d x, .d (.tup [.ty "list", .ty "tuple"])] = some (.bl (isL x || isTu x)) := by
  cases x <;> first | (exact isi_cc hk S rfl (by decide) (by decide) (by simp [subT, isSt, isL, isTu, isBo, isIn])) | cases h
/-! ### all of a list of bools -/
theorem all_bls (bs : List Bool) : cAll [.lst (bs.map D.bl)] = some (.bl (bs.all id)) := by
  show (blsD (bs.map D.bl)).map _ = _
  rw [blsD_map]; rfl
theorem any_bls (bs : List Bool) : cAny [.lst (bs.map D.bl)] = some (.bl (bs.any id)) := by
  show (blsD (bs.map D.bl)).map _ = _
  rw [blsD_map]; rfl
theorem tru_bl (b : Bool) : dTru (.bl b) = some b := rfl
theorem filter_all {α : Type} (l : List α) : l.filter (fun _ => true) = l := by simp
theorem oEq_bl (a b : Bool) : oEq (.bl a) (.bl b) = some (.bl (a == b)) := by
  have e : oEq (.bl a) (.bl b) = if (okD 60 (.bl a) && okD 60 (.bl b)) = true then some (D.bl (eqB (.bl a) (.bl b))) else none := rfl
  rw [e, show (okD 60 (D.bl a) && okD 60 (D.bl b)) = true from rfl, if_pos rfl]
  congr 2
  rw [Bool.eq_iff_iff, eqB_iff]
  cases a <;> cases b <;> simp [nrm]
theorem oNe_bl (a b : Bool) : oNe (.bl a) (.bl b) = some (.bl (!(a == b))) := by
  have e : oNe (.bl a) (.bl b) = if (okD 60 (.bl a) && okD 60 (.bl b)) = true then some (D.bl (!eqB (.bl a) (.bl b))) else none := rfl
  rw [e, show (okD 60 (D.bl a) && okD 60 (D.bl b)) = true from rfl, if_pos rfl]
  congr 3
  rw [Bool.eq_iff_iff, eqB_iff]
  cases a <;> cases b <;> simp [nrm]
theorem oEq_refl {x : D} (h : okD 60 x = true) : oEq x x = some (.bl true) := by
  have g : (if okD 60 x && okD 60 x then some (D.bl (eqB x x)) else none) = some (.bl true) := by
    rw [h, show (true && true) = true from rfl, if_pos rfl, eqB_iff.mpr rfl]
  cases x <;> first | exact g | (show some (D.bl (decide _)) = _; simp)
theorem is_non (x : D) : oIs x .non = some (.bl (isNonD x)) := rfl
theorem isnot_non (x : D) : oIsNot x .non = some (.bl (!isNonD x)) := rfl
/-! ### _law_same of a thing and itself -/
def gdS : Nat → D → Bool
  | _, .non => true
  | _, .bl _ => true
  | _, .int _ => true
  | _, .str _ => true
  | n + 1, .tup ds => decide (ds.length < 1000000) && ds.all (gdS n)
  | n + 1, .lst ds => decide (ds.length < 1000000) && ds.all (gdS n)
  | _, _ => false
def SameOk (n : Nat) (C : Cs) : Prop := ∀ (mu : Bool) (x : D) (S : Store), gdS n x = true → C "_law_same" mu [] [.d x, .d x] [] S = .ok (.d (.bl true)) S
theorem zip_self (ds : List D) (S : Store) (i : Nat) : srcZip (srcItems ds) (srcItems ds) i S = srcItems (ds.map fun d => .tup [d, d]) i S := by
  unfold srcZip srcItems
  rw [List.getElem?_map]
  cases ds[i]? with
  | none => rfl
  | some d => rfl
theorem same_seq {T : Tab} {n : Nat} (hk : KitB T.kit) (hC : SameOk n T.call) (mu : Bool) (x : D) (ds : List D) (S : Store) (hx : SeqX x ds) (hl : ds.length < 1000000) (hg : ds.all (gdS n) = true) : cutR mu S (endR (B__law_same T mu [some (.d x), some (.d x), none, none] S)) = .ok (.d (.bl true)) S := by
  refine cut_val ?_
  rw [w_end]
  unfold B__law_same
  have hp : pl x = true := by rcases hx with rfl | rfl <;> rfl
  have hlt : (isL x || isTu x) = true := by rcases hx with rfl | rfl <;> rfl
  have hz : ∀ S, zipOf S [.d x, .d x] = some (srcZip (srcItems ds) (srcItems ds)) := by rcases hx with rfl | rfl <;> exact fun _ => rfl
  simp only [w_asO, w_ok, w_bind, w_up, w_upU, w_V0, w_VS, w_C, w_O1, w_O2, w_OA, w_OU, w_ix, w_call, w_nil, w_cons, w_dnil, w_dcons, w_tup, w_lst, w_lstM, w_dct0, w_if, w_and, w_or, w_not, w_tAnd, w_tOr, w_tNot, w_tB, w_tTru, w_chain, w_goN, w_goS, w_sl, w_attr, w_meth, uBl_b, uInt_i, s_nil, s_seq, s_drop, s_ret, s_retN, s_if, s_asg, s_par2, s_par3, s_asgT, s_break, s_cont, t_name, t_sub, t_attr, t_tup, t_nil, t_cons, set0, setS, s_for, w_giE, w_gir1, w_gir2, w_gizip, w_gienum, w_lc, Option.bind_some, Option.map_some, mkU_f, mkU_i, mkU_b, mkU_s, mkU_t, mkU_n, vw_d, vw_ref, fr_d, fr_ref, f1_d, f2_d, f1_u, f2_u, fA_1, fA_u, vws_nil, vws_cons, ixU_d, ixU_ref, cIx_l, cV_l, g0, gS, st0, stS, ix_l, ix_t, add_ii, sub_ii, eq_ii, cmp_ii, int_i, len_l, len_t, len_s, isi_lt hk _ hp, hlt, tru_bl, if_true, isi_list hk _ hp, isi_tuple hk _ hp, oNe_bl, beq_self_eq_true, Bool.not_true, Bool.false_eq_true, if_false, hx.len, decide_true, hz]
  have e : srcZip (srcItems ds) (srcItems ds) = srcItems (ds.map fun d => .tup [d, d]) := by funext i S; exact zip_self ds S i
  rw [e]
  refine lc_pure (p := fun _ => true) (f := fun _ => .bl true) (by simpa using hl) ?_ ?_
  · intro d hd L
    obtain ⟨d0, h0, rfl⟩ := List.mem_map.mp hd
    refine ⟨_, rfl, rfl, fun _ => ?_⟩
    have hg0 : gdS n d0 = true := List.all_eq_true.mp hg d0 h0
    refine R.sat.eq ?_
    simp only [wipeD, setAll, List.map_cons, List.map_nil, set0, setS, w_asO, w_ok, w_bind, w_up, w_upU, w_V0, w_VS, w_C, w_O1, w_O2, w_OA, w_OU, w_ix, w_call, w_nil, w_cons, w_dnil, w_dcons, w_tup, w_lst, w_lstM, w_dct0, w_if, w_and, w_or, w_not, w_tAnd, w_tOr, w_tNot, w_tB, w_tTru, w_chain, w_goN, w_goS, w_sl, w_attr, w_meth, uBl_b, uInt_i, s_nil, s_seq, s_drop, s_ret, s_retN, s_if, s_asg, s_par2, s_par3, s_asgT, s_break, s_cont, t_name, t_sub, t_attr, t_tup, t_nil, t_cons, set0, setS, s_for, w_giE, w_gir1, w_gir2, w_gizip, w_gienum, w_lc, Option.bind_some, Option.map_some, mkU_f, mkU_i, mkU_b, mkU_s, mkU_t, mkU_n, hC false d0 _ hg0]
    exact ⟨trivial, trivial⟩
  · have el : (List.map (fun _ => D.bl true) (List.filter (fun _ => true) (ds.map fun d => D.tup [d, d]))) = (List.replicate ds.length true).map D.bl := by
      rw [filter_all, List.map_map]
      clear hl hg e hz hlt hp hx
      induction ds with
      | nil => rfl
      | cons d ds ih => rw [List.map_cons, ih]; rfl
    rw [el]
    simp only [w_asO, w_ok, w_bind, w_up, w_upU, w_V0, w_VS, w_C, w_O1, w_O2, w_OA, w_OU, w_ix, w_call, w_nil, w_cons, w_dnil, w_dcons, w_tup, w_lst, w_lstM, w_dct0, w_if, w_and, w_or, w_not, w_tAnd, w_tOr, w_tNot, w_tB, w_tTru, w_chain, w_goN, w_goS, w_sl, w_attr, w_meth, uBl_b, uInt_i, s_nil, s_seq, s_drop, s_ret, s_retN, s_if, s_asg, s_par2, s_par3, s_asgT, s_break, s_cont, t_name, t_sub, t_attr, t_tup, t_nil, t_cons, set0, setS, s_for, w_giE, w_gir1, w_gir2, w_gizip, w_gienum, w_lc, Option.bind_some, Option.map_some, mkU_f, mkU_i, mkU_b, mkU_s, mkU_t, mkU_n, vw_d, vw_ref, fr_d, fr_ref, f1_d, f2_d, f1_u, f2_u, fA_1, fA_u, vws_nil, vws_cons, ixU_d, ixU_ref, cIx_l, cV_l, g0, gS, st0, stS, ix_l, ix_t, add_ii, sub_ii, eq_ii, cmp_ii, int_i, len_l, len_t, len_s, all_bls]
    refine ⟨?_, [], by simp⟩
    simp
theorem same_B {T : Tab} {m : Nat} (hk : KitB T.kit) (hC : ∀ n, m = n + 1 → SameOk n T.call) (mu : Bool) (x : D) (S : Store) (h : gdS m x = true) : cutR mu S (endR (B__law_same T mu [some (.d x), some (.d x), none, none] S)) = .ok (.d (.bl true)) S := by
  cases x with
  | tup ds =>
    cases m with
    | zero => cases h
    | succ n =>
    have hC := hC n rfl
    have h' : (decide (ds.length < 1000000) && ds.all (gdS n)) = true := h
    rw [Bool.and_eq_true] at h'
    exact same_seq hk hC mu _ ds S (.inr rfl) (of_decide_eq_true h'.1) h'.2
  | lst ds =>
    cases m with
    | zero => cases h
    | succ n =>
    have hC := hC n rfl
    have h' : (decide (ds.length < 1000000) && ds.all (gdS n)) = true := h
    rw [Bool.and_eq_true] at h'
    exact same_seq hk hC mu _ ds S (.inl rfl) (of_decide_eq_true h'.1) h'.2
  | non =>
    refine cut_val ?_
    rw [w_end]
    unfold B__law_same
    simp only [w_asO, w_ok, w_bind, w_up, w_upU, w_V0, w_VS, w_C, w_O1, w_O2, w_OA, w_OU, w_ix, w_call, w_nil, w_cons, w_dnil, w_dcons, w_tup, w_lst, w_lstM, w_dct0, w_if, w_and, w_or, w_not, w_tAnd, w_tOr, w_tNot, w_tB, w_tTru, w_chain, w_goN, w_goS, w_sl, w_attr, w_meth, uBl_b, uInt_i, s_nil, s_seq, s_drop, s_ret, s_retN, s_if, s_asg, s_par2, s_par3, s_asgT, s_break, s_cont, t_name, t_sub, t_attr, t_tup, t_nil, t_cons, set0, setS, s_for, w_giE, w_gir1, w_gir2, w_gizip, w_gienum, w_lc, Option.bind_some, Option.map_some, mkU_f, mkU_i, mkU_b, mkU_s, mkU_t, mkU_n, vw_d, vw_ref, fr_d, fr_ref, f1_d, f2_d, f1_u, f2_u, fA_1, fA_u, vws_nil, vws_cons, ixU_d, ixU_ref, cIx_l, cV_l, g0, gS, st0, stS, ix_l, ix_t, add_ii, sub_ii, eq_ii, cmp_ii, int_i, len_l, len_t, len_s, isi_lt hk _ (x := .non) rfl, isL, isTu, Bool.or_false, tru_bl, Bool.false_eq_true, if_false, is_non, isNonD, if_true]
    exact ⟨trivial, [], by simp⟩
  | bl b =>
    refine cut_val ?_
    rw [w_end]
    unfold B__law_same
    simp only [w_asO, w_ok, w_bind, w_up, w_upU, w_V0, w_VS, w_C, w_O1, w_O2, w_OA, w_OU, w_ix, w_call, w_nil, w_cons, w_dnil, w_dcons, w_tup, w_lst, w_lstM, w_dct0, w_if, w_and, w_or, w_not, w_tAnd, w_tOr, w_tNot, w_tB, w_tTru, w_chain, w_goN, w_goS, w_sl, w_attr, w_meth, uBl_b, uInt_i, s_nil, s_seq, s_drop, s_ret, s_retN, s_if, s_asg, s_par2, s_par3, s_asgT, s_break, s_cont, t_name, t_sub, t_attr, t_tup, t_nil, t_cons, set0, setS, s_for, w_giE, w_gir1, w_gir2, w_gizip, w_gienum, w_lc, Option.bind_some, Option.map_some, mkU_f, mkU_i, mkU_b, mkU_s, mkU_t, mkU_n, vw_d, vw_ref, fr_d, fr_ref, f1_d, f2_d, f1_u, f2_u, fA_1, fA_u, vws_nil, vws_cons, ixU_d, ixU_ref, cIx_l, cV_l, g0, gS, st0, stS, ix_l, ix_t, add_ii, sub_ii, eq_ii, cmp_ii, int_i, len_l, len_t, len_s, isi_lt hk _ (x := .bl b) rfl, isL, isTu, Bool.or_false, tru_bl, Bool.false_eq_true, if_false, is_non, isNonD, if_true, isi_bool hk _ (x := .bl b) rfl, isi_int hk _ (x := .bl b) rfl, isi_str hk _ (x := .bl b) rfl, isBo, isIn, isSt, oNe_bl, oEq_bl, beq_self_eq_true, Bool.not_true]
    exact ⟨trivial, [], by simp⟩
  | int b =>
    refine cut_val ?_
    rw [w_end]
    unfold B__law_same
    simp only [w_asO, w_ok, w_bind, w_up, w_upU, w_V0, w_VS, w_C, w_O1, w_O2, w_OA, w_OU, w_ix, w_call, w_nil, w_cons, w_dnil, w_dcons, w_tup, w_lst, w_lstM, w_dct0, w_if, w_and, w_or, w_not, w_tAnd, w_tOr, w_tNot, w_tB, w_tTru, w_chain, w_goN, w_goS, w_sl, w_attr, w_meth, uBl_b, uInt_i, s_nil, s_seq, s_drop, s_ret, s_retN, s_if, s_asg, s_par2, s_par3, s_asgT, s_break, s_cont, t_name, t_sub, t_attr, t_tup, t_nil, t_cons, set0, setS, s_for, w_giE, w_gir1, w_gir2, w_gizip, w_gienum, w_lc, Option.bind_some, Option.map_some, mkU_f, mkU_i, mkU_b, mkU_s, mkU_t, mkU_n, vw_d, vw_ref, fr_d, fr_ref, f1_d, f2_d, f1_u, f2_u, fA_1, fA_u, vws_nil, vws_cons, ixU_d, ixU_ref, cIx_l, cV_l, g0, gS, st0, stS, ix_l, ix_t, add_ii, sub_ii, eq_ii, cmp_ii, int_i, len_l, len_t, len_s, isi_lt hk _ (x := .int b) rfl, isL, isTu, Bool.or_false, tru_bl, Bool.false_eq_true, if_false, is_non, isNonD, if_true, isi_bool hk _ (x := .int b) rfl, isi_int hk _ (x := .int b) rfl, isi_str hk _ (x := .int b) rfl, isBo, isIn, isSt, oNe_bl, oEq_bl, beq_self_eq_true, Bool.not_true, decide_true]
    exact ⟨trivial, [], by simp⟩
  | str b =>
    refine cut_val ?_
    rw [w_end]
    unfold B__law_same
    simp only [w_asO, w_ok, w_bind, w_up, w_upU, w_V0, w_VS, w_C, w_O1, w_O2, w_OA, w_OU, w_ix, w_call, w_nil, w_cons, w_dnil, w_dcons, w_tup, w_lst, w_lstM, w_dct0, w_if, w_and, w_or, w_not, w_tAnd, w_tOr, w_tNot, w_tB, w_tTru, w_chain, w_goN, w_goS, w_sl, w_attr, w_meth, uBl_b, uInt_i, s_nil, s_seq, s_drop, s_ret, s_retN, s_if, s_asg, s_par2, s_par3, s_asgT, s_break, s_cont, t_name, t_sub, t_attr, t_tup, t_nil, t_cons, set0, setS, s_for, w_giE, w_gir1, w_gir2, w_gizip, w_gienum, w_lc, Option.bind_some, Option.map_some, mkU_f, mkU_i, mkU_b, mkU_s, mkU_t, mkU_n, vw_d, vw_ref, fr_d, fr_ref, f1_d, f2_d, f1_u, f2_u, fA_1, fA_u, vws_nil, vws_cons, ixU_d, ixU_ref, cIx_l, cV_l, g0, gS, st0, stS, ix_l, ix_t, add_ii, sub_ii, eq_ii, cmp_ii, int_i, len_l, len_t, len_s, isi_lt hk _ (x := .str b) rfl, isL, isTu, Bool.or_false, tru_bl, Bool.false_eq_true, if_false, is_non, isNonD, if_true, isi_bool hk _ (x := .str b) rfl, isi_int hk _ (x := .str b) rfl, isi_str hk _ (x := .str b) rfl, isBo, isIn, isSt, oNe_bl, oEq_bl, beq_self_eq_true, Bool.not_true, oEq_refl (x := .str b) rfl]
    exact ⟨trivial, [], by simp⟩
  | _ => cases m <;> cases h
/-! ### texts in lists -/
theorem nm_ok {x : Str} (h : nameB x = true) : PyData.strOk x = true := by
  unfold PyData.strOk
  simp only [nameB, Bool.and_eq_true, List.all_eq_true] at h
  rw [Array.all_eq_true_iff_forall_mem]
  intro c hc
  have := h.2 c (by simpa using hc)
  simp [sml] at this
  simp; omega
theorem okD_strs (n : Nat) (xs : List Str) : (xs.map D.str).all (okD n) = true := by
  rw [List.all_eq_true]
  intro d hd
  obtain ⟨x, _, rfl⟩ := List.mem_map.mp hd
  cases n <;> rfl
theorem memB_strs (x : Str) (xs : List Str) : memB (.str x) (xs.map D.str) = decide (x ∈ xs) := by
  rw [Bool.eq_iff_iff, memB_iff, List.map_map, decide_eq_true_eq]
  show D.str x ∈ xs.map (nrm ∘ D.str) ↔ _
  rw [List.mem_map]
  constructor
  · rintro ⟨y, hy, e⟩
    have : y = x := by
      have e' : D.str y = D.str x := e
      injection e'
    subst this; exact hy
  · exact fun h => ⟨x, h, rfl⟩
theorem in_strs (x : Str) (xs : List Str) : oIn (.str x) (.lst (xs.map D.str)) = some (.bl (decide (x ∈ xs))) := by
  show (if (okD 60 (D.str x) && (xs.map D.str).all (okD 59)) = true then some (memB (.str x) (xs.map D.str)) else none).map _ = _
  rw [okD_strs, show (okD 60 (D.str x) && true) = true from rfl, if_pos rfl, memB_strs]; rfl
theorem notin_strs (x : Str) (xs : List Str) : oNotIn (.str x) (.lst (xs.map D.str)) = some (.bl (!decide (x ∈ xs))) := by
  show (if (okD 60 (D.str x) && (xs.map D.str).all (okD 59)) = true then some (memB (.str x) (xs.map D.str)) else none).map _ = _
  rw [okD_strs, show (okD 60 (D.str x) && true) = true from rfl, if_pos rfl, memB_strs]; rfl
theorem nodup_le : ∀ {l xs : List Str}, l.Nodup → (∀ x ∈ l, x ∈ xs) → l.length ≤ xs.length
  | [], _, _, _ => Nat.zero_le _
  | x :: l, xs, h, hm => by
    obtain ⟨h1, h2⟩ := List.nodup_cons.mp h
    have hx := hm x List.mem_cons_self
    have e := List.length_erase_of_mem hx
    have ih := nodup_le (xs := xs.erase x) h2 fun y hy => (List.mem_erase_of_ne fun q => h1 (by rw [← q]; exact hy)).mpr (hm y (List.mem_cons_of_mem _ hy))
    have : 0 < xs.length := List.length_pos_of_mem hx
    rw [List.length_cons]; omega
def abcs : List Str := abc.cps.toList.map chr
theorem abcs_nodup : abcs.Nodup := by decide +kernel
theorem abcs_name : ∀ x ∈ abcs, nameB x = true := by decide +kernel
theorem abcs_len : abcs.length = 26 := by decide +kernel
theorem clist_abc : cList [.str abc] = some (.lst (abcs.map D.str)) := by
  show some (D.lst (abc.cps.toList.map fun c => D.str ⟨#[c]⟩)) = _
  rw [abcs, List.map_map]
  rfl
theorem add_ll (a b : List D) (h : a.length + b.length ≤ 1000000) : oAdd (.lst a) (.lst b) = some (.lst (a ++ b)) := if_pos (by rw [sizeLine_eq]; omega)
theorem gE2 (R : Store) (c d : Cell) : ((R ++ [c]) ++ [d])[R.length]? = some c := by simp
theorem gE3 (R : Store) (c : Cell) (L : Store) : (R ++ c :: L)[R.length]? = some c := by simp
def NamesOk (C : Cs) : Prop := ∀ (M : Int) (c : Cell) (R : Store) (k : Int), SrcC M c → M + 9 * k < LIM → 0 ≤ k → k ≤ 20 → DS (C "_law_names" false [] [.ref 0, .d (.int k)] [] (c :: R)) R (M + 9 * k) fun y => ∃ xs : List Str, y = .lst (xs.map D.str) ∧ xs.length = k.toNat ∧ xs.Nodup ∧ ∀ x ∈ xs, nameB x = true
theorem names_B {T : Tab} (hw : WordOk T.call) (M : Int) (c : Cell) (R : Store) (k : Int) (hs : SrcC M c) (hM : M + 9 * k < LIM) (hk0 : 0 ≤ k) (hk : k ≤ 20) :
    DS (cutR false (c :: R) (endR (B__law_names T false [some (.ref 0), some (.d (.int k)), none, none, none, none, none] (c :: R)))) R (M + 9 * k) fun y => ∃ xs : List Str, y = .lst (xs.map D.str) ∧ xs.length = k.toNat ∧ xs.Nodup ∧ ∀ x ∈ xs, nameB x = true := by
  have hM : M + 9 * k < 1000000000000 := hM
  refine DS.cut ?_
  rw [w_end]
  unfold B__law_names
  have rg := range1_i k (by omega)
  simp only [w_asO, w_ok, w_bind, w_up, w_upU, w_V0, w_VS, w_C, w_O1, w_O2, w_OA, w_OU, w_ix, w_call, w_nil, w_cons, w_dnil, w_dcons, w_tup, w_lst, w_lstM, w_dct0, w_if, w_and, w_or, w_not, w_tAnd, w_tOr, w_tNot, w_tB, w_tTru, w_chain, w_goN, w_goS, w_sl, w_attr, w_meth, uBl_b, uInt_i, s_nil, s_seq, s_drop, s_ret, s_retN, s_if, s_asg, s_par2, s_par3, s_asgT, s_break, s_cont, t_name, t_sub, t_attr, t_tup, t_nil, t_cons, set0, setS, s_for, w_giE, w_gir1, w_gir2, w_gizip, w_gienum, w_lc, Option.bind_some, Option.map_some, mkU_f, mkU_i, mkU_b, mkU_s, mkU_t, mkU_n, vw_d, vw_ref, fr_d, fr_ref, f1_d, f2_d, f1_u, f2_u, fA_1, fA_u, vws_nil, vws_cons, ixU_d, ixU_ref, cIx_l, cV_l, g0, gS, st0, stS, ix_l, ix_t, add_ii, sub_ii, eq_ii, cmp_ii, int_i, len_l, len_t, len_s, mkL_nil, len_c, app_c, List.length_nil, rg]
  refine ⟨rfl, for_range (by omega) (fun i ρ S => ∃ (xs : List Str) (o1 o2 o3 : Option U) (c' : Cell), ρ = [some (.ref 0), some (.d (.int k)), o1, some (.d (.str abc)), some (.ref (R.length + 1)), o2, o3] ∧ S = c' :: (R ++ [.lst (xs.map D.str)]) ∧ xs.length = i ∧ xs.Nodup ∧ (∀ x ∈ xs, nameB x = true) ∧ SrcC (M + 9 * i) c') ⟨[], none, none, none, c, rfl, rfl, rfl, .nil, (fun x hx => absurd hx List.not_mem_nil), by simpa using hs⟩ ?_ ?_⟩
  · rintro i ρ S hi ⟨xs, o1, o2, o3, c', rfl, rfl, h1, h2, h3, h4⟩
    simp only [w_asO, w_ok, w_bind, w_up, w_upU, w_V0, w_VS, w_C, w_O1, w_O2, w_OA, w_OU, w_ix, w_call, w_nil, w_cons, w_dnil, w_dcons, w_tup, w_lst, w_lstM, w_dct0, w_if, w_and, w_or, w_not, w_tAnd, w_tOr, w_tNot, w_tB, w_tTru, w_chain, w_goN, w_goS, w_sl, w_attr, w_meth, uBl_b, uInt_i, s_nil, s_seq, s_drop, s_ret, s_retN, s_if, s_asg, s_par2, s_par3, s_asgT, s_break, s_cont, t_name, t_sub, t_attr, t_tup, t_nil, t_cons, set0, setS, s_for, w_giE, w_gir1, w_gir2, w_gizip, w_gienum, w_lc, Option.bind_some, Option.map_some, mkU_f, mkU_i, mkU_b, mkU_s, mkU_t, mkU_n]
    refine (hw (M + 9 * i) c' _ h4 (show M + 9 * i + 9 < 1000000000000 by omega)).use ?_
    rintro y c2 hc2 ⟨w, rfl, hw1⟩
    simp only [w_asO, w_ok, w_bind, w_up, w_upU, w_V0, w_VS, w_C, w_O1, w_O2, w_OA, w_OU, w_ix, w_call, w_nil, w_cons, w_dnil, w_dcons, w_tup, w_lst, w_lstM, w_dct0, w_if, w_and, w_or, w_not, w_tAnd, w_tOr, w_tNot, w_tB, w_tTru, w_chain, w_goN, w_goS, w_sl, w_attr, w_meth, uBl_b, uInt_i, s_nil, s_seq, s_drop, s_ret, s_retN, s_if, s_asg, s_par2, s_par3, s_asgT, s_break, s_cont, t_name, t_sub, t_attr, t_tup, t_nil, t_cons, set0, setS, s_for, w_giE, w_gir1, w_gir2, w_gizip, w_gienum, w_lc, Option.bind_some, Option.map_some, mkU_f, mkU_i, mkU_b, mkU_s, mkU_t, mkU_n, vw_d, vw_ref, fr_d, fr_ref, f1_d, f2_d, f1_u, f2_u, fA_1, fA_u, vws_nil, vws_cons, ixU_d, ixU_ref, cIx_l, cV_l, g0, gS, st0, stS, ix_l, ix_t, add_ii, sub_ii, eq_ii, cmp_ii, int_i, len_l, len_t, len_s, clist_abc, add_ll [D.str w] (abcs.map D.str) (by simp [abcs_len]), iter_l]
    have hb : ∀ x ∈ (w :: abcs), nameB x = true := fun x hx => by
      rcases List.mem_cons.mp hx with rfl | hx
      · exact hw1
      · exact abcs_name x hx
    have el : [D.str w] ++ abcs.map D.str = (w :: abcs).map D.str := rfl
    rw [el]
    refine lc_pure (p := fun d => match d with
      | .str x => !decide (x ∈ xs)
      | _ => false) (f := fun d => d) (by simp [abcs_len]) ?_ ?_
    · intro d hd L
      obtain ⟨x, hx, rfl⟩ := List.mem_map.mp hd
      refine ⟨_, rfl, ?_, fun _ => rfl⟩
      refine Dv.R.sat.eq ?_
      simp only [testLc, wipeD, set0, setS, w_asO, w_ok, w_bind, w_up, w_upU, w_V0, w_VS, w_C, w_O1, w_O2, w_OA, w_OU, w_ix, w_call, w_nil, w_cons, w_dnil, w_dcons, w_tup, w_lst, w_lstM, w_dct0, w_if, w_and, w_or, w_not, w_tAnd, w_tOr, w_tNot, w_tB, w_tTru, w_chain, w_goN, w_goS, w_sl, w_attr, w_meth, uBl_b, uInt_i, s_nil, s_seq, s_drop, s_ret, s_retN, s_if, s_asg, s_par2, s_par3, s_asgT, s_break, s_cont, t_name, t_sub, t_attr, t_tup, t_nil, t_cons, set0, setS, s_for, w_giE, w_gir1, w_gir2, w_gizip, w_gienum, w_lc, Option.bind_some, Option.map_some, mkU_f, mkU_i, mkU_b, mkU_s, mkU_t, mkU_n, vw_d, vw_ref, fr_d, fr_ref, f1_d, f2_d, f1_u, f2_u, fA_1, fA_u, vws_nil, vws_cons, ixU_d, ixU_ref, cIx_l, cV_l, g0, gS, st0, stS, ix_l, ix_t, add_ii, sub_ii, eq_ii, cmp_ii, int_i, len_l, len_t, len_s, List.cons_append, gE2, notin_strs]
      exact ⟨trivial, trivial⟩
    · have hf : (((w :: abcs).map D.str).filter fun d => match d with
          | .str x => !decide (x ∈ xs)
          | _ => false).map (fun d => d) = ((w :: abcs).filter fun x => !decide (x ∈ xs)).map D.str := by
        rw [List.map_id', List.filter_map]; rfl
      rw [hf]
      have ne : ((w :: abcs).filter fun x => !decide (x ∈ xs)) ≠ [] := fun q => by
        have h26 := nodup_le (xs := xs) abcs_nodup fun x hx => by
          by_cases q2 : x ∈ xs
          · exact q2
          · have : x ∈ ((w :: abcs).filter fun x => !decide (x ∈ xs)) := List.mem_filter.mpr ⟨List.mem_cons_of_mem _ hx, by simp [q2]⟩
            rw [q] at this
            cases this
        rw [abcs_len] at h26
        omega
      obtain ⟨z, zs, hz⟩ := List.exists_cons_of_ne_nil ne
      have hzm : z ∈ ((w :: abcs).filter fun x => !decide (x ∈ xs)) := by rw [hz]; exact List.mem_cons_self
      obtain ⟨hz1, hz2⟩ := List.mem_filter.mp hzm
      have hz3 : z ∉ xs := by simpa using hz2
      rw [hz]
      have at0 : atI ((z :: zs).map D.str) 0 = some (.str z) := atI_nat (by decide) rfl
      simp only [w_asO, w_ok, w_bind, w_up, w_upU, w_V0, w_VS, w_C, w_O1, w_O2, w_OA, w_OU, w_ix, w_call, w_nil, w_cons, w_dnil, w_dcons, w_tup, w_lst, w_lstM, w_dct0, w_if, w_and, w_or, w_not, w_tAnd, w_tOr, w_tNot, w_tB, w_tTru, w_chain, w_goN, w_goS, w_sl, w_attr, w_meth, uBl_b, uInt_i, s_nil, s_seq, s_drop, s_ret, s_retN, s_if, s_asg, s_par2, s_par3, s_asgT, s_break, s_cont, t_name, t_sub, t_attr, t_tup, t_nil, t_cons, set0, setS, s_for, w_giE, w_gir1, w_gir2, w_gizip, w_gienum, w_lc, Option.bind_some, Option.map_some, mkU_f, mkU_i, mkU_b, mkU_s, mkU_t, mkU_n, mk_ref, vw_d, vw_ref, fr_d, fr_ref, f1_d, f2_d, f1_u, f2_u, fA_1, fA_u, vws_nil, vws_cons, ixU_d, ixU_ref, cIx_l, cV_l, g0, gS, st0, stS, ix_l, ix_t, add_ii, sub_ii, eq_ii, cmp_ii, int_i, len_l, len_t, len_s, gE, mk_l, mb_append, w_mb (h := mb_append), at0, tyOk_l, if_true, app_l _ _ _ _ (show (xs.map D.str).length < 1000000 by rw [List.length_map]; omega)]
      refine ⟨xs ++ [z], _, _, _, c2, rfl, by rw [List.map_append]; rfl, by simp [h1], ?_, ?_, hc2.mono (by omega)⟩
      · rw [List.nodup_append]
        exact ⟨h2, by simp, fun a ha b hb e => hz3 (by rw [List.mem_singleton.mp hb] at e; rw [← e]; exact ha)⟩
      · intro x hx
        rcases List.mem_append.mp hx with hx | hx
        · exact h3 x hx
        · rw [List.mem_singleton.mp hx]; exact hb z hz1
  · rintro ρ S ⟨xs, o1, o2, o3, c', rfl, rfl, h1, h2, h3, h4⟩
    simp only [w_asO, w_ok, w_bind, w_up, w_upU, w_V0, w_VS, w_C, w_O1, w_O2, w_OA, w_OU, w_ix, w_call, w_nil, w_cons, w_dnil, w_dcons, w_tup, w_lst, w_lstM, w_dct0, w_if, w_and, w_or, w_not, w_tAnd, w_tOr, w_tNot, w_tB, w_tTru, w_chain, w_goN, w_goS, w_sl, w_attr, w_meth, uBl_b, uInt_i, s_nil, s_seq, s_drop, s_ret, s_retN, s_if, s_asg, s_par2, s_par3, s_asgT, s_break, s_cont, t_name, t_sub, t_attr, t_tup, t_nil, t_cons, set0, setS, s_for, w_giE, w_gir1, w_gir2, w_gizip, w_gienum, w_lc, Option.bind_some, Option.map_some, mkU_f, mkU_i, mkU_b, mkU_s, mkU_t, mkU_n]
    exact ⟨_, c', [.lst (xs.map D.str)], rfl, h4.mono (by omega), .inr ⟨_, _, rfl, Nat.le_refl _, by rw [gS, gE], rfl⟩, xs, rfl, h1, h2, h3⟩
/-! ### the source -/
theorem source_ok (ns : List Int) (T : Tab) : ∃ c, cutR true [] (endR (B__law_source T true [some (.d (.fl (ns.map D.int)))] [])) = .ok (.ref 0) [c] ∧ SrcC 0 c := by
  have h : (endR (B__law_source T true [some (.d (.fl (ns.map D.int)))] [])).sat noX fun u S' => ∃ c, u = .ref 0 ∧ S' = [c] ∧ SrcC 0 c := by
    rw [w_end]
    unfold B__law_source
    have e1 : dSl none (some 63) (.fl (ns.map D.int)) = some (.lst ((ns.take 63).map D.int)) := by
      show some (D.lst (cutD _ _ _)) = _
      congr 2
      unfold cutD
      rw [show HT.sIx ((ns.map D.int).length) 0 none = 0 from rfl, show HT.sIx ((ns.map D.int).length) ((ns.map D.int).length) (some 63) = min 63 (ns.map D.int).length from HT.sIx_nat _ _ 63, List.drop_zero, Nat.sub_zero, List.map_take, List.take_eq_take_iff]
      omega
    have e2 : cList [.lst ((ns.take 63).map D.int)] = some (.lst ((ns.take 63).map D.int)) := rfl
    simp only [if_true, w_asO, w_ok, w_bind, w_up, w_upU, w_V0, w_VS, w_C, w_O1, w_O2, w_OA, w_OU, w_ix, w_call, w_nil, w_cons, w_dnil, w_dcons, w_tup, w_lst, w_lstM, w_dct0, w_if, w_and, w_or, w_not, w_tAnd, w_tOr, w_tNot, w_tB, w_tTru, w_chain, w_goN, w_goS, w_sl, w_attr, w_meth, uBl_b, uInt_i, s_nil, s_seq, s_drop, s_ret, s_retN, s_if, s_asg, s_par2, s_par3, s_asgT, s_break, s_cont, t_name, t_sub, t_attr, t_tup, t_nil, t_cons, set0, setS, s_for, w_giE, w_gir1, w_gir2, w_gizip, w_gienum, w_lc, Option.bind_some, Option.map_some, mkU_f, mkU_i, mkU_b, mkU_s, mkU_t, mkU_n, vw_d, vw_ref, fr_d, fr_ref, f1_d, f2_d, f1_u, f2_u, fA_1, fA_u, vws_nil, vws_cons, ixU_d, ixU_ref, cIx_l, cV_l, g0, gS, st0, stS, ix_l, ix_t, add_ii, sub_ii, eq_ii, cmp_ii, int_i, len_l, len_t, len_s, e1, e2, mkL_5]
    exact ⟨_, rfl, rfl, ⟨ns.take 63, 0, 0, 4922, 0, rfl, by decide, by decide, by decide, by decide, by decide, by decide⟩⟩
  obtain ⟨u, S', e, c, rfl, rfl, hc⟩ := h.ex
  refine ⟨c, ?_, hc⟩
  rw [e]
  obtain ⟨ns', i, a, b, e', rfl, _⟩ := hc.ex
  rw [cut_rt (ds := [.lst (ns'.map D.int), .int i, .int a, .int b, .int e']) ⟨by simp, fun j c h _ => by simp at h⟩ (Nat.zero_le _) rfl]
  rfl
end
end Dv
set_option maxRecDepth 100000
set_option maxHeartbeats 1000000
namespace Dv
open PySem PySem.Spec PyProof.Rows L2
noncomputable section
/-! ### names -/
theorem in_abc (c : Nat) : oIn (.str (chr c)) (.str abc) = some (.bl (sml c)) := by
  show (some (!(Builtin.Str.occurrences abc (chr c) 0 abc.length 1).isEmpty)).map (fun b => (D.bl b)) = _
  rw [show chr c = ⟨#[c]⟩ from rfl, StrLaws.found_one]
  by_cases h : sml c = true
  · rw [decide_eq_true ((abc_mem c).mpr h), h]; rfl
  · rw [decide_eq_false fun q => h ((abc_mem c).mp q), Bool.eq_false_iff.mpr h]; rfl
def isNm : D → Bool
  | .str x => nameB x
  | _ => false
theorem nameB_eq (x : Str) : nameB x = ((decide (1 ≤ (x.length : Int)) && decide ((x.length : Int) ≤ 8)) && (x.cps.toList.map sml).all id) := by
  unfold nameB
  have e1 : decide (1 ≤ (x.length : Int)) = decide (1 ≤ x.length) := by congr 1; exact propext (by omega)
  have e2 : decide ((x.length : Int) ≤ 8) = decide (x.length ≤ 8) := by congr 1; exact propext (by omega)
  rw [e1, e2, List.all_map]
  rfl
theorem chars_map (x : Str) : (x.cps.toList.map fun c => D.str ⟨#[c]⟩) = x.cps.toList.map fun c => D.str (chr c) := rfl
def smlD (d : D) : D := match oIn d (.str abc) with
  | some z => z
  | none => .non
/-- [sign in abc for sign in x] -/
theorem lc_abc {x : Str} {S : Store} {X : XQ} {Q : U → Store → Prop} {ρ : Env} {n : Nat} {vs : List Nat} (hx : x.length < 1000000) (hv : ∀ d, (CT.one n).put (.d d) (wipeD ρ vs) = some ((wipeD ρ vs).set n (some (.d d)))) (hg : ∀ (d : D) (S' : Store), gV n ((wipeD ρ vs).set n (some (.d d))) S' = .ok (.d d) S')
    (k : Q (.d (.lst ((x.cps.toList.map sml).map D.bl))) S) : asO (lcGo (srcItems (x.cps.toList.map fun c => D.str ⟨#[c]⟩)) (.one n) none (gO2 false oIn (gV n) (gC (.str abc))) S.length (wipeD ρ vs) lim 0 (S ++ [.lst []])) fun S2 => (frzLst false S S2).sat X Q := by
  refine lc_pure (p := fun _ => true) (f := smlD) (by rw [List.length_map, Array.length_toList]; exact hx) ?_ ?_
  · intro d hd L
    obtain ⟨c, hc, rfl⟩ := List.mem_map.mp hd
    refine ⟨_, hv _, rfl, fun _ => ?_⟩
    have e1 : gO2 false oIn (gV n) (gC (.str abc)) ((wipeD ρ vs).set n (some (.d (.str ⟨#[c]⟩)))) (S ++ [.lst L]) = up false (S ++ [.lst L]) (f2 oIn (S ++ [.lst L]) (.d (.str ⟨#[c]⟩)) (.d (.str abc))) := by
      show (gV n _ _).bind _ = _
      rw [hg]; rfl
    rw [e1, f2_d, show (⟨#[c]⟩ : Str) = chr c from rfl, in_abc]
    show _ = R.ok (U.d (smlD (.str (chr c)))) _
    unfold smlD
    rw [in_abc]; rfl
  · have e : (List.map smlD (List.filter (fun _ => true) (x.cps.toList.map fun c => D.str ⟨#[c]⟩))) = (x.cps.toList.map sml).map D.bl := by
      rw [filter_all, List.map_map, List.map_map]
      refine List.map_congr_left fun c _ => ?_
      show smlD (.str (chr c)) = .bl (sml c)
      unfold smlD
      rw [in_abc]
    rw [e]
    exact k
def IsNameOk (C : Cs) : Prop := ∀ (mu : Bool) (d : D) (S : Store), pl d = true → C "is_name" mu [] [.d d] [] S = .ok (.d (.bl (isNm d))) S
theorem is_name_B {T : Tab} (hk : KitB T.kit) (mu : Bool) (d : D) (S : Store) (hd : pl d = true) : cutR mu S (endR (B_is_name T mu [some (.d d), none] S)) = .ok (.d (.bl (isNm d))) S := by
  refine cut_val ?_
  rw [w_end]
  unfold B_is_name
  simp only [w_asO, w_ok, w_bind, w_up, w_upU, w_V0, w_VS, w_C, w_O1, w_O2, w_OA, w_OU, w_ix, w_call, w_nil, w_cons, w_dnil, w_dcons, w_tup, w_lst, w_lstM, w_dct0, w_if, w_and, w_or, w_not, w_tAnd, w_tOr, w_tNot, w_tB, w_tTru, w_chain, w_goN, w_goS, w_sl, w_attr, w_meth, uBl_b, uInt_i, s_nil, s_seq, s_drop, s_ret, s_retN, s_if, s_asg, s_par2, s_par3, s_asgT, s_break, s_cont, t_name, t_sub, t_attr, t_tup, t_nil, t_cons, set0, setS, s_for, w_giE, w_gir1, w_gir2, w_gizip, w_gienum, w_lc, Option.bind_some, Option.map_some, mkU_f, mkU_i, mkU_b, mkU_s, mkU_t, mkU_n, vw_d, vw_ref, fr_d, fr_ref, f1_d, f2_d, f1_u, f2_u, fA_1, fA_u, vws_nil, vws_cons, ixU_d, ixU_ref, cIx_l, cV_l, g0, gS, st0, stS, ix_l, ix_t, add_ii, sub_ii, eq_ii, cmp_ii, int_i, len_l, len_t, len_s, isi_str hk _ hd]
  cases d with
  | str x =>
    simp only [isSt, if_true, len_s, show isNm (.str x) = nameB x from rfl, nameB_eq, w_asO, w_ok, w_bind, w_up, w_upU, w_V0, w_VS, w_C, w_O1, w_O2, w_OA, w_OU, w_ix, w_call, w_nil, w_cons, w_dnil, w_dcons, w_tup, w_lst, w_lstM, w_dct0, w_if, w_and, w_or, w_not, w_tAnd, w_tOr, w_tNot, w_tB, w_tTru, w_chain, w_goN, w_goS, w_sl, w_attr, w_meth, uBl_b, uInt_i, s_nil, s_seq, s_drop, s_ret, s_retN, s_if, s_asg, s_par2, s_par3, s_asgT, s_break, s_cont, t_name, t_sub, t_attr, t_tup, t_nil, t_cons, set0, setS, s_for, w_giE, w_gir1, w_gir2, w_gizip, w_gienum, w_lc, Option.bind_some, Option.map_some, mkU_f, mkU_i, mkU_b, mkU_s, mkU_t, mkU_n, cmp_ii]
    by_cases h1 : 1 ≤ (x.length : Int)
    · simp only [h1, decide_true, if_true, w_asO, w_ok, w_bind, w_up, w_upU, w_V0, w_VS, w_C, w_O1, w_O2, w_OA, w_OU, w_ix, w_call, w_nil, w_cons, w_dnil, w_dcons, w_tup, w_lst, w_lstM, w_dct0, w_if, w_and, w_or, w_not, w_tAnd, w_tOr, w_tNot, w_tB, w_tTru, w_chain, w_goN, w_goS, w_sl, w_attr, w_meth, uBl_b, uInt_i, s_nil, s_seq, s_drop, s_ret, s_retN, s_if, s_asg, s_par2, s_par3, s_asgT, s_break, s_cont, t_name, t_sub, t_attr, t_tup, t_nil, t_cons, set0, setS, s_for, w_giE, w_gir1, w_gir2, w_gizip, w_gienum, w_lc, Option.bind_some, Option.map_some, mkU_f, mkU_i, mkU_b, mkU_s, mkU_t, mkU_n]
      by_cases h2 : (x.length : Int) ≤ 8
      · simp only [h2, decide_true, if_true, iter_s, w_asO, w_ok, w_bind, w_up, w_upU, w_V0, w_VS, w_C, w_O1, w_O2, w_OA, w_OU, w_ix, w_call, w_nil, w_cons, w_dnil, w_dcons, w_tup, w_lst, w_lstM, w_dct0, w_if, w_and, w_or, w_not, w_tAnd, w_tOr, w_tNot, w_tB, w_tTru, w_chain, w_goN, w_goS, w_sl, w_attr, w_meth, uBl_b, uInt_i, s_nil, s_seq, s_drop, s_ret, s_retN, s_if, s_asg, s_par2, s_par3, s_asgT, s_break, s_cont, t_name, t_sub, t_attr, t_tup, t_nil, t_cons, set0, setS, s_for, w_giE, w_gir1, w_gir2, w_gizip, w_gienum, w_lc, Option.bind_some, Option.map_some, mkU_f, mkU_i, mkU_b, mkU_s, mkU_t, mkU_n]
        refine lc_abc (by omega) (fun _ => rfl) (fun _ _ => rfl) ?_
        simp only [w_asO, w_ok, w_bind, w_up, w_upU, w_V0, w_VS, w_C, w_O1, w_O2, w_OA, w_OU, w_ix, w_call, w_nil, w_cons, w_dnil, w_dcons, w_tup, w_lst, w_lstM, w_dct0, w_if, w_and, w_or, w_not, w_tAnd, w_tOr, w_tNot, w_tB, w_tTru, w_chain, w_goN, w_goS, w_sl, w_attr, w_meth, uBl_b, uInt_i, s_nil, s_seq, s_drop, s_ret, s_retN, s_if, s_asg, s_par2, s_par3, s_asgT, s_break, s_cont, t_name, t_sub, t_attr, t_tup, t_nil, t_cons, set0, setS, s_for, w_giE, w_gir1, w_gir2, w_gizip, w_gienum, w_lc, Option.bind_some, Option.map_some, mkU_f, mkU_i, mkU_b, mkU_s, mkU_t, mkU_n, vw_d, vw_ref, fr_d, fr_ref, f1_d, f2_d, f1_u, f2_u, fA_1, fA_u, vws_nil, vws_cons, ixU_d, ixU_ref, cIx_l, cV_l, g0, gS, st0, stS, ix_l, ix_t, add_ii, sub_ii, eq_ii, cmp_ii, int_i, len_l, len_t, len_s, all_bls]
        exact ⟨by first | trivial | rfl | simp, [], by simp⟩
      · simp only [h2, decide_false, Bool.false_eq_true, if_false, Bool.and_false, Bool.false_and]
        exact ⟨by first | trivial | rfl | simp, [], by simp⟩
    · simp only [h1, decide_false, Bool.false_eq_true, if_false, w_asO, w_ok, w_bind, w_up, w_upU, w_V0, w_VS, w_C, w_O1, w_O2, w_OA, w_OU, w_ix, w_call, w_nil, w_cons, w_dnil, w_dcons, w_tup, w_lst, w_lstM, w_dct0, w_if, w_and, w_or, w_not, w_tAnd, w_tOr, w_tNot, w_tB, w_tTru, w_chain, w_goN, w_goS, w_sl, w_attr, w_meth, uBl_b, uInt_i, s_nil, s_seq, s_drop, s_ret, s_retN, s_if, s_asg, s_par2, s_par3, s_asgT, s_break, s_cont, t_name, t_sub, t_attr, t_tup, t_nil, t_cons, set0, setS, s_for, w_giE, w_gir1, w_gir2, w_gizip, w_gienum, w_lc, Option.bind_some, Option.map_some, mkU_f, mkU_i, mkU_b, mkU_s, mkU_t, mkU_n, Bool.false_and]
      exact ⟨by first | trivial | rfl | simp, [], by simp⟩
  | _ =>
    simp only [isSt, Bool.false_eq_true, if_false]
    exact ⟨by first | trivial | rfl | simp, [], by simp⟩
def LawIsNameOk (C : Cs) : Prop := ∀ (mu : Bool) (d : D) (S : Store), pl d = true → C "_law_is_name" mu [] [.d d] [] S = .ok (.d (.bl (isNm d))) S
theorem law_is_name_B {T : Tab} (hk : KitB T.kit) (mu : Bool) (d : D) (S : Store) (hd : pl d = true) : cutR mu S (endR (B__law_is_name T mu [some (.d d), none] S)) = .ok (.d (.bl (isNm d))) S := by
  refine cut_val ?_
  rw [w_end]
  unfold B__law_is_name
  simp only [w_asO, w_ok, w_bind, w_up, w_upU, w_V0, w_VS, w_C, w_O1, w_O2, w_OA, w_OU, w_ix, w_call, w_nil, w_cons, w_dnil, w_dcons, w_tup, w_lst, w_lstM, w_dct0, w_if, w_and, w_or, w_not, w_tAnd, w_tOr, w_tNot, w_tB, w_tTru, w_chain, w_goN, w_goS, w_sl, w_attr, w_meth, uBl_b, uInt_i, s_nil, s_seq, s_drop, s_ret, s_retN, s_if, s_asg, s_par2, s_par3, s_asgT, s_break, s_cont, t_name, t_sub, t_attr, t_tup, t_nil, t_cons, set0, setS, s_for, w_giE, w_gir1, w_gir2, w_gizip, w_gienum, w_lc, Option.bind_some, Option.map_some, mkU_f, mkU_i, mkU_b, mkU_s, mkU_t, mkU_n, vw_d, vw_ref, fr_d, fr_ref, f1_d, f2_d, f1_u, f2_u, fA_1, fA_u, vws_nil, vws_cons, ixU_d, ixU_ref, cIx_l, cV_l, g0, gS, st0, stS, ix_l, ix_t, add_ii, sub_ii, eq_ii, cmp_ii, int_i, len_l, len_t, len_s, isi_str hk _ hd, tru_bl]
  cases d with
  | str x =>
    simp only [isSt, Bool.not_true, Bool.false_eq_true, if_false, len_s, show isNm (.str x) = nameB x from rfl, nameB_eq, w_asO, w_ok, w_bind, w_up, w_upU, w_V0, w_VS, w_C, w_O1, w_O2, w_OA, w_OU, w_ix, w_call, w_nil, w_cons, w_dnil, w_dcons, w_tup, w_lst, w_lstM, w_dct0, w_if, w_and, w_or, w_not, w_tAnd, w_tOr, w_tNot, w_tB, w_tTru, w_chain, w_goN, w_goS, w_sl, w_attr, w_meth, uBl_b, uInt_i, s_nil, s_seq, s_drop, s_ret, s_retN, s_if, s_asg, s_par2, s_par3, s_asgT, s_break, s_cont, t_name, t_sub, t_attr, t_tup, t_nil, t_cons, set0, setS, s_for, w_giE, w_gir1, w_gir2, w_gizip, w_gienum, w_lc, Option.bind_some, Option.map_some, mkU_f, mkU_i, mkU_b, mkU_s, mkU_t, mkU_n, cmp_ii]
    by_cases h1 : 1 ≤ (x.length : Int)
    · simp only [h1, decide_true, if_true, w_asO, w_ok, w_bind, w_up, w_upU, w_V0, w_VS, w_C, w_O1, w_O2, w_OA, w_OU, w_ix, w_call, w_nil, w_cons, w_dnil, w_dcons, w_tup, w_lst, w_lstM, w_dct0, w_if, w_and, w_or, w_not, w_tAnd, w_tOr, w_tNot, w_tB, w_tTru, w_chain, w_goN, w_goS, w_sl, w_attr, w_meth, uBl_b, uInt_i, s_nil, s_seq, s_drop, s_ret, s_retN, s_if, s_asg, s_par2, s_par3, s_asgT, s_break, s_cont, t_name, t_sub, t_attr, t_tup, t_nil, t_cons, set0, setS, s_for, w_giE, w_gir1, w_gir2, w_gizip, w_gienum, w_lc, Option.bind_some, Option.map_some, mkU_f, mkU_i, mkU_b, mkU_s, mkU_t, mkU_n]
      by_cases h2 : (x.length : Int) ≤ 8
      · simp only [h2, decide_true, Bool.not_true, Bool.false_eq_true, if_false, iter_s, w_asO, w_ok, w_bind, w_up, w_upU, w_V0, w_VS, w_C, w_O1, w_O2, w_OA, w_OU, w_ix, w_call, w_nil, w_cons, w_dnil, w_dcons, w_tup, w_lst, w_lstM, w_dct0, w_if, w_and, w_or, w_not, w_tAnd, w_tOr, w_tNot, w_tB, w_tTru, w_chain, w_goN, w_goS, w_sl, w_attr, w_meth, uBl_b, uInt_i, s_nil, s_seq, s_drop, s_ret, s_retN, s_if, s_asg, s_par2, s_par3, s_asgT, s_break, s_cont, t_name, t_sub, t_attr, t_tup, t_nil, t_cons, set0, setS, s_for, w_giE, w_gir1, w_gir2, w_gizip, w_gienum, w_lc, Option.bind_some, Option.map_some, mkU_f, mkU_i, mkU_b, mkU_s, mkU_t, mkU_n]
        refine lc_abc (by omega) (fun _ => rfl) (fun _ _ => rfl) ?_
        simp only [w_asO, w_ok, w_bind, w_up, w_upU, w_V0, w_VS, w_C, w_O1, w_O2, w_OA, w_OU, w_ix, w_call, w_nil, w_cons, w_dnil, w_dcons, w_tup, w_lst, w_lstM, w_dct0, w_if, w_and, w_or, w_not, w_tAnd, w_tOr, w_tNot, w_tB, w_tTru, w_chain, w_goN, w_goS, w_sl, w_attr, w_meth, uBl_b, uInt_i, s_nil, s_seq, s_drop, s_ret, s_retN, s_if, s_asg, s_par2, s_par3, s_asgT, s_break, s_cont, t_name, t_sub, t_attr, t_tup, t_nil, t_cons, set0, setS, s_for, w_giE, w_gir1, w_gir2, w_gizip, w_gienum, w_lc, Option.bind_some, Option.map_some, mkU_f, mkU_i, mkU_b, mkU_s, mkU_t, mkU_n, vw_d, vw_ref, fr_d, fr_ref, f1_d, f2_d, f1_u, f2_u, fA_1, fA_u, vws_nil, vws_cons, ixU_d, ixU_ref, cIx_l, cV_l, g0, gS, st0, stS, ix_l, ix_t, add_ii, sub_ii, eq_ii, cmp_ii, int_i, len_l, len_t, len_s, all_bls]
        exact ⟨by first | trivial | rfl | simp, [], by simp⟩
      · simp only [h2, decide_false, Bool.not_false, if_true, Bool.and_false, Bool.false_and, w_asO, w_ok, w_bind, w_up, w_upU, w_V0, w_VS, w_C, w_O1, w_O2, w_OA, w_OU, w_ix, w_call, w_nil, w_cons, w_dnil, w_dcons, w_tup, w_lst, w_lstM, w_dct0, w_if, w_and, w_or, w_not, w_tAnd, w_tOr, w_tNot, w_tB, w_tTru, w_chain, w_goN, w_goS, w_sl, w_attr, w_meth, uBl_b, uInt_i, s_nil, s_seq, s_drop, s_ret, s_retN, s_if, s_asg, s_par2, s_par3, s_asgT, s_break, s_cont, t_name, t_sub, t_attr, t_tup, t_nil, t_cons, set0, setS, s_for, w_giE, w_gir1, w_gir2, w_gizip, w_gienum, w_lc, Option.bind_some, Option.map_some, mkU_f, mkU_i, mkU_b, mkU_s, mkU_t, mkU_n]
        exact ⟨by first | trivial | rfl | simp, [], by simp⟩
    · simp only [h1, decide_false, Bool.not_false, Bool.false_eq_true, if_false, if_true, w_asO, w_ok, w_bind, w_up, w_upU, w_V0, w_VS, w_C, w_O1, w_O2, w_OA, w_OU, w_ix, w_call, w_nil, w_cons, w_dnil, w_dcons, w_tup, w_lst, w_lstM, w_dct0, w_if, w_and, w_or, w_not, w_tAnd, w_tOr, w_tNot, w_tB, w_tTru, w_chain, w_goN, w_goS, w_sl, w_attr, w_meth, uBl_b, uInt_i, s_nil, s_seq, s_drop, s_ret, s_retN, s_if, s_asg, s_par2, s_par3, s_asgT, s_break, s_cont, t_name, t_sub, t_attr, t_tup, t_nil, t_cons, set0, setS, s_for, w_giE, w_gir1, w_gir2, w_gizip, w_gienum, w_lc, Option.bind_some, Option.map_some, mkU_f, mkU_i, mkU_b, mkU_s, mkU_t, mkU_n, Bool.false_and]
      exact ⟨by first | trivial | rfl | simp, [], by simp⟩
  | _ =>
    simp only [isSt, Bool.not_false, if_true, w_asO, w_ok, w_bind, w_up, w_upU, w_V0, w_VS, w_C, w_O1, w_O2, w_OA, w_OU, w_ix, w_call, w_nil, w_cons, w_dnil, w_dcons, w_tup, w_lst, w_lstM, w_dct0, w_if, w_and, w_or, w_not, w_tAnd, w_tOr, w_tNot, w_tB, w_tTru, w_chain, w_goN, w_goS, w_sl, w_attr, w_meth, uBl_b, uInt_i, s_nil, s_seq, s_drop, s_ret, s_retN, s_if, s_asg, s_par2, s_par3, s_asgT, s_break, s_cont, t_name, t_sub, t_attr, t_tup, t_nil, t_cons, set0, setS, s_for, w_giE, w_gir1, w_gir2, w_gizip, w_gienum, w_lc, Option.bind_some, Option.map_some, mkU_f, mkU_i, mkU_b, mkU_s, mkU_t, mkU_n]
    exact ⟨by first | trivial | rfl | simp, [], by simp⟩
def IsListedOk (C : Cs) : Prop := ∀ (mu : Bool) (d : D) (S : Store), pl d = true → C "is_listed" mu [] [.d d] [] S = .ok (.d (.bl (isL d || isTu d))) S
theorem is_listed_B {T : Tab} (hk : KitB T.kit) (mu : Bool) (d : D) (S : Store) (hd : pl d = true) : cutR mu S (endR (B_is_listed T mu [some (.d d)] S)) = .ok (.d (.bl (isL d || isTu d))) S := by
  refine cut_val ?_
  rw [w_end]
  unfold B_is_listed
  simp only [w_asO, w_ok, w_bind, w_up, w_upU, w_V0, w_VS, w_C, w_O1, w_O2, w_OA, w_OU, w_ix, w_call, w_nil, w_cons, w_dnil, w_dcons, w_tup, w_lst, w_lstM, w_dct0, w_if, w_and, w_or, w_not, w_tAnd, w_tOr, w_tNot, w_tB, w_tTru, w_chain, w_goN, w_goS, w_sl, w_attr, w_meth, uBl_b, uInt_i, s_nil, s_seq, s_drop, s_ret, s_retN, s_if, s_asg, s_par2, s_par3, s_asgT, s_break, s_cont, t_name, t_sub, t_attr, t_tup, t_nil, t_cons, set0, setS, s_for, w_giE, w_gir1, w_gir2, w_gizip, w_gienum, w_lc, Option.bind_some, Option.map_some, mkU_f, mkU_i, mkU_b, mkU_s, mkU_t, mkU_n, vw_d, vw_ref, fr_d, fr_ref, f1_d, f2_d, f1_u, f2_u, fA_1, fA_u, vws_nil, vws_cons, ixU_d, ixU_ref, cIx_l, cV_l, g0, gS, st0, stS, ix_l, ix_t, add_ii, sub_ii, eq_ii, cmp_ii, int_i, len_l, len_t, len_s, isi_lt hk _ hd]
  exact ⟨by first | trivial | rfl | simp, [], by simp⟩
/-! ### words -/
/-- the list's items, all names, none twice, at most four -/
def wordsB (ds : List D) : Bool := decide (ds.length ≤ 4) && (ds.all isNm && match strsD ds with
  | some xs => decide ((ddup [] xs).length = xs.length)
  | none => false)
def areW : D → Bool
  | .lst ds => wordsB ds
  | .tup ds => wordsB ds
  | _ => false
theorem strs_of_nm : ∀ {ds : List D}, ds.all isNm = true → ∃ xs, strsD ds = some xs ∧ ds = xs.map D.str
  | [], _ => ⟨[], rfl, rfl⟩
  | d :: ds, h => by
    rw [List.all_cons, Bool.and_eq_true] at h
    obtain ⟨xs, h1, h2⟩ := strs_of_nm h.2
    cases d with
    | str x => exact ⟨x :: xs, by show (strsD ds).map _ = _; rw [h1]; rfl, by rw [h2]; rfl⟩
    | _ => exact absurd (show false = true from h.1) (by decide)
def plItems : D → Bool
  | .lst ds => ds.all pl
  | .tup ds => ds.all pl
  | _ => true
def notFl : D → Bool
  | .fl _ => false
  | _ => true
def AreWordsOk (C : Cs) : Prop := ∀ (mu : Bool) (d : D) (S : Store), pl d = true → plItems d = true → notFl d = true → C "are_words" mu [] [.d d] [] S = .ok (.d (.bl (areW d))) S
theorem are_words_seq {T : Tab} (hk : KitB T.kit) (h1 : IsListedOk T.call) (h2 : IsNameOk T.call) (mu : Bool) (d : D) (ds : List D) (S : Store) (hx : SeqX d ds) (hp : ds.all pl = true) : cutR mu S (endR (B_are_words T mu [some (.d d), none] S)) = .ok (.d (.bl (wordsB ds))) S := by
  refine cut_val ?_
  rw [w_end]
  unfold B_are_words
  have hd : pl d = true := by rcases hx with rfl | rfl <;> rfl
  have hlt : (isL d || isTu d) = true := by rcases hx with rfl | rfl <;> rfl
  simp only [w_asO, w_ok, w_bind, w_up, w_upU, w_V0, w_VS, w_C, w_O1, w_O2, w_OA, w_OU, w_ix, w_call, w_nil, w_cons, w_dnil, w_dcons, w_tup, w_lst, w_lstM, w_dct0, w_if, w_and, w_or, w_not, w_tAnd, w_tOr, w_tNot, w_tB, w_tTru, w_chain, w_goN, w_goS, w_sl, w_attr, w_meth, uBl_b, uInt_i, s_nil, s_seq, s_drop, s_ret, s_retN, s_if, s_asg, s_par2, s_par3, s_asgT, s_break, s_cont, t_name, t_sub, t_attr, t_tup, t_nil, t_cons, set0, setS, s_for, w_giE, w_gir1, w_gir2, w_gizip, w_gienum, w_lc, Option.bind_some, Option.map_some, mkU_f, mkU_i, mkU_b, mkU_s, mkU_t, mkU_n, vw_d, vw_ref, fr_d, fr_ref, f1_d, f2_d, f1_u, f2_u, fA_1, fA_u, vws_nil, vws_cons, ixU_d, ixU_ref, cIx_l, cV_l, g0, gS, st0, stS, ix_l, ix_t, add_ii, sub_ii, eq_ii, cmp_ii, int_i, len_l, len_t, len_s, h1 false d S hd, hlt, tru_bl, Bool.not_true, Bool.false_eq_true, if_false, hx.len]
  by_cases h4 : (4 : Int) < (ds.length : Int)
  · simp only [h4, decide_true, if_true, w_asO, w_ok, w_bind, w_up, w_upU, w_V0, w_VS, w_C, w_O1, w_O2, w_OA, w_OU, w_ix, w_call, w_nil, w_cons, w_dnil, w_dcons, w_tup, w_lst, w_lstM, w_dct0, w_if, w_and, w_or, w_not, w_tAnd, w_tOr, w_tNot, w_tB, w_tTru, w_chain, w_goN, w_goS, w_sl, w_attr, w_meth, uBl_b, uInt_i, s_nil, s_seq, s_drop, s_ret, s_retN, s_if, s_asg, s_par2, s_par3, s_asgT, s_break, s_cont, t_name, t_sub, t_attr, t_tup, t_nil, t_cons, set0, setS, s_for, w_giE, w_gir1, w_gir2, w_gizip, w_gienum, w_lc, Option.bind_some, Option.map_some, mkU_f, mkU_i, mkU_b, mkU_s, mkU_t, mkU_n]
    have : wordsB ds = false := by
      unfold wordsB
      rw [decide_eq_false (by omega)]; rfl
    rw [this]
    exact ⟨by first | trivial | rfl | simp, [], by simp⟩
  · simp only [h4, decide_false, Bool.false_eq_true, if_false, w_asO, w_ok, w_bind, w_up, w_upU, w_V0, w_VS, w_C, w_O1, w_O2, w_OA, w_OU, w_ix, w_call, w_nil, w_cons, w_dnil, w_dcons, w_tup, w_lst, w_lstM, w_dct0, w_if, w_and, w_or, w_not, w_tAnd, w_tOr, w_tNot, w_tB, w_tTru, w_chain, w_goN, w_goS, w_sl, w_attr, w_meth, uBl_b, uInt_i, s_nil, s_seq, s_drop, s_ret, s_retN, s_if, s_asg, s_par2, s_par3, s_asgT, s_break, s_cont, t_name, t_sub, t_attr, t_tup, t_nil, t_cons, set0, setS, s_for, w_giE, w_gir1, w_gir2, w_gizip, w_gienum, w_lc, Option.bind_some, Option.map_some, mkU_f, mkU_i, mkU_b, mkU_s, mkU_t, mkU_n, hx.iter]
    refine lc_pure (p := fun _ => true) (f := fun d => .bl (isNm d)) (by omega) ?_ ?_
    · intro e he L
      refine ⟨_, rfl, rfl, fun _ => ?_⟩
      refine R.sat.eq ?_
      simp only [wipeD, set0, setS, w_asO, w_ok, w_bind, w_up, w_upU, w_V0, w_VS, w_C, w_O1, w_O2, w_OA, w_OU, w_ix, w_call, w_nil, w_cons, w_dnil, w_dcons, w_tup, w_lst, w_lstM, w_dct0, w_if, w_and, w_or, w_not, w_tAnd, w_tOr, w_tNot, w_tB, w_tTru, w_chain, w_goN, w_goS, w_sl, w_attr, w_meth, uBl_b, uInt_i, s_nil, s_seq, s_drop, s_ret, s_retN, s_if, s_asg, s_par2, s_par3, s_asgT, s_break, s_cont, t_name, t_sub, t_attr, t_tup, t_nil, t_cons, set0, setS, s_for, w_giE, w_gir1, w_gir2, w_gizip, w_gienum, w_lc, Option.bind_some, Option.map_some, mkU_f, mkU_i, mkU_b, mkU_s, mkU_t, mkU_n, h2 false e _ (List.all_eq_true.mp hp e he)]
      exact ⟨trivial, trivial⟩
    · have e : (List.map (fun d => D.bl (isNm d)) (List.filter (fun _ => true) ds)) = (ds.map isNm).map D.bl := by
        rw [filter_all, List.map_map]; rfl
      rw [e]
      simp only [w_asO, w_ok, w_bind, w_up, w_upU, w_V0, w_VS, w_C, w_O1, w_O2, w_OA, w_OU, w_ix, w_call, w_nil, w_cons, w_dnil, w_dcons, w_tup, w_lst, w_lstM, w_dct0, w_if, w_and, w_or, w_not, w_tAnd, w_tOr, w_tNot, w_tB, w_tTru, w_chain, w_goN, w_goS, w_sl, w_attr, w_meth, uBl_b, uInt_i, s_nil, s_seq, s_drop, s_ret, s_retN, s_if, s_asg, s_par2, s_par3, s_asgT, s_break, s_cont, t_name, t_sub, t_attr, t_tup, t_nil, t_cons, set0, setS, s_for, w_giE, w_gir1, w_gir2, w_gizip, w_gienum, w_lc, Option.bind_some, Option.map_some, mkU_f, mkU_i, mkU_b, mkU_s, mkU_t, mkU_n, vw_d, vw_ref, fr_d, fr_ref, f1_d, f2_d, f1_u, f2_u, fA_1, fA_u, vws_nil, vws_cons, ixU_d, ixU_ref, cIx_l, cV_l, g0, gS, st0, stS, ix_l, ix_t, add_ii, sub_ii, eq_ii, cmp_ii, int_i, len_l, len_t, len_s, all_bls, tru_bl]
      by_cases ha : ds.all isNm = true
      · have ha2 : ((ds.map isNm).all id) = true := by rw [List.all_map]; exact ha
        obtain ⟨xs, x1, x2⟩ := strs_of_nm ha
        have hlen : xs.length = ds.length := by rw [x2, List.length_map]
        have ls : cLenSet d = some (.int (ddup [] xs).length) := by
          have hi : itemsD d = some ds := by rcases hx with rfl | rfl <;> rfl
          show ((itemsD d).bind fun ds => (strsD ds).bind fun xs => if xs.length < 64 then some (D.int (ddup [] xs).length) else none) = _
          rw [hi]
          show (strsD ds).bind _ = _
          rw [x1]
          exact if_pos (by omega)
        simp only [ha2, Bool.not_true, Bool.false_eq_true, if_false, w_asO, w_ok, w_bind, w_up, w_upU, w_V0, w_VS, w_C, w_O1, w_O2, w_OA, w_OU, w_ix, w_call, w_nil, w_cons, w_dnil, w_dcons, w_tup, w_lst, w_lstM, w_dct0, w_if, w_and, w_or, w_not, w_tAnd, w_tOr, w_tNot, w_tB, w_tTru, w_chain, w_goN, w_goS, w_sl, w_attr, w_meth, uBl_b, uInt_i, s_nil, s_seq, s_drop, s_ret, s_retN, s_if, s_asg, s_par2, s_par3, s_asgT, s_break, s_cont, t_name, t_sub, t_attr, t_tup, t_nil, t_cons, set0, setS, s_for, w_giE, w_gir1, w_gir2, w_gizip, w_gienum, w_lc, Option.bind_some, Option.map_some, mkU_f, mkU_i, mkU_b, mkU_s, mkU_t, mkU_n, vw_d, vw_ref, fr_d, fr_ref, f1_d, f2_d, f1_u, f2_u, fA_1, fA_u, vws_nil, vws_cons, ixU_d, ixU_ref, cIx_l, cV_l, g0, gS, st0, stS, ix_l, ix_t, add_ii, sub_ii, eq_ii, cmp_ii, int_i, len_l, len_t, len_s, ls, hx.len]
        refine ⟨?_, [], by simp⟩
        unfold wordsB
        rw [decide_eq_true (show ds.length ≤ 4 by omega), ha, x1, ← hlen]
        simp only [Bool.true_and]
        congr 2
        exact decide_eq_decide.mpr (by omega)
      · have ha1 : ds.all isNm = false := Bool.eq_false_iff.mpr ha
        have ha2 : ((ds.map isNm).all id) = false := by rw [List.all_map]; exact ha1
        simp only [ha2, Bool.not_false, if_true, w_asO, w_ok, w_bind, w_up, w_upU, w_V0, w_VS, w_C, w_O1, w_O2, w_OA, w_OU, w_ix, w_call, w_nil, w_cons, w_dnil, w_dcons, w_tup, w_lst, w_lstM, w_dct0, w_if, w_and, w_or, w_not, w_tAnd, w_tOr, w_tNot, w_tB, w_tTru, w_chain, w_goN, w_goS, w_sl, w_attr, w_meth, uBl_b, uInt_i, s_nil, s_seq, s_drop, s_ret, s_retN, s_if, s_asg, s_par2, s_par3, s_asgT, s_break, s_cont, t_name, t_sub, t_attr, t_tup, t_nil, t_cons, set0, setS, s_for, w_giE, w_gir1, w_gir2, w_gizip, w_gienum, w_lc, Option.bind_some, Option.map_some, mkU_f, mkU_i, mkU_b, mkU_s, mkU_t, mkU_n]
        refine ⟨?_, [], by simp⟩
        unfold wordsB
        rw [ha1, Bool.false_and, Bool.and_false]
theorem are_words_B {T : Tab} (hk : KitB T.kit) (h1 : IsListedOk T.call) (h2 : IsNameOk T.call) (mu : Bool) (d : D) (S : Store) (hd : pl d = true) (hp : plItems d = true) (hf : notFl d = true) : cutR mu S (endR (B_are_words T mu [some (.d d), none] S)) = .ok (.d (.bl (areW d))) S := by
  cases d with
  | lst ds => exact are_words_seq hk h1 h2 mu _ ds S (.inl rfl) hp
  | tup ds => exact are_words_seq hk h1 h2 mu _ ds S (.inr rfl) hp
  | fl ds => cases hf
  | _ =>
    first
    | (cases hd; done)
    | (refine cut_val ?_
       rw [w_end]
       unfold B_are_words
       simp only [w_asO, w_ok, w_bind, w_up, w_upU, w_V0, w_VS, w_C, w_O1, w_O2, w_OA, w_OU, w_ix, w_call, w_nil, w_cons, w_dnil, w_dcons, w_tup, w_lst, w_lstM, w_dct0, w_if, w_and, w_or, w_not, w_tAnd, w_tOr, w_tNot, w_tB, w_tTru, w_chain, w_goN, w_goS, w_sl, w_attr, w_meth, uBl_b, uInt_i, s_nil, s_seq, s_drop, s_ret, s_retN, s_if, s_asg, s_par2, s_par3, s_asgT, s_break, s_cont, t_name, t_sub, t_attr, t_tup, t_nil, t_cons, set0, setS, s_for, w_giE, w_gir1, w_gir2, w_gizip, w_gienum, w_lc, Option.bind_some, Option.map_some, mkU_f, mkU_i, mkU_b, mkU_s, mkU_t, mkU_n, vw_d, vw_ref, fr_d, fr_ref, f1_d, f2_d, f1_u, f2_u, fA_1, fA_u, vws_nil, vws_cons, ixU_d, ixU_ref, cIx_l, cV_l, g0, gS, st0, stS, ix_l, ix_t, add_ii, sub_ii, eq_ii, cmp_ii, int_i, len_l, len_t, len_s, h1 false _ S hd, isL, isTu, Bool.or_self, tru_bl, Bool.not_false, if_true]
       exact ⟨by first | trivial | rfl | simp, [], by simp⟩)
/-! ### steps -/
theorem okD_pl {n : Nat} {x : D} (h : okD n x = true) : pl x = true := by cases x <;> first | rfl | (cases n <;> cases h)
theorem okD_items {n : Nat} {ds : List D} (h : okD (n + 1) (.tup ds) = true) {d : D} (hd : d ∈ ds) : okD n d = true := List.all_eq_true.mp (show ds.all (okD n) = true from h) d hd
theorem okD_plItems {n : Nat} {x : D} (h : okD n x = true) : plItems x = true := by
  cases x with
  | lst ds =>
    cases n with
    | zero => cases h
    | succ n => exact List.all_eq_true.mpr fun d hd => okD_pl (List.all_eq_true.mp (show ds.all (okD n) = true from h) d hd)
  | tup ds =>
    cases n with
    | zero => cases h
    | succ n => exact List.all_eq_true.mpr fun d hd => okD_pl (List.all_eq_true.mp (show ds.all (okD n) = true from h) d hd)
  | _ => rfl
def sgl : List D := [.tup [.str "take"], .tup [.str "put"], .tup [.str "give"]]
open Classical in
def sgl1 (a : D) : Bool := decide (a = .str "take" ∨ a = .str "put" ∨ a = .str "give")
def stepOf : D → D
  | .tup [] => .non
  | .tup [a] => if sgl1 a then .tup [a] else .non
  | .tup [.str n, e] => if n = "note" ∧ isNm e = true then .tup [.str n, e] else if n = "check" ∧ areW e = true then (match cSorted [e] with
    | some (.lst zs) => .tup [.str "check", .tup zs]
    | _ => .non) else .non
  | _ => .non
theorem nrm_str {a : D} {x : Str} : nrm a = .str x ↔ a = .str x := by
  cases a <;> simp [nrm]
theorem memB_sgl (ds : List D) : memB (.tup ds) sgl = match ds with
    | [a] => sgl1 a
    | _ => false := by
  rw [Bool.eq_iff_iff, memB_iff]
  have hs : sgl.map nrm = sgl := by simp [sgl, nrm, nrmL]
  rw [hs]
  show D.tup (nrmL ds) ∈ sgl ↔ _
  match ds with
  | [] => simp [sgl, nrmL]
  | [a] =>
    simp only [sgl, nrmL, List.mem_cons, List.not_mem_nil, or_false, D.tup.injEq, List.cons.injEq, and_true, nrm_str, sgl1, decide_eq_true_eq]
  | a :: b :: r => simp [sgl, nrmL]
theorem in_sgl {ds : List D} (h : okD 60 (.tup ds) = true) : oIn (.tup ds) (.tup sgl) = some (.bl (memB (.tup ds) sgl)) := by
  show (if (okD 60 (D.tup ds) && sgl.all (okD 59)) = true then some (memB (.tup ds) sgl) else none).map _ = _
  rw [h, show (true && sgl.all (okD 59)) = true from rfl, if_pos rfl]; rfl
theorem eq_nil {ds : List D} (h : okD 60 (.tup ds) = true) : oEq (.tup ds) (.tup []) = some (.bl ds.isEmpty) := by
  have e : oEq (.tup ds) (.tup []) = if (okD 60 (.tup ds) && okD 60 (.tup [])) = true then some (D.bl (eqB (.tup ds) (.tup []))) else none := rfl
  rw [e, h, show (true && okD 60 (D.tup [])) = true from rfl, if_pos rfl]
  congr 2
  rw [Bool.eq_iff_iff, eqB_iff]
  cases ds <;> simp [nrm, nrmL]
theorem eq_ss (x y : Str) : oEq (.str x) (.str y) = some (.bl (decide (x = y))) := rfl
theorem ne_ii (x y : Int) : oNe (.int x) (.int y) = some (.bl (!decide (x = y))) := rfl
def StepOfOk (C : Cs) : Prop := ∀ (mu : Bool) (d : D) (S : Store), okD 60 d = true → notFl d = true → (∀ ds, d = .tup ds → ∀ x ∈ ds, notFl x = true) → C "step_of" mu [] [.d d] [] S = .ok (.d (stepOf d)) S
theorem a20 (x y : D) : atI [x, y] 0 = some x := rfl
theorem a21 (x y : D) : atI [x, y] 1 = some y := rfl
theorem step_of_B {T : Tab} (hk : KitB T.kit) (h1 : IsNameOk T.call) (h2 : AreWordsOk T.call) (mu : Bool) (d : D) (S : Store) (hd : okD 60 d = true) (hf : notFl d = true) (hfi : ∀ ds, d = .tup ds → ∀ x ∈ ds, notFl x = true) : cutR mu S (endR (B_step_of T mu [some (.d d)] S)) = .ok (.d (stepOf d)) S := by
  refine cut_val ?_
  rw [w_end]
  unfold B_step_of
  have hsg : (D.tup [.tup [.str "take"], .tup [.str "put"], .tup [.str "give"]]) = .tup sgl := rfl
  simp only [w_asO, w_ok, w_bind, w_up, w_upU, w_V0, w_VS, w_C, w_O1, w_O2, w_OA, w_OU, w_ix, w_call, w_nil, w_cons, w_dnil, w_dcons, w_tup, w_lst, w_lstM, w_dct0, w_if, w_and, w_or, w_not, w_tAnd, w_tOr, w_tNot, w_tB, w_tTru, w_chain, w_goN, w_goS, w_sl, w_attr, w_meth, uBl_b, uInt_i, s_nil, s_seq, s_drop, s_ret, s_retN, s_if, s_asg, s_par2, s_par3, s_asgT, s_break, s_cont, t_name, t_sub, t_attr, t_tup, t_nil, t_cons, set0, setS, s_for, w_giE, w_gir1, w_gir2, w_gizip, w_gienum, w_lc, Option.bind_some, Option.map_some, mkU_f, mkU_i, mkU_b, mkU_s, mkU_t, mkU_n, vw_d, vw_ref, fr_d, fr_ref, f1_d, f2_d, f1_u, f2_u, fA_1, fA_u, vws_nil, vws_cons, ixU_d, ixU_ref, cIx_l, cV_l, g0, gS, st0, stS, ix_l, ix_t, add_ii, sub_ii, eq_ii, cmp_ii, int_i, len_l, len_t, len_s, isi_tuple hk _ (okD_pl hd), tru_bl, hsg]
  cases d with
  | tup ds =>
    simp only [isTu, Bool.not_true, Bool.false_eq_true, if_false, eq_nil hd, w_asO, w_ok, w_bind, w_up, w_upU, w_V0, w_VS, w_C, w_O1, w_O2, w_OA, w_OU, w_ix, w_call, w_nil, w_cons, w_dnil, w_dcons, w_tup, w_lst, w_lstM, w_dct0, w_if, w_and, w_or, w_not, w_tAnd, w_tOr, w_tNot, w_tB, w_tTru, w_chain, w_goN, w_goS, w_sl, w_attr, w_meth, uBl_b, uInt_i, s_nil, s_seq, s_drop, s_ret, s_retN, s_if, s_asg, s_par2, s_par3, s_asgT, s_break, s_cont, t_name, t_sub, t_attr, t_tup, t_nil, t_cons, set0, setS, s_for, w_giE, w_gir1, w_gir2, w_gizip, w_gienum, w_lc, Option.bind_some, Option.map_some, mkU_f, mkU_i, mkU_b, mkU_s, mkU_t, mkU_n, in_sgl hd, memB_sgl, len_t, ne_ii]
    match ds, hd, hfi with
    | [], _, _ =>
      simp only [List.isEmpty_nil, if_true, w_asO, w_ok, w_bind, w_up, w_upU, w_V0, w_VS, w_C, w_O1, w_O2, w_OA, w_OU, w_ix, w_call, w_nil, w_cons, w_dnil, w_dcons, w_tup, w_lst, w_lstM, w_dct0, w_if, w_and, w_or, w_not, w_tAnd, w_tOr, w_tNot, w_tB, w_tTru, w_chain, w_goN, w_goS, w_sl, w_attr, w_meth, uBl_b, uInt_i, s_nil, s_seq, s_drop, s_ret, s_retN, s_if, s_asg, s_par2, s_par3, s_asgT, s_break, s_cont, t_name, t_sub, t_attr, t_tup, t_nil, t_cons, set0, setS, s_for, w_giE, w_gir1, w_gir2, w_gizip, w_gienum, w_lc, Option.bind_some, Option.map_some, mkU_f, mkU_i, mkU_b, mkU_s, mkU_t, mkU_n]
      exact ⟨by first | trivial | rfl | simp, [], by simp⟩
    | [a], hd, hfi =>
      simp only [List.isEmpty_cons, Bool.false_eq_true, if_false, stepOf]
      by_cases hs1 : sgl1 a = true
      · simp only [hs1, if_true, w_asO, w_ok, w_bind, w_up, w_upU, w_V0, w_VS, w_C, w_O1, w_O2, w_OA, w_OU, w_ix, w_call, w_nil, w_cons, w_dnil, w_dcons, w_tup, w_lst, w_lstM, w_dct0, w_if, w_and, w_or, w_not, w_tAnd, w_tOr, w_tNot, w_tB, w_tTru, w_chain, w_goN, w_goS, w_sl, w_attr, w_meth, uBl_b, uInt_i, s_nil, s_seq, s_drop, s_ret, s_retN, s_if, s_asg, s_par2, s_par3, s_asgT, s_break, s_cont, t_name, t_sub, t_attr, t_tup, t_nil, t_cons, set0, setS, s_for, w_giE, w_gir1, w_gir2, w_gizip, w_gienum, w_lc, Option.bind_some, Option.map_some, mkU_f, mkU_i, mkU_b, mkU_s, mkU_t, mkU_n]
        exact ⟨by first | trivial | rfl | simp, [], by simp⟩
      · simp only [hs1, Bool.false_eq_true, if_false, List.length_singleton, w_asO, w_ok, w_bind, w_up, w_upU, w_V0, w_VS, w_C, w_O1, w_O2, w_OA, w_OU, w_ix, w_call, w_nil, w_cons, w_dnil, w_dcons, w_tup, w_lst, w_lstM, w_dct0, w_if, w_and, w_or, w_not, w_tAnd, w_tOr, w_tNot, w_tB, w_tTru, w_chain, w_goN, w_goS, w_sl, w_attr, w_meth, uBl_b, uInt_i, s_nil, s_seq, s_drop, s_ret, s_retN, s_if, s_asg, s_par2, s_par3, s_asgT, s_break, s_cont, t_name, t_sub, t_attr, t_tup, t_nil, t_cons, set0, setS, s_for, w_giE, w_gir1, w_gir2, w_gizip, w_gienum, w_lc, Option.bind_some, Option.map_some, mkU_f, mkU_i, mkU_b, mkU_s, mkU_t, mkU_n, show decide (((1 : Nat) : Int) = 2) = false from rfl, Bool.not_false, if_true]
        exact ⟨by first | trivial | rfl | simp, [], by simp⟩
    | [a, e], hd, hfi =>
      have ha := okD_items hd (d := a) (by simp)
      have he := okD_items hd (d := e) (by simp)
      simp only [List.isEmpty_cons, Bool.false_eq_true, if_false, List.length_cons, List.length_nil, w_asO, w_ok, w_bind, w_up, w_upU, w_V0, w_VS, w_C, w_O1, w_O2, w_OA, w_OU, w_ix, w_call, w_nil, w_cons, w_dnil, w_dcons, w_tup, w_lst, w_lstM, w_dct0, w_if, w_and, w_or, w_not, w_tAnd, w_tOr, w_tNot, w_tB, w_tTru, w_chain, w_goN, w_goS, w_sl, w_attr, w_meth, uBl_b, uInt_i, s_nil, s_seq, s_drop, s_ret, s_retN, s_if, s_asg, s_par2, s_par3, s_asgT, s_break, s_cont, t_name, t_sub, t_attr, t_tup, t_nil, t_cons, set0, setS, s_for, w_giE, w_gir1, w_gir2, w_gizip, w_gienum, w_lc, Option.bind_some, Option.map_some, mkU_f, mkU_i, mkU_b, mkU_s, mkU_t, mkU_n, vw_d, vw_ref, fr_d, fr_ref, f1_d, f2_d, f1_u, f2_u, fA_1, fA_u, vws_nil, vws_cons, ixU_d, ixU_ref, cIx_l, cV_l, g0, gS, st0, stS, ix_l, ix_t, add_ii, sub_ii, eq_ii, cmp_ii, int_i, len_l, len_t, len_s, show decide ((((0 + 1 + 1 : Nat)) : Int) = 2) = true from rfl, Bool.not_true, ix_t, a20, a21, isi_str hk _ (okD_pl ha), tru_bl]
      cases a with
      | str n =>
        simp only [isSt, Bool.not_true, Bool.false_eq_true, if_false, eq_ss, w_asO, w_ok, w_bind, w_up, w_upU, w_V0, w_VS, w_C, w_O1, w_O2, w_OA, w_OU, w_ix, w_call, w_nil, w_cons, w_dnil, w_dcons, w_tup, w_lst, w_lstM, w_dct0, w_if, w_and, w_or, w_not, w_tAnd, w_tOr, w_tNot, w_tB, w_tTru, w_chain, w_goN, w_goS, w_sl, w_attr, w_meth, uBl_b, uInt_i, s_nil, s_seq, s_drop, s_ret, s_retN, s_if, s_asg, s_par2, s_par3, s_asgT, s_break, s_cont, t_name, t_sub, t_attr, t_tup, t_nil, t_cons, set0, setS, s_for, w_giE, w_gir1, w_gir2, w_gizip, w_gienum, w_lc, Option.bind_some, Option.map_some, mkU_f, mkU_i, mkU_b, mkU_s, mkU_t, mkU_n, h1 false e _ (okD_pl he), h2 false e _ (okD_pl he) (okD_plItems he) (hfi _ rfl e (by simp)), tru_bl, stepOf]
        by_cases hn : n = "note"
        · subst hn
          have hnc : ¬ (("note" : Str) = "check") := by decide
          cases hnm : isNm e with
          | true => 
            simp only [decide_true, if_true, and_self, w_asO, w_ok, w_bind, w_up, w_upU, w_V0, w_VS, w_C, w_O1, w_O2, w_OA, w_OU, w_ix, w_call, w_nil, w_cons, w_dnil, w_dcons, w_tup, w_lst, w_lstM, w_dct0, w_if, w_and, w_or, w_not, w_tAnd, w_tOr, w_tNot, w_tB, w_tTru, w_chain, w_goN, w_goS, w_sl, w_attr, w_meth, uBl_b, uInt_i, s_nil, s_seq, s_drop, s_ret, s_retN, s_if, s_asg, s_par2, s_par3, s_asgT, s_break, s_cont, t_name, t_sub, t_attr, t_tup, t_nil, t_cons, set0, setS, s_for, w_giE, w_gir1, w_gir2, w_gizip, w_gienum, w_lc, Option.bind_some, Option.map_some, mkU_f, mkU_i, mkU_b, mkU_s, mkU_t, mkU_n]
            exact ⟨by first | trivial | rfl | simp, [], by simp⟩
          | false =>
            simp only [decide_true, if_true, Bool.false_eq_true, if_false, and_false, hnc, decide_false, false_and, w_asO, w_ok, w_bind, w_up, w_upU, w_V0, w_VS, w_C, w_O1, w_O2, w_OA, w_OU, w_ix, w_call, w_nil, w_cons, w_dnil, w_dcons, w_tup, w_lst, w_lstM, w_dct0, w_if, w_and, w_or, w_not, w_tAnd, w_tOr, w_tNot, w_tB, w_tTru, w_chain, w_goN, w_goS, w_sl, w_attr, w_meth, uBl_b, uInt_i, s_nil, s_seq, s_drop, s_ret, s_retN, s_if, s_asg, s_par2, s_par3, s_asgT, s_break, s_cont, t_name, t_sub, t_attr, t_tup, t_nil, t_cons, set0, setS, s_for, w_giE, w_gir1, w_gir2, w_gizip, w_gienum, w_lc, Option.bind_some, Option.map_some, mkU_f, mkU_i, mkU_b, mkU_s, mkU_t, mkU_n]
            exact ⟨by first | trivial | rfl | simp, [], by simp⟩
        · simp only [hn, decide_false, Bool.false_eq_true, if_false, false_and, w_asO, w_ok, w_bind, w_up, w_upU, w_V0, w_VS, w_C, w_O1, w_O2, w_OA, w_OU, w_ix, w_call, w_nil, w_cons, w_dnil, w_dcons, w_tup, w_lst, w_lstM, w_dct0, w_if, w_and, w_or, w_not, w_tAnd, w_tOr, w_tNot, w_tB, w_tTru, w_chain, w_goN, w_goS, w_sl, w_attr, w_meth, uBl_b, uInt_i, s_nil, s_seq, s_drop, s_ret, s_retN, s_if, s_asg, s_par2, s_par3, s_asgT, s_break, s_cont, t_name, t_sub, t_attr, t_tup, t_nil, t_cons, set0, setS, s_for, w_giE, w_gir1, w_gir2, w_gizip, w_gienum, w_lc, Option.bind_some, Option.map_some, mkU_f, mkU_i, mkU_b, mkU_s, mkU_t, mkU_n]
          by_cases hc : n = "check"
          · subst hc
            cases hw : areW e with
            | false =>
              simp only [decide_true, if_true, Bool.false_eq_true, if_false, and_false, w_asO, w_ok, w_bind, w_up, w_upU, w_V0, w_VS, w_C, w_O1, w_O2, w_OA, w_OU, w_ix, w_call, w_nil, w_cons, w_dnil, w_dcons, w_tup, w_lst, w_lstM, w_dct0, w_if, w_and, w_or, w_not, w_tAnd, w_tOr, w_tNot, w_tB, w_tTru, w_chain, w_goN, w_goS, w_sl, w_attr, w_meth, uBl_b, uInt_i, s_nil, s_seq, s_drop, s_ret, s_retN, s_if, s_asg, s_par2, s_par3, s_asgT, s_break, s_cont, t_name, t_sub, t_attr, t_tup, t_nil, t_cons, set0, setS, s_for, w_giE, w_gir1, w_gir2, w_gizip, w_gienum, w_lc, Option.bind_some, Option.map_some, mkU_f, mkU_i, mkU_b, mkU_s, mkU_t, mkU_n]
              exact ⟨by first | trivial | rfl | simp, [], by simp⟩
            | true =>
              have hs : ∃ zs, cSorted [e] = some (.lst zs) := by
                have key : ∀ ds, SeqX e ds → wordsB ds = true → ∃ zs, cSorted [e] = some (.lst zs) := by
                  intro ds hx hw
                  unfold wordsB at hw
                  simp only [Bool.and_eq_true, decide_eq_true_eq] at hw
                  obtain ⟨xs, x1, x2⟩ := strs_of_nm hw.2.1
                  have hlen : xs.length = ds.length := by rw [x2, List.length_map]
                  have hi : itemsD e = some ds := by rcases hx with rfl | rfl <;> rfl
                  refine ⟨(sortS xs).map D.str, ?_⟩
                  show (itemsD e).bind _ = _
                  rw [hi]
                  show (strsD ds).bind _ = _
                  rw [x1]
                  exact if_pos (by omega)
                cases e with
                | lst ds => exact key ds (.inl rfl) hw
                | tup ds => exact key ds (.inr rfl) hw
                | _ => cases hw
              obtain ⟨zs, hzs⟩ := hs
              have ht : cTuple [.lst zs] = some (.tup zs) := rfl
              simp only [decide_true, if_true, and_self, w_asO, w_ok, w_bind, w_up, w_upU, w_V0, w_VS, w_C, w_O1, w_O2, w_OA, w_OU, w_ix, w_call, w_nil, w_cons, w_dnil, w_dcons, w_tup, w_lst, w_lstM, w_dct0, w_if, w_and, w_or, w_not, w_tAnd, w_tOr, w_tNot, w_tB, w_tTru, w_chain, w_goN, w_goS, w_sl, w_attr, w_meth, uBl_b, uInt_i, s_nil, s_seq, s_drop, s_ret, s_retN, s_if, s_asg, s_par2, s_par3, s_asgT, s_break, s_cont, t_name, t_sub, t_attr, t_tup, t_nil, t_cons, set0, setS, s_for, w_giE, w_gir1, w_gir2, w_gizip, w_gienum, w_lc, Option.bind_some, Option.map_some, mkU_f, mkU_i, mkU_b, mkU_s, mkU_t, mkU_n, vw_d, vw_ref, fr_d, fr_ref, f1_d, f2_d, f1_u, f2_u, fA_1, fA_u, vws_nil, vws_cons, ixU_d, ixU_ref, cIx_l, cV_l, g0, gS, st0, stS, ix_l, ix_t, add_ii, sub_ii, eq_ii, cmp_ii, int_i, len_l, len_t, len_s, ix_t, a21, hzs, ht]
              exact ⟨by first | trivial | rfl | simp, [], by simp⟩
          · simp only [hc, decide_false, Bool.false_eq_true, if_false, false_and, w_asO, w_ok, w_bind, w_up, w_upU, w_V0, w_VS, w_C, w_O1, w_O2, w_OA, w_OU, w_ix, w_call, w_nil, w_cons, w_dnil, w_dcons, w_tup, w_lst, w_lstM, w_dct0, w_if, w_and, w_or, w_not, w_tAnd, w_tOr, w_tNot, w_tB, w_tTru, w_chain, w_goN, w_goS, w_sl, w_attr, w_meth, uBl_b, uInt_i, s_nil, s_seq, s_drop, s_ret, s_retN, s_if, s_asg, s_par2, s_par3, s_asgT, s_break, s_cont, t_name, t_sub, t_attr, t_tup, t_nil, t_cons, set0, setS, s_for, w_giE, w_gir1, w_gir2, w_gizip, w_gienum, w_lc, Option.bind_some, Option.map_some, mkU_f, mkU_i, mkU_b, mkU_s, mkU_t, mkU_n]
            exact ⟨by first | trivial | rfl | simp, [], by simp⟩
      | _ =>
        simp only [isSt, Bool.not_false, if_true, w_asO, w_ok, w_bind, w_up, w_upU, w_V0, w_VS, w_C, w_O1, w_O2, w_OA, w_OU, w_ix, w_call, w_nil, w_cons, w_dnil, w_dcons, w_tup, w_lst, w_lstM, w_dct0, w_if, w_and, w_or, w_not, w_tAnd, w_tOr, w_tNot, w_tB, w_tTru, w_chain, w_goN, w_goS, w_sl, w_attr, w_meth, uBl_b, uInt_i, s_nil, s_seq, s_drop, s_ret, s_retN, s_if, s_asg, s_par2, s_par3, s_asgT, s_break, s_cont, t_name, t_sub, t_attr, t_tup, t_nil, t_cons, set0, setS, s_for, w_giE, w_gir1, w_gir2, w_gizip, w_gienum, w_lc, Option.bind_some, Option.map_some, mkU_f, mkU_i, mkU_b, mkU_s, mkU_t, mkU_n, stepOf]
        exact ⟨by first | trivial | rfl | simp, [], by simp⟩
    | a :: b :: c :: r, hd, hfi =>
      have e3 : decide (((a :: b :: c :: r).length : Int) = 2) = false := by
        rw [decide_eq_false_iff_not]
        simp only [List.length_cons]
        omega
      simp only [List.isEmpty_cons, Bool.false_eq_true, if_false, e3, Bool.not_false, if_true, w_asO, w_ok, w_bind, w_up, w_upU, w_V0, w_VS, w_C, w_O1, w_O2, w_OA, w_OU, w_ix, w_call, w_nil, w_cons, w_dnil, w_dcons, w_tup, w_lst, w_lstM, w_dct0, w_if, w_and, w_or, w_not, w_tAnd, w_tOr, w_tNot, w_tB, w_tTru, w_chain, w_goN, w_goS, w_sl, w_attr, w_meth, uBl_b, uInt_i, s_nil, s_seq, s_drop, s_ret, s_retN, s_if, s_asg, s_par2, s_par3, s_asgT, s_break, s_cont, t_name, t_sub, t_attr, t_tup, t_nil, t_cons, set0, setS, s_for, w_giE, w_gir1, w_gir2, w_gizip, w_gienum, w_lc, Option.bind_some, Option.map_some, mkU_f, mkU_i, mkU_b, mkU_s, mkU_t, mkU_n, stepOf]
      exact ⟨by first | trivial | rfl | simp, [], by simp⟩
  | _ =>
    simp only [isTu, Bool.not_false, if_true, w_asO, w_ok, w_bind, w_up, w_upU, w_V0, w_VS, w_C, w_O1, w_O2, w_OA, w_OU, w_ix, w_call, w_nil, w_cons, w_dnil, w_dcons, w_tup, w_lst, w_lstM, w_dct0, w_if, w_and, w_or, w_not, w_tAnd, w_tOr, w_tNot, w_tB, w_tTru, w_chain, w_goN, w_goS, w_sl, w_attr, w_meth, uBl_b, uInt_i, s_nil, s_seq, s_drop, s_ret, s_retN, s_if, s_asg, s_par2, s_par3, s_asgT, s_break, s_cont, t_name, t_sub, t_attr, t_tup, t_nil, t_cons, set0, setS, s_for, w_giE, w_gir1, w_gir2, w_gizip, w_gienum, w_lc, Option.bind_some, Option.map_some, mkU_f, mkU_i, mkU_b, mkU_s, mkU_t, mkU_n, stepOf]
    exact ⟨by first | trivial | rfl | simp, [], by simp⟩
def IsStepOk (C : Cs) : Prop := ∀ (mu : Bool) (d : D) (S : Store), okD 60 d = true → notFl d = true → (∀ ds, d = .tup ds → ∀ x ∈ ds, notFl x = true) → C "is_step" mu [] [.d d] [] S = .ok (.d (.bl (!isNonD (stepOf d)))) S
theorem is_step_B {T : Tab} (h : StepOfOk T.call) (mu : Bool) (d : D) (S : Store) (hd : okD 60 d = true) (hf : notFl d = true) (hfi : ∀ ds, d = .tup ds → ∀ x ∈ ds, notFl x = true) : cutR mu S (endR (B_is_step T mu [some (.d d)] S)) = .ok (.d (.bl (!isNonD (stepOf d)))) S := by
  refine cut_val ?_
  rw [w_end]
  unfold B_is_step
  simp only [w_asO, w_ok, w_bind, w_up, w_upU, w_V0, w_VS, w_C, w_O1, w_O2, w_OA, w_OU, w_ix, w_call, w_nil, w_cons, w_dnil, w_dcons, w_tup, w_lst, w_lstM, w_dct0, w_if, w_and, w_or, w_not, w_tAnd, w_tOr, w_tNot, w_tB, w_tTru, w_chain, w_goN, w_goS, w_sl, w_attr, w_meth, uBl_b, uInt_i, s_nil, s_seq, s_drop, s_ret, s_retN, s_if, s_asg, s_par2, s_par3, s_asgT, s_break, s_cont, t_name, t_sub, t_attr, t_tup, t_nil, t_cons, set0, setS, s_for, w_giE, w_gir1, w_gir2, w_gizip, w_gienum, w_lc, Option.bind_some, Option.map_some, mkU_f, mkU_i, mkU_b, mkU_s, mkU_t, mkU_n, vw_d, vw_ref, fr_d, fr_ref, f1_d, f2_d, f1_u, f2_u, fA_1, fA_u, vws_nil, vws_cons, ixU_d, ixU_ref, cIx_l, cV_l, g0, gS, st0, stS, ix_l, ix_t, add_ii, sub_ii, eq_ii, cmp_ii, int_i, len_l, len_t, len_s, h false d S hd hf hfi, isnot_non]
  exact ⟨by first | trivial | rfl | simp, [], by simp⟩
end
end Dv
set_option maxRecDepth 100000
set_option maxHeartbeats 1000000
namespace Dv
open PySem PySem.Spec PyProof.Rows L2
noncomputable section
theorem ddup_nodupL : ∀ (xs acc : List Str), xs.Nodup → (∀ x ∈ xs, x ∉ acc) → (ddup acc xs).length = acc.length + xs.length
  | [], acc, _, _ => rfl
  | x :: xs, acc, h, hm => by
    obtain ⟨h1, h2⟩ := List.nodup_cons.mp h
    unfold ddup
    rw [if_neg (hm x List.mem_cons_self), ddup_nodupL xs (acc ++ [x]) h2 fun y hy => by
      rw [List.mem_append, List.mem_singleton]
      rintro (q | q)
      · exact hm y (List.mem_cons_of_mem _ hy) q
      · exact h1 (q ▸ hy)]
    simp; omega
theorem strsD_ok (xs : List Str) : strsD (xs.map D.str) = some xs := strsD_map xs
theorem wordsB_ok {xs : List Str} (h4 : xs.length ≤ 4) (hn : ∀ x ∈ xs, nameB x = true) (hd : xs.Nodup) : wordsB (xs.map D.str) = true := by
  unfold wordsB
  rw [strsD_ok]
  have e := ddup_nodupL xs [] hd fun _ _ => by simp
  simp only [List.length_map, e, List.length_nil, Nat.zero_add, decide_true, Bool.and_true, Bool.and_eq_true, decide_eq_true_eq, List.all_eq_true]
  refine ⟨h4, fun d hd => ?_⟩
  obtain ⟨x, hx, rfl⟩ := List.mem_map.mp hd
  exact hn x hx
def badL : List Str := ["", "B", "a b", "ninesigns", "k2", "-", "row ", "xxxxxxxxx", "y_", "a\n"]
theorem badL_ok : ∀ x ∈ badL, nameB x = false := by decide +kernel
theorem nine_x : oMul (.str "x") (.int 9) = some (.str "xxxxxxxxx") := by kernel_rfl
def BadNameOk (C : Cs) : Prop := ∀ (M : Int) (c : Cell) (R : Store) (mu : Bool), SrcC M c → M < LIM → DS (C "_law_bad_name" mu [] [.ref 0] [] (c :: R)) R (M + 1) fun y => ∃ x, y = .str x ∧ x ∈ badL
theorem bad_name_B {T : Tab} (ho : OfOk T.call) (M : Int) (c : Cell) (R : Store) (mu : Bool) (hs : SrcC M c) (hM : M < LIM) : DS (cutR mu (c :: R) (endR (B__law_bad_name T mu [some (.ref 0)] (c :: R)))) R (M + 1) fun y => ∃ x, y = .str x ∧ x ∈ badL := by
  refine DS.cutv ?_
  rw [w_end]
  unfold B__law_bad_name
  simp only [w_asO, w_ok, w_bind, w_up, w_upU, w_V0, w_VS, w_C, w_O1, w_O2, w_OA, w_OU, w_ix, w_call, w_nil, w_cons, w_dnil, w_dcons, w_tup, w_lst, w_lstM, w_dct0, w_if, w_and, w_or, w_not, w_tAnd, w_tOr, w_tNot, w_tB, w_tTru, w_chain, w_goN, w_goS, w_sl, w_attr, w_meth, uBl_b, uInt_i, s_nil, s_seq, s_drop, s_ret, s_retN, s_if, s_asg, s_par2, s_par3, s_asgT, s_break, s_cont, t_name, t_sub, t_attr, t_tup, t_nil, t_cons, set0, setS, s_for, w_giE, w_gir1, w_gir2, w_gizip, w_gienum, w_lc, Option.bind_some, Option.map_some, mkU_f, mkU_i, mkU_b, mkU_s, mkU_t, mkU_n, vw_d, vw_ref, fr_d, fr_ref, f1_d, f2_d, f1_u, f2_u, fA_1, fA_u, vws_nil, vws_cons, ixU_d, ixU_ref, cIx_l, cV_l, g0, gS, st0, stS, ix_l, ix_t, add_ii, sub_ii, eq_ii, cmp_ii, int_i, len_l, len_t, len_s, nine_x]
  refine (ho M c R mu _ (badL.map D.str) hs hM (.inl rfl) (by decide) (by decide)).use ?_
  rintro y c' hc hy
  obtain ⟨x, hx, rfl⟩ := List.mem_map.mp hy
  exact ⟨_, c', [], rfl, by simp, hc, x, rfl, hx⟩
def anyL : List D := [.non, .bl true, .int 0, .int (-1), .str "", .str "Take", .tup [], .lst [], .tup [.int 1, .int 2], .lst [.int 1], .tup [.str "take", .int 1], .int 100000000000000000000000000000]
theorem ten29 : oPow (.int 10) (.int 29) = some (.int 100000000000000000000000000000) := by kernel_rfl
def AnyOk (C : Cs) : Prop := ∀ (M : Int) (c : Cell) (R : Store) (mu : Bool), SrcC M c → M < LIM → DS (C "_law_any" mu [] [.ref 0] [] (c :: R)) R (M + 1) fun y => y ∈ anyL
theorem neg_i (i : Int) : oNeg (.int i) = some (.int (-i)) := rfl
theorem any_B {T : Tab} (ho : OfOk T.call) (M : Int) (c : Cell) (R : Store) (mu : Bool) (hs : SrcC M c) (hM : M < LIM) : DS (cutR mu (c :: R) (endR (B__law_any T mu [some (.ref 0)] (c :: R)))) R (M + 1) fun y => y ∈ anyL := by
  refine DS.cutv ?_
  rw [w_end]
  unfold B__law_any
  simp only [w_asO, w_ok, w_bind, w_up, w_upU, w_V0, w_VS, w_C, w_O1, w_O2, w_OA, w_OU, w_ix, w_call, w_nil, w_cons, w_dnil, w_dcons, w_tup, w_lst, w_lstM, w_dct0, w_if, w_and, w_or, w_not, w_tAnd, w_tOr, w_tNot, w_tB, w_tTru, w_chain, w_goN, w_goS, w_sl, w_attr, w_meth, uBl_b, uInt_i, s_nil, s_seq, s_drop, s_ret, s_retN, s_if, s_asg, s_par2, s_par3, s_asgT, s_break, s_cont, t_name, t_sub, t_attr, t_tup, t_nil, t_cons, set0, setS, s_for, w_giE, w_gir1, w_gir2, w_gizip, w_gienum, w_lc, Option.bind_some, Option.map_some, mkU_f, mkU_i, mkU_b, mkU_s, mkU_t, mkU_n, vw_d, vw_ref, fr_d, fr_ref, f1_d, f2_d, f1_u, f2_u, fA_1, fA_u, vws_nil, vws_cons, ixU_d, ixU_ref, cIx_l, cV_l, g0, gS, st0, stS, ix_l, ix_t, add_ii, sub_ii, eq_ii, cmp_ii, int_i, len_l, len_t, len_s, ten29, neg_i]
  refine (ho M c R mu _ anyL hs hM (.inl rfl) (by decide) (by decide)).use ?_
  rintro y c' hc hy
  exact ⟨_, c', [], rfl, by simp, hc, hy⟩
/-! ### drawn steps -/
def StepG (y : D) : Prop := (∃ s, s ∈ (["take", "put", "give"] : List Str) ∧ y = .tup [.str s]) ∨ (∃ w, nameB w = true ∧ y = .tup [.str "note", .str w]) ∨ ∃ ws : List Str, y = .tup [.str "check", .tup (ws.map D.str)] ∧ ws.length ≤ 4 ∧ ws.Nodup ∧ ∀ w ∈ ws, nameB w = true
theorem sublist_strs {es : List D} {xs : List Str} (h : es.Sublist (xs.map D.str)) : ∃ ys : List Str, es = ys.map D.str ∧ ys.Sublist xs := by
  obtain ⟨ys, h1, h2⟩ := List.sublist_map_iff.mp h
  exact ⟨ys, h2, h1⟩
theorem all_strs : ∀ {es : List D}, (∀ x ∈ es, ∃ s, x = .str s) → ∃ ys : List Str, es = ys.map D.str
  | [], _ => ⟨[], rfl⟩
  | e :: es, h => by
    obtain ⟨s, rfl⟩ := h e List.mem_cons_self
    obtain ⟨ys, rfl⟩ := all_strs (es := es) fun x hx => h x (List.mem_cons_of_mem _ hx)
    exact ⟨s :: ys, rfl⟩
def unS : D → Str
  | .str x => x
  | _ => ⟨#[]⟩
theorem unS_map (ys : List Str) : (ys.map D.str).map unS = ys := by
  rw [List.map_map]
  exact List.map_id'' (fun _ => rfl) ys
theorem perm_strs {es : List D} {xs : List Str} (h : es.Perm (xs.map D.str)) : ∃ ys : List Str, es = ys.map D.str ∧ ys.Perm xs := by
  obtain ⟨ys, rfl⟩ := all_strs (es := es) fun x hx => by
    obtain ⟨s, _, e⟩ := List.mem_map.mp (h.mem_iff.mp hx)
    exact ⟨s, e.symm⟩
  refine ⟨ys, rfl, ?_⟩
  have := h.map unS
  rw [unS_map, unS_map] at this
  exact this
theorem sorted_strs {xs : List Str} (h : xs.length < 64) : cSorted [.lst (xs.map D.str)] = some (.lst ((sortS xs).map D.str)) := by
  show (strsD (xs.map D.str)).bind _ = _
  rw [strsD_ok]
  exact if_pos h
theorem tuple_l (ds : List D) : cTuple [.lst ds] = some (.tup ds) := rfl
theorem tuple_t (ds : List D) : cTuple [.tup ds] = some (.tup ds) := rfl
theorem list_t (ds : List D) : cList [.tup ds] = some (.lst ds) := rfl
theorem list_l (ds : List D) : cList [.lst ds] = some (.lst ds) := rfl
def LawStepOk (C : Cs) : Prop := ∀ (M : Int) (c : Cell) (R : Store) (mu : Bool) (xs : List Str), SrcC M c → M + 5 < LIM → 0 < xs.length → xs.length ≤ 4 → xs.Nodup → (∀ x ∈ xs, nameB x = true) → DS (C "_law_step" mu [] [.ref 0, .d (.lst (xs.map D.str))] [] (c :: R)) R (M + 5) StepG
theorem law_step_B {T : Tab} (hd : DrawOk T.call) (ho : OfOk T.call) (hso : SomeOk T.call) (M : Int) (c : Cell) (R : Store) (mu : Bool) (xs : List Str) (hs : SrcC M c) (hM : M + 5 < LIM) (h0 : 0 < xs.length) (h4 : xs.length ≤ 4) (hnd : xs.Nodup) (hn : ∀ x ∈ xs, nameB x = true) :
    DS (cutR mu (c :: R) (endR (B__law_step T mu [some (.ref 0), some (.d (.lst (xs.map D.str))), none] (c :: R)))) R (M + 5) StepG := by
  have hM : M + 5 < 1000000000000 := hM
  refine DS.cutv ?_
  rw [w_end]
  unfold B__law_step
  simp only [w_asO, w_ok, w_bind, w_up, w_upU, w_V0, w_VS, w_C, w_O1, w_O2, w_OA, w_OU, w_ix, w_call, w_nil, w_cons, w_dnil, w_dcons, w_tup, w_lst, w_lstM, w_dct0, w_if, w_and, w_or, w_not, w_tAnd, w_tOr, w_tNot, w_tB, w_tTru, w_chain, w_goN, w_goS, w_sl, w_attr, w_meth, uBl_b, uInt_i, s_nil, s_seq, s_drop, s_ret, s_retN, s_if, s_asg, s_par2, s_par3, s_asgT, s_break, s_cont, t_name, t_sub, t_attr, t_tup, t_nil, t_cons, set0, setS, s_for, w_giE, w_gir1, w_gir2, w_gizip, w_gienum, w_lc, Option.bind_some, Option.map_some, mkU_f, mkU_i, mkU_b, mkU_s, mkU_t, mkU_n]
  refine (hd.ds hs (show M < 1000000000000 by omega) (by decide) (by decide)).use ?_
  rintro y c1 hc1 ⟨v, rfl, v0, v1⟩
  simp only [w_asO, w_ok, w_bind, w_up, w_upU, w_V0, w_VS, w_C, w_O1, w_O2, w_OA, w_OU, w_ix, w_call, w_nil, w_cons, w_dnil, w_dcons, w_tup, w_lst, w_lstM, w_dct0, w_if, w_and, w_or, w_not, w_tAnd, w_tOr, w_tNot, w_tB, w_tTru, w_chain, w_goN, w_goS, w_sl, w_attr, w_meth, uBl_b, uInt_i, s_nil, s_seq, s_drop, s_ret, s_retN, s_if, s_asg, s_par2, s_par3, s_asgT, s_break, s_cont, t_name, t_sub, t_attr, t_tup, t_nil, t_cons, set0, setS, s_for, w_giE, w_gir1, w_gir2, w_gizip, w_gienum, w_lc, Option.bind_some, Option.map_some, mkU_f, mkU_i, mkU_b, mkU_s, mkU_t, mkU_n, vw_d, vw_ref, fr_d, fr_ref, f1_d, f2_d, f1_u, f2_u, fA_1, fA_u, vws_nil, vws_cons, ixU_d, ixU_ref, cIx_l, cV_l, g0, gS, st0, stS, ix_l, ix_t, add_ii, sub_ii, eq_ii, cmp_ii, int_i, len_l, len_t, len_s]
  by_cases h3 : v < 3
  · have hv : v = 0 ∨ v = 1 ∨ v = 2 := by omega
    rcases hv with rfl | rfl | rfl
    · exact ⟨_, c1, [], rfl, by simp, hc1.mono (by omega), .inl ⟨"take", by simp, rfl⟩⟩
    · exact ⟨_, c1, [], rfl, by simp, hc1.mono (by omega), .inl ⟨"put", by simp, rfl⟩⟩
    · exact ⟨_, c1, [], rfl, by simp, hc1.mono (by omega), .inl ⟨"give", by simp, rfl⟩⟩
  · simp only [h3, decide_false, Bool.false_eq_true, if_false, w_asO, w_ok, w_bind, w_up, w_upU, w_V0, w_VS, w_C, w_O1, w_O2, w_OA, w_OU, w_ix, w_call, w_nil, w_cons, w_dnil, w_dcons, w_tup, w_lst, w_lstM, w_dct0, w_if, w_and, w_or, w_not, w_tAnd, w_tOr, w_tNot, w_tB, w_tTru, w_chain, w_goN, w_goS, w_sl, w_attr, w_meth, uBl_b, uInt_i, s_nil, s_seq, s_drop, s_ret, s_retN, s_if, s_asg, s_par2, s_par3, s_asgT, s_break, s_cont, t_name, t_sub, t_attr, t_tup, t_nil, t_cons, set0, setS, s_for, w_giE, w_gir1, w_gir2, w_gizip, w_gienum, w_lc, Option.bind_some, Option.map_some, mkU_f, mkU_i, mkU_b, mkU_s, mkU_t, mkU_n]
    by_cases h6 : v < 6
    · simp only [h6, decide_true, if_true, w_asO, w_ok, w_bind, w_up, w_upU, w_V0, w_VS, w_C, w_O1, w_O2, w_OA, w_OU, w_ix, w_call, w_nil, w_cons, w_dnil, w_dcons, w_tup, w_lst, w_lstM, w_dct0, w_if, w_and, w_or, w_not, w_tAnd, w_tOr, w_tNot, w_tB, w_tTru, w_chain, w_goN, w_goS, w_sl, w_attr, w_meth, uBl_b, uInt_i, s_nil, s_seq, s_drop, s_ret, s_retN, s_if, s_asg, s_par2, s_par3, s_asgT, s_break, s_cont, t_name, t_sub, t_attr, t_tup, t_nil, t_cons, set0, setS, s_for, w_giE, w_gir1, w_gir2, w_gizip, w_gienum, w_lc, Option.bind_some, Option.map_some, mkU_f, mkU_i, mkU_b, mkU_s, mkU_t, mkU_n]
      refine (ho (M + 1) c1 R false _ (xs.map D.str) hc1 (show M + 1 < 1000000000000 by omega) (.inl rfl) (by simpa using h0) (by simp; omega)).use ?_
      rintro y c2 hc2 hy
      obtain ⟨w, hw, rfl⟩ := List.mem_map.mp hy
      simp only [w_asO, w_ok, w_bind, w_up, w_upU, w_V0, w_VS, w_C, w_O1, w_O2, w_OA, w_OU, w_ix, w_call, w_nil, w_cons, w_dnil, w_dcons, w_tup, w_lst, w_lstM, w_dct0, w_if, w_and, w_or, w_not, w_tAnd, w_tOr, w_tNot, w_tB, w_tTru, w_chain, w_goN, w_goS, w_sl, w_attr, w_meth, uBl_b, uInt_i, s_nil, s_seq, s_drop, s_ret, s_retN, s_if, s_asg, s_par2, s_par3, s_asgT, s_break, s_cont, t_name, t_sub, t_attr, t_tup, t_nil, t_cons, set0, setS, s_for, w_giE, w_gir1, w_gir2, w_gizip, w_gienum, w_lc, Option.bind_some, Option.map_some, mkU_f, mkU_i, mkU_b, mkU_s, mkU_t, mkU_n, vw_d, vw_ref, fr_d, fr_ref, f1_d, f2_d, f1_u, f2_u, fA_1, fA_u, vws_nil, vws_cons, ixU_d, ixU_ref, cIx_l, cV_l, g0, gS, st0, stS, ix_l, ix_t, add_ii, sub_ii, eq_ii, cmp_ii, int_i, len_l, len_t, len_s]
      exact ⟨_, c2, [], rfl, by simp, hc2.mono (by omega), .inr (.inl ⟨w, hn w hw, rfl⟩)⟩
    · simp only [h6, decide_false, Bool.false_eq_true, if_false, w_asO, w_ok, w_bind, w_up, w_upU, w_V0, w_VS, w_C, w_O1, w_O2, w_OA, w_OU, w_ix, w_call, w_nil, w_cons, w_dnil, w_dcons, w_tup, w_lst, w_lstM, w_dct0, w_if, w_and, w_or, w_not, w_tAnd, w_tOr, w_tNot, w_tB, w_tTru, w_chain, w_goN, w_goS, w_sl, w_attr, w_meth, uBl_b, uInt_i, s_nil, s_seq, s_drop, s_ret, s_retN, s_if, s_asg, s_par2, s_par3, s_asgT, s_break, s_cont, t_name, t_sub, t_attr, t_tup, t_nil, t_cons, set0, setS, s_for, w_giE, w_gir1, w_gir2, w_gizip, w_gienum, w_lc, Option.bind_some, Option.map_some, mkU_f, mkU_i, mkU_b, mkU_s, mkU_t, mkU_n]
      refine (hso (M + 1) c1 R _ (xs.map D.str) hc1 (show M + 1 + _ < 1000000000000 by rw [List.length_map]; omega) (.inl rfl) (by simp; omega)).use ?_
      rintro y c2 hc2 ⟨es, rfl, hes⟩
      obtain ⟨ys, rfl, hys⟩ := sublist_strs hes
      have hl := hys.length_le
      simp only [w_asO, w_ok, w_bind, w_up, w_upU, w_V0, w_VS, w_C, w_O1, w_O2, w_OA, w_OU, w_ix, w_call, w_nil, w_cons, w_dnil, w_dcons, w_tup, w_lst, w_lstM, w_dct0, w_if, w_and, w_or, w_not, w_tAnd, w_tOr, w_tNot, w_tB, w_tTru, w_chain, w_goN, w_goS, w_sl, w_attr, w_meth, uBl_b, uInt_i, s_nil, s_seq, s_drop, s_ret, s_retN, s_if, s_asg, s_par2, s_par3, s_asgT, s_break, s_cont, t_name, t_sub, t_attr, t_tup, t_nil, t_cons, set0, setS, s_for, w_giE, w_gir1, w_gir2, w_gizip, w_gienum, w_lc, Option.bind_some, Option.map_some, mkU_f, mkU_i, mkU_b, mkU_s, mkU_t, mkU_n, vw_d, vw_ref, fr_d, fr_ref, f1_d, f2_d, f1_u, f2_u, fA_1, fA_u, vws_nil, vws_cons, ixU_d, ixU_ref, cIx_l, cV_l, g0, gS, st0, stS, ix_l, ix_t, add_ii, sub_ii, eq_ii, cmp_ii, int_i, len_l, len_t, len_s, sorted_strs (show ys.length < 64 by omega), tuple_l]
      refine ⟨_, c2, [], rfl, by simp, hc2.mono (by rw [List.length_map]; omega), .inr (.inr ⟨sortS ys, rfl, ?_, ?_, ?_⟩)⟩
      · rw [(sortS_perm ys).length_eq]; omega
      · exact (sortS_perm ys).nodup_iff.mpr (hys.nodup hnd)
      · exact fun w hw => hn w (hys.subset ((sortS_perm ys).mem_iff.mp hw))
/-! ### what is a step, what is none -/
def Good (y : D) : Prop := okD 60 y = true ∧ notFl y = true ∧ (∀ ds, y = .tup ds → ∀ x ∈ ds, notFl x = true)
theorem good_strs (n : Nat) (ws : List Str) : okD (n + 1) (.tup (ws.map D.str)) = true ∧ okD (n + 1) (.lst (ws.map D.str)) = true := ⟨okD_strs n ws, okD_strs n ws⟩
theorem good_tup {ds : List D} (h : ∀ x ∈ ds, okD 59 x = true ∧ notFl x = true) : Good (.tup ds) := by
  refine ⟨List.all_eq_true.mpr fun x hx => (h x hx).1, rfl, fun es e x hx => ?_⟩
  cases e
  exact (h x hx).2
theorem stepOf_1 (a : D) : stepOf (.tup [a]) = if sgl1 a then .tup [a] else .non := by simp only [stepOf]
theorem stepOf_2 (n : Str) (e : D) : stepOf (.tup [.str n, e]) = if n = "note" ∧ isNm e = true then .tup [.str n, e] else if n = "check" ∧ areW e = true then (match cSorted [e] with
    | some (.lst zs) => .tup [.str "check", .tup zs]
    | _ => .non) else .non := by
  simp only [stepOf]
  try rfl
theorem stepG_good {y : D} (h : StepG y) : Good y ∧ isNonD (stepOf y) = false := by
  rcases h with ⟨s, hs, rfl⟩ | ⟨w, hw, rfl⟩ | ⟨ws, rfl, h4, hnd, hn⟩
  · refine ⟨good_tup (by simp [okD, notFl]), ?_⟩
    have : sgl1 (.str s) = true := by
      simp only [List.mem_cons, List.not_mem_nil, or_false] at hs
      unfold sgl1
      simpa using hs
    rw [stepOf_1, if_pos this]; rfl
  · refine ⟨good_tup (by simp [okD, notFl]), ?_⟩
    rw [stepOf_2, if_pos ⟨rfl, hw⟩]; rfl
  · refine ⟨good_tup (by
      intro x hx
      simp only [List.mem_cons, List.not_mem_nil, or_false] at hx
      rcases hx with rfl | rfl
      · exact ⟨rfl, rfl⟩
      · exact ⟨(good_strs 58 ws).1, rfl⟩), ?_⟩
    have hw : areW (.tup (ws.map D.str)) = true := wordsB_ok h4 hn hnd
    have hc : cSorted [.tup (ws.map D.str)] = some (.lst ((sortS ws).map D.str)) := by
      show (strsD (ws.map D.str)).bind _ = _
      rw [strsD_ok]
      exact if_pos (by omega)
    rw [stepOf_2, if_neg (fun q => absurd q.1 (by decide)), if_pos ⟨rfl, hw⟩, hc]; rfl
def Bad (y : D) : Prop := Good y ∧ stepOf y = .non
theorem bad_nt {y : D} (h : okD 60 y = true) (hf : notFl y = true) (ht : isTu y = false) : Bad y := by
  refine ⟨⟨h, hf, fun ds e => by subst e; cases ht⟩, ?_⟩
  cases y <;> first | rfl | cases ht
theorem bad_str (x : Str) : Bad (.str x) := bad_nt rfl rfl rfl
theorem bad_two (n : Str) (e : D) (he : okD 59 e = true) (hf : notFl e = true) (h1 : n = "note" → isNm e = false) (h2 : n = "check" → areW e = false) : Bad (.tup [.str n, e]) := by
  refine ⟨good_tup (by
    intro x hx
    simp only [List.mem_cons, List.not_mem_nil, or_false] at hx
    rcases hx with rfl | rfl
    · exact ⟨rfl, rfl⟩
    · exact ⟨he, hf⟩), ?_⟩
  rw [stepOf_2, if_neg (fun q => by rw [h1 q.1] at q; cases q.2), if_neg (fun q => by rw [h2 q.1] at q; cases q.2)]
theorem bad_one (a : D) (ha : okD 59 a = true) (hf : notFl a = true) (h : sgl1 a = false) : Bad (.tup [a]) := by
  refine ⟨good_tup (by
    intro x hx
    rw [List.mem_singleton.mp hx]
    exact ⟨ha, hf⟩), ?_⟩
  rw [stepOf_1, h]; rfl
theorem any_bad : ∀ y ∈ anyL, Bad y := by
  intro y hy
  simp only [anyL, List.mem_cons, List.not_mem_nil, or_false] at hy
  rcases hy with rfl | rfl | rfl | rfl | rfl | rfl | rfl | rfl | rfl | rfl | rfl | rfl
  · exact bad_nt rfl rfl rfl
  · exact bad_nt rfl rfl rfl
  · exact bad_nt rfl rfl rfl
  · exact bad_nt rfl rfl rfl
  · exact bad_nt rfl rfl rfl
  · exact bad_nt rfl rfl rfl
  · exact ⟨good_tup (by simp), by simp only [stepOf]⟩
  · exact bad_nt rfl rfl rfl
  · exact ⟨good_tup (by simp [okD, notFl]), by simp only [stepOf]⟩
  · exact bad_nt rfl rfl rfl
  · exact bad_two _ _ rfl rfl (fun e => absurd e (by decide)) fun e => absurd e (by decide)
  · exact bad_nt rfl rfl rfl
/-- a drawn step twice, one behind another -/
theorem twice_bad {ds : List D} (h : StepG (.tup ds)) : Bad (.tup (ds ++ ds)) ∧ ds ≠ [] ∧ ds.length ≤ 2 := by
  rcases h with ⟨s, hs, e⟩ | ⟨w, hw, e⟩ | ⟨ws, e, h4, hnd, hn⟩
  · cases e
    refine ⟨bad_two s (.str s) rfl rfl (fun e => ?_) (fun e => rfl), by simp, by simp⟩
    subst e
    revert hs; decide
  · cases e
    exact ⟨⟨good_tup (by simp [okD, notFl]), by simp only [List.cons_append, List.nil_append, stepOf]⟩, by simp, by simp⟩
  · cases e
    refine ⟨⟨good_tup (by
      intro x hx
      simp only [List.cons_append, List.nil_append, List.mem_cons, List.not_mem_nil, or_false] at hx
      rcases hx with rfl | rfl | rfl | rfl
      · exact ⟨rfl, rfl⟩
      · exact ⟨(good_strs 58 ws).1, rfl⟩
      · exact ⟨rfl, rfl⟩
      · exact ⟨(good_strs 58 ws).1, rfl⟩), by simp only [List.cons_append, List.nil_append, stepOf]⟩, by simp, by simp⟩
end
end Dv
set_option maxRecDepth 100000
set_option maxHeartbeats 1000000
namespace Dv
open PySem PySem.Spec PyProof.Rows L2
noncomputable section
/-! ### sorted texts -/
theorem sortS_of_perm {xs ys : List Str} (h : xs.Perm ys) : sortS xs = sortS ys := sorted_uniq ((sortS_perm xs).trans (h.trans (sortS_perm ys).symm)) (sortS_pw xs) (sortS_pw ys)
theorem sortS_idem (xs : List Str) : sortS (sortS xs) = sortS xs := sortS_of_perm (sortS_perm xs)
theorem sortS_len (xs : List Str) : (sortS xs).length = xs.length := (sortS_perm xs).length_eq
theorem ddup_id {xs : List Str} (h : xs.Nodup) : (ddup [] xs).length = xs.length := by
  rw [ddup_nodupL xs [] h fun _ _ => by simp]; simp
/-! ### names -/
structure Nms (xs : List Str) : Prop where
  le : xs.length ≤ 4
  nd : xs.Nodup
  nm : ∀ x ∈ xs, nameB x = true
theorem Nms.perm {xs ys : List Str} (h : Nms xs) (p : ys.Perm xs) : Nms ys := ⟨by rw [p.length_eq]; exact h.le, p.nodup_iff.mpr h.nd, fun x hx => h.nm x (p.mem_iff.mp hx)⟩
theorem Nms.sub {xs ys : List Str} (h : Nms xs) (p : ys.Sublist xs) : Nms ys := ⟨Nat.le_trans p.length_le h.le, p.nodup h.nd, fun x hx => h.nm x (p.subset hx)⟩
theorem Nms.sort {xs : List Str} (h : Nms xs) : Nms (sortS xs) := h.perm (sortS_perm xs)
theorem Nms.words {xs : List Str} (h : Nms xs) : wordsB (xs.map D.str) = true := wordsB_ok h.le h.nm h.nd
/-! ### steps -/
inductive Stp where
  | one (s : Str)
  | note (w : Str)
  | check (ws : List Str)
  deriving DecidableEq
def Stp.d : Stp → D
  | .one s => .tup [.str s]
  | .note w => .tup [.str "note", .str w]
  | .check ws => .tup [.str "check", .tup (ws.map D.str)]
def Stp.ok : Stp → Prop
  | .one s => s = "take" ∨ s = "put" ∨ s = "give"
  | .note w => nameB w = true
  | .check ws => Nms ws ∧ sortS ws = ws
/-- the words of a step -/
def Stp.ws : Stp → List Str
  | .one _ => []
  | .note w => [w]
  | .check ws => ws
theorem map_str_inj {a b : List Str} (h : a.map D.str = b.map D.str) : a = b := by
  have := congrArg (List.map unS) h
  rwa [unS_map, unS_map] at this
theorem Stp.inj {a b : Stp} (h : a.d = b.d) : a = b := by
  cases a <;> cases b <;> simp only [Stp.d, D.tup.injEq, D.str.injEq, List.cons.injEq, and_true, true_and, reduceCtorEq, and_false] at h ⊢
  · rw [h]
  · rw [h]
  · rw [map_str_inj h]
theorem nrm_strs (xs : List Str) : (xs.map D.str).map nrm = xs.map D.str := by
  rw [List.map_map]; rfl
theorem map_d_inj : ∀ {a b : List Stp}, a.map Stp.d = b.map Stp.d → a = b
  | [], [], _ => rfl
  | [], _ :: _, h => by cases h
  | _ :: _, [], h => by cases h
  | x :: a, y :: b, h => by
    rw [List.map_cons, List.map_cons, List.cons.injEq] at h
    rw [Stp.inj h.1, map_d_inj h.2]
theorem Stp.nrm (a : Stp) : Dv.nrm a.d = a.d := by
  cases a with
  | one s => rfl
  | note w => rfl
  | check ws =>
    show D.tup [.str "check", .tup (nrmL (ws.map D.str))] = _
    rw [nrmL_map, nrm_strs]; rfl
theorem nrm_steps (xs : List Stp) : (xs.map Stp.d).map Dv.nrm = xs.map Stp.d := by
  rw [List.map_map]
  exact List.map_congr_left fun a _ => a.nrm
theorem Stp.okD (n : Nat) (a : Stp) : Dv.okD (n + 2) a.d = true := by
  cases a with
  | one s => rfl
  | note w => rfl
  | check ws =>
    show ([D.str "check", .tup (ws.map D.str)].all (Dv.okD (n + 1))) = true
    simp only [List.all_cons, List.all_nil, Bool.and_true, Dv.okD, okD_strs]
theorem okD_steps (n : Nat) (xs : List Stp) : (xs.map Stp.d).all (Dv.okD (n + 2)) = true := by
  rw [List.all_eq_true]
  intro d hd
  obtain ⟨x, _, rfl⟩ := List.mem_map.mp hd
  exact x.okD n
theorem memB_steps (a : Stp) (xs : List Stp) : memB a.d (xs.map Stp.d) = decide (a ∈ xs) := by
  rw [Bool.eq_iff_iff, memB_iff, nrm_steps, a.nrm, decide_eq_true_eq, List.mem_map]
  exact ⟨fun ⟨b, hb, e⟩ => Stp.inj e ▸ hb, fun h => ⟨a, h, rfl⟩⟩
theorem eqB_steps (a b : Stp) : eqB a.d b.d = decide (a = b) := by
  rw [Bool.eq_iff_iff, eqB_iff, a.nrm, b.nrm, decide_eq_true_eq]
  exact ⟨Stp.inj, fun h => by rw [h]⟩
theorem ni_steps (a : Stp) (xs : List Stp) : oNotIn a.d (.lst (xs.map Stp.d)) = some (.bl (!decide (a ∈ xs))) := by
  show (if (Dv.okD 60 a.d && (xs.map Stp.d).all (Dv.okD 59)) = true then some (memB a.d (xs.map Stp.d)) else none).map _ = _
  rw [okD_steps 57, a.okD 58, if_pos (show (true && true) = true from rfl), memB_steps]; rfl
theorem oEq_tt {as bs : List D} (h1 : Dv.okD 60 (.tup as) = true) (h2 : Dv.okD 60 (.tup bs) = true) : oEq (.tup as) (.tup bs) = some (.bl (eqB (.tup as) (.tup bs))) := by
  show (if Dv.okD 60 (.tup as) && Dv.okD 60 (.tup bs) then some (D.bl (eqB (.tup as) (.tup bs))) else none) = _
  rw [h1, h2]; rfl
theorem oNe_tt {as bs : List D} (h1 : Dv.okD 60 (.tup as) = true) (h2 : Dv.okD 60 (.tup bs) = true) : oNe (.tup as) (.tup bs) = some (.bl (!eqB (.tup as) (.tup bs))) := by
  show (if Dv.okD 60 (.tup as) && Dv.okD 60 (.tup bs) then some (D.bl (!eqB (.tup as) (.tup bs))) else none) = _
  rw [h1, h2]; rfl
theorem Stp.tup (a : Stp) : ∃ ds, a.d = .tup ds := by cases a <;> exact ⟨_, rfl⟩
theorem eq_steps (a b : Stp) : oEq a.d b.d = some (.bl (decide (a = b))) := by
  have h1 := a.okD 58
  have h2 := b.okD 58
  have h3 := eqB_steps a b
  obtain ⟨as, ea⟩ := a.tup
  obtain ⟨bs, eb⟩ := b.tup
  rw [ea] at h1 h3 ⊢
  rw [eb] at h2 h3 ⊢
  rw [oEq_tt h1 h2, h3]
theorem Stp.good (a : Stp) : Good a.d := by
  refine ⟨a.okD 58, by cases a <;> rfl, ?_⟩
  cases a <;> (intro ds e x hx; cases e; simp only [List.mem_cons, List.not_mem_nil, or_false] at hx)
  · subst hx; rfl
  · rcases hx with rfl | rfl <;> rfl
  · rcases hx with rfl | rfl <;> rfl
/-- a step, or a check with its words in another order, in a list or a tuple -/
def Passed (a : Stp) (y : D) : Prop := y = a.d ∨ ∃ ws ys : List Str, a = .check ws ∧ y = .tup [.str "check", .lst (ys.map D.str)] ∧ ys.Perm ws
theorem Passed.good {a : Stp} {y : D} (h : Passed a y) : Good y := by
  rcases h with rfl | ⟨ws, ys, rfl, rfl, hp⟩
  · exact a.good
  · refine good_tup ?_
    intro x hx
    simp only [List.mem_cons, List.not_mem_nil, or_false] at hx
    rcases hx with rfl | rfl
    · exact ⟨rfl, rfl⟩
    · exact ⟨(good_strs 58 ys).2, rfl⟩
theorem Passed.step {a : Stp} {y : D} (h : Passed a y) (ha : a.ok) : stepOf y = a.d := by
  rcases h with rfl | ⟨ws, ys, rfl, rfl, hp⟩
  · cases a with
    | one s =>
      have ha : s = "take" ∨ s = "put" ∨ s = "give" := ha
      show stepOf (.tup [.str s]) = _
      rw [stepOf_1, if_pos]
      · rfl
      · unfold sgl1; simpa using ha
    | note w =>
      show stepOf (.tup [.str "note", .str w]) = _
      rw [stepOf_2, if_pos ⟨rfl, ha⟩]; rfl
    | check ws =>
      have ha : Nms ws ∧ sortS ws = ws := ha
      have hc : cSorted [.tup (ws.map D.str)] = some (.lst ((sortS ws).map D.str)) := by
        show (strsD (ws.map D.str)).bind _ = _
        rw [strsD_ok]
        exact if_pos (by have := ha.1.le; omega)
      show stepOf (.tup [.str "check", .tup (ws.map D.str)]) = _
      rw [stepOf_2, if_neg (fun q => absurd q.1 (by decide)), if_pos ⟨rfl, show areW (.tup (ws.map D.str)) = true from ha.1.words⟩, hc, ha.2]; rfl
  · have ha : Nms ws ∧ sortS ws = ws := ha
    have hn := ha.1.perm hp
    rw [stepOf_2, if_neg (fun q => absurd q.1 (by decide)), if_pos ⟨rfl, show areW (.lst (ys.map D.str)) = true from hn.words⟩, sorted_strs (by have := hn.le; omega), sortS_of_perm hp, ha.2]; rfl
theorem Stp.nn (a : Stp) : isNonD a.d = false := by cases a <;> rfl
/-! ### deeds -/
structure Dd where
  when : List Str
  steps : List Stp
  ask : Str
  deriving DecidableEq
def asks : List Str := ["none", "look", "seek"]
structure Dd.ok (d : Dd) : Prop where
  w : Nms d.when
  srt : sortS d.when = d.when
  le : d.steps.length ≤ 5
  st : ∀ s ∈ d.steps, s.ok
  ask : d.ask ∈ asks
def Dd.stD (d : Dd) : List D := d.steps.map Stp.d
def Dd.law (d : Dd) : D := .tup [.lst (d.when.map D.str), .lst (d.steps.map Stp.d), .str d.ask]
def Dd.own (d : Dd) : D := .ins "Deed" [("own_when", .lst (d.when.map D.str)), ("own_steps", .lst (d.steps.map Stp.d)), ("own_ask", .str d.ask)]
def Dd.flat (d : Dd) : List Str := d.when ++ (d.steps.map Stp.ws).flatten
def Dd.words (d : Dd) : List Str := sortS (ddup [] d.flat)
def Dd.takes (d : Dd) : Nat := d.steps.countP (fun s => decide (s = .one "take")) + (if d.ask = "seek" then 1 else 0)
def Dd.quiet (d : Dd) : Bool := decide (d.ask = "none") && (!decide (.one "take" ∈ d.steps) && !decide (.one "give" ∈ d.steps))
theorem Dd.okL (d : Dd) : Dv.okD 60 d.law = true := by
  show ([D.lst (d.when.map D.str), .lst (d.steps.map Stp.d), .str d.ask].all (Dv.okD 59)) = true
  simp only [List.all_cons, List.all_nil, Bool.and_true, Dv.okD, okD_strs, okD_steps 56]
theorem Dd.nrm (d : Dd) : Dv.nrm d.law = d.law := by
  show D.tup [.lst (nrmL (d.when.map D.str)), .lst (nrmL (d.steps.map Stp.d)), .str d.ask] = _
  rw [nrmL_map, nrmL_map, nrm_strs, nrm_steps]; rfl
theorem Dd.inj {a b : Dd} (h : a.law = b.law) : a = b := by
  obtain ⟨a1, a2, a3⟩ := a
  obtain ⟨b1, b2, b3⟩ := b
  simp only [Dd.law, D.tup.injEq, List.cons.injEq, D.lst.injEq, D.str.injEq, and_true] at h
  obtain ⟨h1, h2, h3⟩ := h
  have := map_str_inj h1
  have e2 : a2 = b2 := by
    exact map_d_inj h2
  subst this; subst e2; subst h3; rfl
theorem Dd.eq (a b : Dd) : oEq a.law b.law = some (.bl (decide (a = b))) := by
  rw [Dd.law, Dd.law, oEq_tt a.okL b.okL]
  congr 2
  rw [Bool.eq_iff_iff, eqB_iff, decide_eq_true_eq]
  rw [show Dv.nrm (.tup [.lst (a.when.map D.str), .lst (a.steps.map Stp.d), .str a.ask]) = a.law from a.nrm, show Dv.nrm (.tup [.lst (b.when.map D.str), .lst (b.steps.map Stp.d), .str b.ask]) = b.law from b.nrm]
  exact ⟨Dd.inj, fun h => by rw [h]⟩
theorem Dd.ne (a b : Dd) : oNe a.law b.law = some (.bl (!decide (a = b))) := by
  have h := Dd.eq a b
  rw [Dd.law, Dd.law, oEq_tt a.okL b.okL] at h
  injection h with h
  injection h with h
  rw [Dd.law, Dd.law, oNe_tt a.okL b.okL, h]
/-! what the table says of the class -/
structure DeedTab (T : Tab) : Prop where
  when : T.mth "Deed" "when" = some "Deed.when"
  steps : T.mth "Deed" "steps" = some "Deed.steps"
  words : T.mth "Deed" "words" = some "Deed.words"
  len : T.mth "Deed" "__len__" = some "Deed.__len__"
  eq : T.mth "Deed" "__eq__" = some "Deed.__eq__"
  repr : T.mth "Deed" "__repr__" = some "Deed.__repr__"
  ask : T.prp "Deed" "ask" = some "Deed.ask"
  takes : T.prp "Deed" "takes" = some "Deed.takes"
  quiet : T.prp "Deed" "quiet" = some "Deed.quiet"
  p1 : T.prp "Deed" "own_when" = none
  p2 : T.prp "Deed" "own_steps" = none
  p3 : T.prp "Deed" "own_ask" = none
  f1 : T.fld "Deed" "own_when" = true
  f2 : T.fld "Deed" "own_steps" = true
  f3 : T.fld "Deed" "own_ask" = true
  kd : T.kit (.c "Deed") (.gl "Deed") = some true
  kb : ∀ t ∈ tysA, T.kit (.b t) (.gl "Deed") = some false
section
variable {T : Tab} {S : Store} {X : XQ} {Q : U → Store → Prop}
theorem at_when (h : DeedTab T) (d : Dd) : (attrR T "own_when" (.d d.own) S).sat X Q = Q (.d (.lst (d.when.map D.str))) S := attr_fld h.p1 h.f1 rfl
theorem at_steps (h : DeedTab T) (d : Dd) : (attrR T "own_steps" (.d d.own) S).sat X Q = Q (.d (.lst (d.steps.map Stp.d))) S := attr_fld h.p2 h.f2 rfl
theorem at_ask (h : DeedTab T) (d : Dd) : (attrR T "own_ask" (.d d.own) S).sat X Q = Q (.d (.str d.ask)) S := attr_fld h.p3 h.f3 rfl
end
end
end Dv
set_option maxRecDepth 100000
set_option maxHeartbeats 1000000
namespace Dv
open PySem PySem.Spec PyProof.Rows L2
noncomputable section
/-! ### a list, by value or in the store -/
def Lq (S : Store) (u : U) (ds : List D) : Prop := u = .d (.lst ds) ∨ ∃ n, u = .ref n ∧ S[n]? = some (.lst ds)
theorem Lq.app {S : Store} {u : U} {ds : List D} (h : Lq S u ds) (L : Store) : Lq (S ++ L) u ds := by
  rcases h with rfl | ⟨n, rfl, e⟩
  · exact .inl rfl
  · exact .inr ⟨n, rfl, by rw [List.getElem?_append_left (List.getElem?_eq_some_iff.mp e).1]; exact e⟩
theorem Lq.vw {S : Store} {u : U} {ds : List D} (h : Lq S u ds) : vw S u = some (.lst ds) := by
  rcases h with rfl | ⟨n, rfl, e⟩
  · rfl
  · rw [vw_ref, e]; rfl
theorem Lq.src {S : Store} {u : U} {ds : List D} (h : Lq S u ds) : ∃ s, seqSrc S u = some (false, s) ∧ ∀ S', Lq S' u ds → ∀ i, s i S' = some ((ds[i]?).map U.d) := by
  rcases h with rfl | ⟨n, rfl, e⟩
  · exact ⟨_, rfl, fun S' _ i => rfl⟩
  · refine ⟨srcCell n, ?_, ?_⟩
    · unfold seqSrc; dsimp only; rw [e]
    · rintro S' (h | ⟨m, h, e'⟩) i
      · cases h
      · cases h
        unfold srcCell
        rw [e']
        show some ((ds.map U.d)[i]?) = _
        rw [List.getElem?_map]
theorem Lq.enum {S : Store} {u : U} {ds : List D} (h : Lq S u ds) : ∃ s, enumOf S [u] = some s ∧ ∀ S', Lq S' u ds → ∀ i, i ≤ ds.length → s i S' = if i < ds.length then some (some (.d (.tup [.int i, ds.getD i .non]))) else some none := by
  obtain ⟨s, h1, h2⟩ := h.src
  refine ⟨srcEnum s, ?_, ?_⟩
  · unfold enumOf; dsimp only; rw [h1]
  · intro S' h' i hi
    unfold srcEnum
    rw [h2 S' h' i]
    by_cases q : i < ds.length
    · rw [if_pos q]; simp [q]
    · rw [if_neg q]; simp [q]
theorem Lq.noI {S : Store} {u : U} {ds : List D} (h : Lq S u ds) : noI S u = true := by
  rcases h with rfl | ⟨n, rfl, e⟩
  · rfl
  · rw [noI_r, e]; rfl
theorem Lq.iter {S : Store} {u : U} {ds : List D} (h : Lq S u ds) : ∃ s, iterU S u = some s ∧ ∀ S', Lq S' u ds → ∀ i, i ≤ ds.length → s i S' = if i < ds.length then some (some (.d (ds.getD i .non))) else some none := by
  obtain ⟨s, h1, h2⟩ := h.src
  refine ⟨s, ?_, ?_⟩
  · rcases h with rfl | ⟨n, rfl, e⟩
    · show (seqSrc S (.d (.lst ds))).map _ = _
      rw [h1]; rfl
    · show (seqSrc S (.ref n)).map _ = _
      rw [h1]; rfl
  · intro S' h' i hi
    rw [h2 S' h' i]
    by_cases q : i < ds.length
    · rw [if_pos q]; simp [q]
    · rw [if_neg q]; simp [q]
theorem sl_take (i : Nat) (ds : List D) : dSl none (some (i : Int)) (.lst ds) = some (.lst (ds.take i)) := by
  show some (D.lst (cutD ds none (some (i : Int)))) = _
  unfold cutD
  have e0 : HT.sIx ds.length 0 none = 0 := rfl
  have e1 : HT.sIx ds.length ds.length (some (i : Int)) = min i ds.length := by
    unfold HT.sIx
    simp only []
    split <;> omega
  rw [e0, e1]
  simp [List.take_eq_take_iff]
def NeedOk (C : Cs) : Prop := ∀ (u : U) (xs : List Str) (S : Store), Lq S u (xs.map D.str) → Nms xs → C "need_words" false [] [u] [] S = .ok (.d .non) S
theorem not_in_take {xs : List Str} (h : xs.Nodup) {i : Nat} (hi : i < xs.length) : xs[i] ∉ xs.take i := by
  intro hm
  obtain ⟨j, hj, e⟩ := List.mem_take_iff_getElem.mp hm
  exact List.pairwise_iff_getElem.mp h j i (by omega) hi (by omega) e
theorem need_B {T : Tab} (h1 : IsNameOk T.call) (u : U) (xs : List Str) (S : Store) (hu : Lq S u (xs.map D.str)) (hx : Nms xs) : cutR false S (endR (B_need_words T false [some u, none, none] S)) = .ok (.d .non) S := by
  refine cut_val ?_
  rw [w_end]
  unfold B_need_words
  obtain ⟨s, e1, e2⟩ := hu.enum
  simp only [w_asO, w_ok, w_bind, w_up, w_upU, w_V0, w_VS, w_C, w_O1, w_O2, w_OA, w_OU, w_ix, w_call, w_nil, w_cons, w_dnil, w_dcons, w_tup, w_lst, w_lstM, w_dct0, w_if, w_and, w_or, w_not, w_tAnd, w_tOr, w_tNot, w_tB, w_tTru, w_chain, w_goN, w_goS, w_sl, w_attr, w_meth, uBl_b, uInt_i, s_nil, s_seq, s_drop, s_ret, s_retN, s_if, s_asg, s_par2, s_par3, s_asgT, s_break, s_cont, t_name, t_sub, t_attr, t_tup, t_nil, t_cons, set0, setS, s_for, w_giE, w_gir1, w_gir2, w_gizip, w_gienum, w_lc, Option.bind_some, Option.map_some, mkU_f, mkU_i, mkU_b, mkU_s, mkU_t, mkU_n, w_OR, w_cmp, w_bin, w_truO, w_jn, w_js, w_spl, t_star, strU_s, e1]
  refine forGo_sat (xs.map D.str).length _ (fun i ρ S' => ∃ o1 o2 : Option U, ρ = [some u, o1, o2] ∧ S' = S) (fun i ρ S' hi hI => by obtain ⟨_, _, _, rfl⟩ := hI; exact e2 _ hu i hi) ?_ ?_ _ 0 lim _ _ rfl (Nat.zero_le _) (by have := hx.le; have := lim_big; simp; omega) ⟨none, none, rfl, rfl⟩
  · rintro i ρ S' hi ⟨o1, o2, rfl, rfl⟩
    have hi' : i < xs.length := by simpa using hi
    have hg : (xs.map D.str).getD i .non = .str xs[i] := by
      rw [List.getD_eq_getElem?_getD, List.getElem?_map, List.getElem?_eq_getElem hi']; rfl
    have hn : isNm (.str xs[i]) = true := hx.nm _ (List.getElem_mem hi')
    have hni : decide (xs[i] ∈ xs.take i) = false := decide_eq_false (not_in_take hx.nd hi')
    rw [hg]
    simp only [w_asO, w_ok, w_bind, w_up, w_upU, w_V0, w_VS, w_C, w_O1, w_O2, w_OA, w_OU, w_ix, w_call, w_nil, w_cons, w_dnil, w_dcons, w_tup, w_lst, w_lstM, w_dct0, w_if, w_and, w_or, w_not, w_tAnd, w_tOr, w_tNot, w_tB, w_tTru, w_chain, w_goN, w_goS, w_sl, w_attr, w_meth, uBl_b, uInt_i, s_nil, s_seq, s_drop, s_ret, s_retN, s_if, s_asg, s_par2, s_par3, s_asgT, s_break, s_cont, t_name, t_sub, t_attr, t_tup, t_nil, t_cons, set0, setS, s_for, w_giE, w_gir1, w_gir2, w_gizip, w_gienum, w_lc, Option.bind_some, Option.map_some, mkU_f, mkU_i, mkU_b, mkU_s, mkU_t, mkU_n, w_OR, w_cmp, w_bin, w_truO, w_jn, w_js, w_spl, t_star, strU_s, it_tup, List.map_cons, List.map_nil, List.length_cons, List.length_nil, h1 false (.str xs[i]) _ rfl, hn, vw_d, vw_ref, fr_d, fr_ref, f1_d, f2_d, f1_u, f2_u, fA_1, fA_u, vws_nil, vws_cons, ixU_d, ixU_ref, cIx_l, cV_l, g0, gS, st0, stS, ix_l, ix_t, add_ii, sub_ii, eq_ii, cmp_ii, int_i, len_l, len_t, len_s, noI_d, noI_r, ni_int, ni_str, ni_bl, ni_non, ni_tup, ni_lst, nc_lst, nc_lsu, cmp_eq, cmp_ne, cmp_in, cmp_ni, bin_no, tru_no, lenR_no, Option.elim_some, tru_bl, Bool.not_true, Bool.false_eq_true, if_false, hu.vw, sl_take, ← List.map_take, in_strs, hni]
    exact ⟨trivial, _, _, rfl, trivial⟩
  · rintro ρ S' ⟨o1, o2, rfl, rfl⟩
    have hl := hx.le
    have hlt : decide ((4 : Int) < (xs.length : Int)) = false := decide_eq_false (by omega)
    simp only [w_asO, w_ok, w_bind, w_up, w_upU, w_V0, w_VS, w_C, w_O1, w_O2, w_OA, w_OU, w_ix, w_call, w_nil, w_cons, w_dnil, w_dcons, w_tup, w_lst, w_lstM, w_dct0, w_if, w_and, w_or, w_not, w_tAnd, w_tOr, w_tNot, w_tB, w_tTru, w_chain, w_goN, w_goS, w_sl, w_attr, w_meth, uBl_b, uInt_i, s_nil, s_seq, s_drop, s_ret, s_retN, s_if, s_asg, s_par2, s_par3, s_asgT, s_break, s_cont, t_name, t_sub, t_attr, t_tup, t_nil, t_cons, set0, setS, s_for, w_giE, w_gir1, w_gir2, w_gizip, w_gienum, w_lc, Option.bind_some, Option.map_some, mkU_f, mkU_i, mkU_b, mkU_s, mkU_t, mkU_n, w_OR, w_cmp, w_bin, w_truO, w_jn, w_js, w_spl, t_star, strU_s, vw_d, vw_ref, fr_d, fr_ref, f1_d, f2_d, f1_u, f2_u, fA_1, fA_u, vws_nil, vws_cons, ixU_d, ixU_ref, cIx_l, cV_l, g0, gS, st0, stS, ix_l, ix_t, add_ii, sub_ii, eq_ii, cmp_ii, int_i, len_l, len_t, len_s, noI_d, noI_r, ni_int, ni_str, ni_bl, ni_non, ni_tup, ni_lst, nc_lst, nc_lsu, cmp_eq, cmp_ne, cmp_in, cmp_ni, bin_no, tru_no, lenR_no, Option.elim_some, hu.vw, List.length_map, hlt, Bool.false_eq_true, if_false]
    exact ⟨trivial, [], by simp⟩
/-! ### a deed is made -/
theorem put_ins {T : Tab} {S : Store} {c f : Str} {fs : List (Str × U)} {d : U} (h : T.fld c f = true) (hl : fs.length < 1000) : attrPut T (S ++ [.ins c fs]) (.ref S.length) f d = some (S ++ [.ins c (setF f d fs)]) := by
  unfold attrPut
  dsimp only
  rw [gE]
  dsimp only
  rw [if_pos ⟨h, hl⟩, stE]
theorem cut_ini {c : Str} {fs : List (Str × D)} {S : Store} {r : R U} {mu : Bool} (h : r.sat noX fun u S' => u = .d .non ∧ S' = S ++ [.ins c (dFs fs)]) : cutR mu (S ++ [.ins c []]) r = .ok (.d .non) (S ++ [.ins c (dFs fs)]) := by
  obtain ⟨u, S', rfl, rfl, rfl⟩ := h.ex
  rw [cut_d]
  · rw [show (S ++ [Cell.ins c []]).length = (S ++ [Cell.ins c (dFs fs)]).length by simp, List.take_length]
  · refine ⟨by simp, fun j d hj e => ?_⟩
    by_cases q : j < S.length
    · left
      rw [List.getElem?_append_left q] at e ⊢
      exact e
    · have : j = S.length := by simp at hj; omega
      subst this
      rw [gE] at e
      cases e
      exact .inr (dFs_ok _ _)
def Dd.fs (d : Dd) : List (Str × D) := [("own_when", .lst (d.when.map D.str)), ("own_steps", .lst (d.steps.map Stp.d)), ("own_ask", .str d.ask)]
def InitOk (C : Cs) : Prop := ∀ (S : Store) (u : U) (xs : List Str) (ds : List D) (d : Dd) (ks : List Str) (ws : List U), (ks = [("ask" : Str)] ∧ ws = [.d (.str d.ask)] ∨ ks = [] ∧ ws = [] ∧ d.ask = "none") → Lq S u (xs.map D.str) → xs.Perm d.when → d.ok → (∀ x ∈ ds, Good x) → ds.map stepOf = d.steps.map Stp.d →
  C "Deed.__init__" false ks (.ref S.length :: u :: ds.map U.d) ws (S ++ [.ins "Deed" []]) = .ok (.d .non) (S ++ [.ins "Deed" (dFs d.fs)])
theorem ask_in {a : Str} (h : a ∈ asks) : oNotIn (.str a) (.tup [.str "none", .str "look", .str "seek"]) = some (.bl false) := by
  show (if (okD 60 (D.str a) && (asks.map D.str).all (okD 59)) = true then some (memB (.str a) (asks.map D.str)) else none).map _ = _
  rw [okD_strs, show (okD 60 (D.str a) && true) = true from rfl, if_pos rfl, memB_strs, decide_eq_true h]; rfl
theorem init_B {T : Tab} (hT : DeedTab T) (hk : KitB T.kit) (h1 : NeedOk T.call) (h2 : StepOfOk T.call) (S : Store) (u : U) (xs : List Str) (ds : List D) (d : Dd) (hu : Lq S u (xs.map D.str)) (hp : xs.Perm d.when) (hd : d.ok) (hg : ∀ x ∈ ds, Good x) (hs : ds.map stepOf = d.steps.map Stp.d) :
    cutR false (S ++ [.ins "Deed" []]) (endR (B_Deed___init__ T false [some (.ref S.length), some u, some (.d (.str d.ask)), some (.d (.tup ds)), none, none, none] (S ++ [.ins "Deed" []]))) = .ok (.d .non) (S ++ [.ins "Deed" (dFs d.fs)]) := by
  refine cut_ini ?_
  rw [w_end]
  unfold B_Deed___init__
  have hu' := hu.app [.ins "Deed" []]
  have hn := hd.w.perm hp
  have hl : ds.length = d.steps.length := by simpa using congrArg List.length hs
  have h5 := hd.le
  have hlt : decide ((5 : Int) < (ds.length : Int)) = false := decide_eq_false (by omega)
  simp only [w_asO, w_ok, w_bind, w_up, w_upU, w_V0, w_VS, w_C, w_O1, w_O2, w_OA, w_OU, w_ix, w_call, w_nil, w_cons, w_dnil, w_dcons, w_tup, w_lst, w_lstM, w_dct0, w_if, w_and, w_or, w_not, w_tAnd, w_tOr, w_tNot, w_tB, w_tTru, w_chain, w_goN, w_goS, w_sl, w_attr, w_meth, uBl_b, uInt_i, s_nil, s_seq, s_drop, s_ret, s_retN, s_if, s_asg, s_par2, s_par3, s_asgT, s_break, s_cont, t_name, t_sub, t_attr, t_tup, t_nil, t_cons, set0, setS, s_for, w_giE, w_gir1, w_gir2, w_gizip, w_gienum, w_lc, Option.bind_some, Option.map_some, mkU_f, mkU_i, mkU_b, mkU_s, mkU_t, mkU_n, w_OR, w_cmp, w_bin, w_truO, w_jn, w_js, w_spl, t_star, strU_s, vw_d, vw_ref, fr_d, fr_ref, f1_d, f2_d, f1_u, f2_u, fA_1, fA_u, vws_nil, vws_cons, ixU_d, ixU_ref, cIx_l, cV_l, g0, gS, st0, stS, ix_l, ix_t, add_ii, sub_ii, eq_ii, cmp_ii, int_i, len_l, len_t, len_s, noI_d, noI_r, ni_int, ni_str, ni_bl, ni_non, ni_tup, ni_lst, nc_lst, nc_lsu, cmp_eq, cmp_ne, cmp_in, cmp_ni, bin_no, tru_no, lenR_no, Option.elim_some, h1 u xs _ hu' hn, hlt, Bool.false_eq_true, if_false, iter_t]
  refine lc_pure (p := fun _ => true) (f := stepOf) (by omega) ?_ ?_
  · intro x hx L
    refine ⟨_, rfl, rfl, fun _ => ?_⟩
    have g := hg x hx
    refine R.sat.eq ?_
    simp only [wipeD, setAll, List.map_cons, List.map_nil, set0, setS, w_asO, w_ok, w_bind, w_up, w_upU, w_V0, w_VS, w_C, w_O1, w_O2, w_OA, w_OU, w_ix, w_call, w_nil, w_cons, w_dnil, w_dcons, w_tup, w_lst, w_lstM, w_dct0, w_if, w_and, w_or, w_not, w_tAnd, w_tOr, w_tNot, w_tB, w_tTru, w_chain, w_goN, w_goS, w_sl, w_attr, w_meth, uBl_b, uInt_i, s_nil, s_seq, s_drop, s_ret, s_retN, s_if, s_asg, s_par2, s_par3, s_asgT, s_break, s_cont, t_name, t_sub, t_attr, t_tup, t_nil, t_cons, set0, setS, s_for, w_giE, w_gir1, w_gir2, w_gizip, w_gienum, w_lc, Option.bind_some, Option.map_some, mkU_f, mkU_i, mkU_b, mkU_s, mkU_t, mkU_n, w_OR, w_cmp, w_bin, w_truO, w_jn, w_js, w_spl, t_star, strU_s, h2 false x _ g.1 g.2.1 g.2.2]
    exact ⟨trivial, trivial⟩
  · rw [filter_all, hs]
    have e4 : enumOf (S ++ [Cell.ins "Deed" []]) [U.d (.lst (d.steps.map Stp.d))] = some (srcEnum (srcItems (d.steps.map Stp.d))) := rfl
    simp only [w_asO, w_ok, w_bind, w_up, w_upU, w_V0, w_VS, w_C, w_O1, w_O2, w_OA, w_OU, w_ix, w_call, w_nil, w_cons, w_dnil, w_dcons, w_tup, w_lst, w_lstM, w_dct0, w_if, w_and, w_or, w_not, w_tAnd, w_tOr, w_tNot, w_tB, w_tTru, w_chain, w_goN, w_goS, w_sl, w_attr, w_meth, uBl_b, uInt_i, s_nil, s_seq, s_drop, s_ret, s_retN, s_if, s_asg, s_par2, s_par3, s_asgT, s_break, s_cont, t_name, t_sub, t_attr, t_tup, t_nil, t_cons, set0, setS, s_for, w_giE, w_gir1, w_gir2, w_gizip, w_gienum, w_lc, Option.bind_some, Option.map_some, mkU_f, mkU_i, mkU_b, mkU_s, mkU_t, mkU_n, w_OR, w_cmp, w_bin, w_truO, w_jn, w_js, w_spl, t_star, strU_s, e4]
    obtain ⟨s, e1, e2⟩ := (show Lq (S ++ [Cell.ins "Deed" []]) (U.d (.lst (d.steps.map Stp.d))) (d.steps.map Stp.d) from .inl rfl).enum
    rw [e4] at e1
    cases e1
    refine forGo_sat (d.steps.map Stp.d).length _ (fun i ρ S' => ∃ o5 o6 : Option U, ρ = [some (.ref S.length), some u, some (.d (.str d.ask)), some (.d (.tup ds)), some (.d (.lst (d.steps.map Stp.d))), o5, o6] ∧ S' = S ++ [.ins "Deed" []]) (fun i ρ S' hi hI => by obtain ⟨_, _, _, rfl⟩ := hI; exact e2 _ (.inl rfl) i hi) ?_ ?_ _ 0 lim _ _ rfl (Nat.zero_le _) (by have := lim_big; simp; omega) ⟨none, none, rfl, rfl⟩
    · rintro i ρ S' hi ⟨o5, o6, rfl, rfl⟩
      have hm := getD_mem (d := D.non) hi
      obtain ⟨a, ha, e⟩ := List.mem_map.mp hm
      rw [← e]
      simp only [w_asO, w_ok, w_bind, w_up, w_upU, w_V0, w_VS, w_C, w_O1, w_O2, w_OA, w_OU, w_ix, w_call, w_nil, w_cons, w_dnil, w_dcons, w_tup, w_lst, w_lstM, w_dct0, w_if, w_and, w_or, w_not, w_tAnd, w_tOr, w_tNot, w_tB, w_tTru, w_chain, w_goN, w_goS, w_sl, w_attr, w_meth, uBl_b, uInt_i, s_nil, s_seq, s_drop, s_ret, s_retN, s_if, s_asg, s_par2, s_par3, s_asgT, s_break, s_cont, t_name, t_sub, t_attr, t_tup, t_nil, t_cons, set0, setS, s_for, w_giE, w_gir1, w_gir2, w_gizip, w_gienum, w_lc, Option.bind_some, Option.map_some, mkU_f, mkU_i, mkU_b, mkU_s, mkU_t, mkU_n, w_OR, w_cmp, w_bin, w_truO, w_jn, w_js, w_spl, t_star, strU_s, it_tup, List.map_cons, List.map_nil, List.length_cons, List.length_nil, vw_d, vw_ref, fr_d, fr_ref, f1_d, f2_d, f1_u, f2_u, fA_1, fA_u, vws_nil, vws_cons, ixU_d, ixU_ref, cIx_l, cV_l, g0, gS, st0, stS, ix_l, ix_t, add_ii, sub_ii, eq_ii, cmp_ii, int_i, len_l, len_t, len_s, noI_d, noI_r, ni_int, ni_str, ni_bl, ni_non, ni_tup, ni_lst, nc_lst, nc_lsu, cmp_eq, cmp_ne, cmp_in, cmp_ni, bin_no, tru_no, lenR_no, Option.elim_some, is_non, a.nn, Bool.false_eq_true, if_false]
      exact ⟨trivial, _, _, rfl, trivial⟩
    · rintro ρ S' ⟨o5, o6, rfl, rfl⟩
      have p1 : ∀ d, attrPut T (S ++ [.ins "Deed" []]) (.ref S.length) "own_when" d = some (S ++ [.ins "Deed" [("own_when", d)]]) := fun d => put_ins hT.f1 (by simp)
      have p2 : ∀ a d, attrPut T (S ++ [.ins "Deed" [("own_when", a)]]) (.ref S.length) "own_steps" d = some (S ++ [.ins "Deed" [("own_when", a), ("own_steps", d)]]) := fun a d => put_ins hT.f2 (by simp)
      have p3 : ∀ a b d, attrPut T (S ++ [.ins "Deed" [("own_when", a), ("own_steps", b)]]) (.ref S.length) "own_ask" d = some (S ++ [.ins "Deed" [("own_when", a), ("own_steps", b), ("own_ask", d)]]) := fun a b d => put_ins hT.f3 (by simp)
      have hc : sortS xs = d.when := by rw [sortS_of_perm hp, hd.srt]
      simp only [w_asO, w_ok, w_bind, w_up, w_upU, w_V0, w_VS, w_C, w_O1, w_O2, w_OA, w_OU, w_ix, w_call, w_nil, w_cons, w_dnil, w_dcons, w_tup, w_lst, w_lstM, w_dct0, w_if, w_and, w_or, w_not, w_tAnd, w_tOr, w_tNot, w_tB, w_tTru, w_chain, w_goN, w_goS, w_sl, w_attr, w_meth, uBl_b, uInt_i, s_nil, s_seq, s_drop, s_ret, s_retN, s_if, s_asg, s_par2, s_par3, s_asgT, s_break, s_cont, t_name, t_sub, t_attr, t_tup, t_nil, t_cons, set0, setS, s_for, w_giE, w_gir1, w_gir2, w_gizip, w_gienum, w_lc, Option.bind_some, Option.map_some, mkU_f, mkU_i, mkU_b, mkU_s, mkU_t, mkU_n, w_OR, w_cmp, w_bin, w_truO, w_jn, w_js, w_spl, t_star, strU_s, vw_d, vw_ref, fr_d, fr_ref, f1_d, f2_d, f1_u, f2_u, fA_1, fA_u, vws_nil, vws_cons, ixU_d, ixU_ref, cIx_l, cV_l, g0, gS, st0, stS, ix_l, ix_t, add_ii, sub_ii, eq_ii, cmp_ii, int_i, len_l, len_t, len_s, noI_d, noI_r, ni_int, ni_str, ni_bl, ni_non, ni_tup, ni_lst, nc_lst, nc_lsu, cmp_eq, cmp_ne, cmp_in, cmp_ni, bin_no, tru_no, lenR_no, Option.elim_some, isi_str hk _ (x := .str d.ask) rfl, isSt, tru_bl, Bool.not_true, Bool.false_eq_true, if_false, ask_in hd.ask, hu'.vw, sorted_strs (show xs.length < 64 by have := hn.le; omega), hc, p1, p2, p3]
      exact ⟨trivial, rfl⟩
end
end Dv
set_option maxRecDepth 100000
set_option maxHeartbeats 1000000
namespace Dv
open PySem PySem.Spec PyProof.Rows L2
noncomputable section
/-! ### own lists behind a store -/
structure Own (S S' : Store) (n : Nat) (ds : List D) : Prop where
  ext : ∃ L, S' = S ++ L
  le : S.length ≤ n
  at_ : S'[n]? = some (.lst ds)
theorem Own.new {S : Store} (L : Store) (ds : List D) : Own S ((S ++ L) ++ [.lst ds]) (S ++ L).length ds := ⟨⟨L ++ [.lst ds], by simp⟩, by simp, gE _ _⟩
theorem Own.new0 {S : Store} (ds : List D) : Own S (S ++ [.lst ds]) S.length ds := ⟨⟨[.lst ds], rfl⟩, Nat.le_refl _, gE _ _⟩
theorem Own.put {S S' : Store} {n : Nat} {ds : List D} (h : Own S S' n ds) (es : List D) : Own S (S'.set n (.lst es)) n es := by
  obtain ⟨⟨L, rfl⟩, h2, h3⟩ := h
  have hn := (List.getElem?_eq_some_iff.mp h3).1
  refine ⟨⟨L.set (n - S.length) (.lst es), ?_⟩, h2, by rw [List.getElem?_set_self hn]⟩
  rw [List.set_append_right _ _ h2]
theorem Own.more {S S' : Store} {n : Nat} {ds : List D} (h : Own S S' n ds) (es : List D) : Own S (S' ++ [.lst es]) S'.length es := by
  obtain ⟨⟨L, rfl⟩, h2, h3⟩ := h
  exact Own.new L es
theorem Own.vw {S S' : Store} {n : Nat} {ds : List D} (h : Own S S' n ds) : vw S' (.ref n) = some (.lst ds) := by rw [vw_ref, h.at_]; rfl
theorem Own.noI {S S' : Store} {n : Nat} {ds : List D} (h : Own S S' n ds) : noI S' (.ref n) = true := by rw [noI_r, h.at_]; rfl
theorem Own.ty {S S' : Store} {n : Nat} {ds : List D} (h : Own S S' n ds) : tyOk S' (.ref n) "list" = true := by unfold tyOk tyU; dsimp only; rw [h.at_]; rfl
theorem Own.mth {T : Tab} {m : Str} {S S' : Store} {n : Nat} {ds : List D} (h : Own S S' n ds) : methKind T m (.ref n) S' = (mbFor m "list").map fun _ => .inr "list" := by rw [mk_ref, h.at_]; rfl
theorem Own.app {S S' : Store} {n : Nat} {ds : List D} (h : Own S S' n ds) (hl : ds.length < 1000000) (y : D) : mAppend false S' (.ref n) [.d y] = some (.d .non, S'.set n (.lst (ds ++ [y]))) := by
  show (appU S' n (.d y)).map _ = _
  have : appU S' n (.d y) = some (S'.set n (.lst (ds ++ [y]))) := by
    unfold appU
    rw [fr_d]
    dsimp only
    rw [h.at_]
    dsimp only
    rw [if_pos (show ds.length < sizeLine by rw [sizeLine_eq]; omega)]
  rw [this]; rfl
theorem Own.extd {S S' : Store} {n : Nat} {ds es : List D} (h : Own S S' n ds) (hl : ds.length + es.length < 1000000) {y : D} (hy : itemsD y = some es) : mExtend false S' (.ref n) [.d y] = some (.d .non, S'.set n (.lst (ds ++ es))) := by
  unfold mExtend
  dsimp only
  rw [vw_d, Option.bind_some, hy, Option.bind_some, h.at_]
  dsimp only
  rw [if_pos (by rw [sizeLine_eq]; omega)]
theorem Own.clear {S S' : Store} {n : Nat} {ds : List D} (h : Own S S' n ds) : mClear false S' (.ref n) [] = some (.d .non, S'.set n (.lst [])) := by
  unfold mClear
  dsimp only
  rw [h.at_]
theorem mb_extend : mbFor "extend" "list" = some mExtend := rfl
theorem mb_count : mbFor "count" "list" = some mCount := rfl
/-- a list is handed back -/
theorem cut_mk {mu : Bool} {S : Store} {r : R U} {ds : List D} (h : r.sat noX fun u S' => ∃ L, S' = (mkU mu (.lst ds) (S ++ L)).2 ∧ u = (mkU mu (.lst ds) (S ++ L)).1) : cutR mu S r = .ok (mkU mu (.lst ds) S).1 (mkU mu (.lst ds) S).2 := by
  obtain ⟨u, S', rfl, L, rfl, rfl⟩ := h.ex
  cases mu with
  | false =>
    show cutR false S (.ok (.d (.lst ds)) (S ++ L)) = .ok (.d (.lst ds)) S
    rw [cut_d (keep_app S L)]; simp
  | true =>
    show cutR true S (.ok (.ref (S ++ L).length) ((S ++ L) ++ [.lst ds])) = .ok (.ref S.length) (S ++ [.lst ds])
    rw [cut_rt (n := (S ++ L).length) (ds := ds) (by rw [List.append_assoc]; exact keep_app S _) (by simp) (gE _ _), List.append_assoc, List.take_left]
def GivesL (C : Cs) (q : Str) (u : U) (ds : List D) : Prop := ∀ (mu : Bool) (S : Store), C q mu [] [u] [] S = .ok (mkU mu (.lst ds) S).1 (mkU mu (.lst ds) S).2
def Gives (C : Cs) (q : Str) (u : U) (x : D) : Prop := ∀ (mu : Bool) (S : Store), C q mu [] [u] [] S = .ok (.d x) S
section
variable {T : Tab}
theorem when_B (h : DeedTab T) (d : Dd) (mu : Bool) (S : Store) : cutR mu S (endR (B_Deed_when T mu [some (.d d.own)] S)) = .ok (mkU mu (.lst (d.when.map D.str)) S).1 (mkU mu (.lst (d.when.map D.str)) S).2 := by
  refine cut_mk ?_
  rw [w_end]
  unfold B_Deed_when
  simp only [w_asO, w_ok, w_bind, w_up, w_upU, w_V0, w_VS, w_C, w_O1, w_O2, w_OA, w_OU, w_ix, w_call, w_nil, w_cons, w_dnil, w_dcons, w_tup, w_lst, w_lstM, w_dct0, w_if, w_and, w_or, w_not, w_tAnd, w_tOr, w_tNot, w_tB, w_tTru, w_chain, w_goN, w_goS, w_sl, w_attr, w_meth, uBl_b, uInt_i, s_nil, s_seq, s_drop, s_ret, s_retN, s_if, s_asg, s_par2, s_par3, s_asgT, s_break, s_cont, t_name, t_sub, t_attr, t_tup, t_nil, t_cons, set0, setS, s_for, w_giE, w_gir1, w_gir2, w_gizip, w_gienum, w_lc, Option.bind_some, Option.map_some, mkU_f, mkU_i, mkU_b, mkU_s, mkU_t, mkU_n, w_OR, w_cmp, w_bin, w_truO, w_jn, w_js, w_spl, t_star, strU_s, vw_d, vw_ref, fr_d, fr_ref, f1_d, f2_d, f1_u, f2_u, fA_1, fA_u, vws_nil, vws_cons, ixU_d, ixU_ref, cIx_l, cV_l, g0, gS, st0, stS, ix_l, ix_t, add_ii, sub_ii, eq_ii, cmp_ii, int_i, len_l, len_t, len_s, noI_d, noI_r, ni_int, ni_str, ni_bl, ni_non, ni_tup, ni_lst, nc_lst, nc_lsu, cmp_eq, cmp_ne, cmp_in, cmp_ni, bin_no, tru_no, lenR_no, Option.elim_some, at_when h, list_l]
  exact ⟨[], by simp, by simp⟩
theorem steps_B (h : DeedTab T) (d : Dd) (mu : Bool) (S : Store) : cutR mu S (endR (B_Deed_steps T mu [some (.d d.own)] S)) = .ok (mkU mu (.lst (d.steps.map Stp.d)) S).1 (mkU mu (.lst (d.steps.map Stp.d)) S).2 := by
  refine cut_mk ?_
  rw [w_end]
  unfold B_Deed_steps
  simp only [w_asO, w_ok, w_bind, w_up, w_upU, w_V0, w_VS, w_C, w_O1, w_O2, w_OA, w_OU, w_ix, w_call, w_nil, w_cons, w_dnil, w_dcons, w_tup, w_lst, w_lstM, w_dct0, w_if, w_and, w_or, w_not, w_tAnd, w_tOr, w_tNot, w_tB, w_tTru, w_chain, w_goN, w_goS, w_sl, w_attr, w_meth, uBl_b, uInt_i, s_nil, s_seq, s_drop, s_ret, s_retN, s_if, s_asg, s_par2, s_par3, s_asgT, s_break, s_cont, t_name, t_sub, t_attr, t_tup, t_nil, t_cons, set0, setS, s_for, w_giE, w_gir1, w_gir2, w_gizip, w_gienum, w_lc, Option.bind_some, Option.map_some, mkU_f, mkU_i, mkU_b, mkU_s, mkU_t, mkU_n, w_OR, w_cmp, w_bin, w_truO, w_jn, w_js, w_spl, t_star, strU_s, vw_d, vw_ref, fr_d, fr_ref, f1_d, f2_d, f1_u, f2_u, fA_1, fA_u, vws_nil, vws_cons, ixU_d, ixU_ref, cIx_l, cV_l, g0, gS, st0, stS, ix_l, ix_t, add_ii, sub_ii, eq_ii, cmp_ii, int_i, len_l, len_t, len_s, noI_d, noI_r, ni_int, ni_str, ni_bl, ni_non, ni_tup, ni_lst, nc_lst, nc_lsu, cmp_eq, cmp_ne, cmp_in, cmp_ni, bin_no, tru_no, lenR_no, Option.elim_some, at_steps h, list_l]
  exact ⟨[], by simp, by simp⟩
theorem ask_B (h : DeedTab T) (d : Dd) (mu : Bool) (S : Store) : cutR mu S (endR (B_Deed_ask T mu [some (.d d.own)] S)) = .ok (.d (.str d.ask)) S := by
  refine cut_val ?_
  rw [w_end]
  unfold B_Deed_ask
  simp only [w_asO, w_ok, w_bind, w_up, w_upU, w_V0, w_VS, w_C, w_O1, w_O2, w_OA, w_OU, w_ix, w_call, w_nil, w_cons, w_dnil, w_dcons, w_tup, w_lst, w_lstM, w_dct0, w_if, w_and, w_or, w_not, w_tAnd, w_tOr, w_tNot, w_tB, w_tTru, w_chain, w_goN, w_goS, w_sl, w_attr, w_meth, uBl_b, uInt_i, s_nil, s_seq, s_drop, s_ret, s_retN, s_if, s_asg, s_par2, s_par3, s_asgT, s_break, s_cont, t_name, t_sub, t_attr, t_tup, t_nil, t_cons, set0, setS, s_for, w_giE, w_gir1, w_gir2, w_gizip, w_gienum, w_lc, Option.bind_some, Option.map_some, mkU_f, mkU_i, mkU_b, mkU_s, mkU_t, mkU_n, w_OR, w_cmp, w_bin, w_truO, w_jn, w_js, w_spl, t_star, strU_s, at_ask h]
  exact ⟨trivial, [], by simp⟩
theorem len_B (h : DeedTab T) (d : Dd) (mu : Bool) (S : Store) : cutR mu S (endR (B_Deed___len__ T mu [some (.d d.own)] S)) = .ok (.d (.int d.steps.length)) S := by
  refine cut_val ?_
  rw [w_end]
  unfold B_Deed___len__
  simp only [w_asO, w_ok, w_bind, w_up, w_upU, w_V0, w_VS, w_C, w_O1, w_O2, w_OA, w_OU, w_ix, w_call, w_nil, w_cons, w_dnil, w_dcons, w_tup, w_lst, w_lstM, w_dct0, w_if, w_and, w_or, w_not, w_tAnd, w_tOr, w_tNot, w_tB, w_tTru, w_chain, w_goN, w_goS, w_sl, w_attr, w_meth, uBl_b, uInt_i, s_nil, s_seq, s_drop, s_ret, s_retN, s_if, s_asg, s_par2, s_par3, s_asgT, s_break, s_cont, t_name, t_sub, t_attr, t_tup, t_nil, t_cons, set0, setS, s_for, w_giE, w_gir1, w_gir2, w_gizip, w_gienum, w_lc, Option.bind_some, Option.map_some, mkU_f, mkU_i, mkU_b, mkU_s, mkU_t, mkU_n, w_OR, w_cmp, w_bin, w_truO, w_jn, w_js, w_spl, t_star, strU_s, vw_d, vw_ref, fr_d, fr_ref, f1_d, f2_d, f1_u, f2_u, fA_1, fA_u, vws_nil, vws_cons, ixU_d, ixU_ref, cIx_l, cV_l, g0, gS, st0, stS, ix_l, ix_t, add_ii, sub_ii, eq_ii, cmp_ii, int_i, len_l, len_t, len_s, noI_d, noI_r, ni_int, ni_str, ni_bl, ni_non, ni_tup, ni_lst, nc_lst, nc_lsu, cmp_eq, cmp_ne, cmp_in, cmp_ni, bin_no, tru_no, lenR_no, Option.elim_some, at_steps h, List.length_map]
  exact ⟨trivial, [], by simp⟩
theorem cnt_steps (a : Stp) (xs : List Stp) : cntB a.d (xs.map Stp.d) = xs.countP fun s => decide (s = a) := by
  unfold cntB
  rw [List.countP_map]
  congr 1
  funext s
  exact eqB_steps s a
theorem int_b (b : Bool) : cInt [.bl b] = some (.int (if b then 1 else 0)) := rfl
theorem mk_lstD {m : Str} {S : Store} (ds : List D) : methKind T m (.d (.lst ds)) S = (mbFor m "list").map fun _ => .inr "list" := by
  unfold methKind insU tyU tyD
  dsimp only
  cases mbFor m "list" <;> rfl
theorem ty_lstD {S : Store} (ds : List D) : tyOk S (.d (.lst ds)) "list" = true := rfl
theorem count_steps {S : Store} (xs : List Stp) : mCount false S (.d (.lst (xs.map Stp.d))) [.d (.tup [.str "take"])] = some (.d (.int (xs.countP fun s => decide (s = .one "take"))), S) := by
  unfold mCount
  dsimp only
  rw [vw_d, vw_d, Option.bind_some, Option.bind_some]
  dsimp only
  rw [okD_steps 57, if_pos (show (okD 59 (D.tup [D.str "take"]) && true) = true from rfl), show D.tup [.str "take"] = (Stp.one "take").d from rfl, cnt_steps]
theorem takes_B (h : DeedTab T) (d : Dd) (mu : Bool) (S : Store) : cutR mu S (endR (B_Deed_takes T mu [some (.d d.own)] S)) = .ok (.d (.int d.takes)) S := by
  refine cut_val ?_
  rw [w_end]
  unfold B_Deed_takes
  simp only [w_asO, w_ok, w_bind, w_up, w_upU, w_V0, w_VS, w_C, w_O1, w_O2, w_OA, w_OU, w_ix, w_call, w_nil, w_cons, w_dnil, w_dcons, w_tup, w_lst, w_lstM, w_dct0, w_if, w_and, w_or, w_not, w_tAnd, w_tOr, w_tNot, w_tB, w_tTru, w_chain, w_goN, w_goS, w_sl, w_attr, w_meth, uBl_b, uInt_i, s_nil, s_seq, s_drop, s_ret, s_retN, s_if, s_asg, s_par2, s_par3, s_asgT, s_break, s_cont, t_name, t_sub, t_attr, t_tup, t_nil, t_cons, set0, setS, s_for, w_giE, w_gir1, w_gir2, w_gizip, w_gienum, w_lc, Option.bind_some, Option.map_some, mkU_f, mkU_i, mkU_b, mkU_s, mkU_t, mkU_n, w_OR, w_cmp, w_bin, w_truO, w_jn, w_js, w_spl, t_star, strU_s, vw_d, vw_ref, fr_d, fr_ref, f1_d, f2_d, f1_u, f2_u, fA_1, fA_u, vws_nil, vws_cons, ixU_d, ixU_ref, cIx_l, cV_l, g0, gS, st0, stS, ix_l, ix_t, add_ii, sub_ii, eq_ii, cmp_ii, int_i, len_l, len_t, len_s, noI_d, noI_r, ni_int, ni_str, ni_bl, ni_non, ni_tup, ni_lst, nc_lst, nc_lsu, cmp_eq, cmp_ne, cmp_in, cmp_ni, bin_no, tru_no, lenR_no, Option.elim_some, at_steps h, at_ask h, mk_lstD, mb_count, w_mb (h := mb_count), ty_lstD, if_true, count_steps, eq_ss, int_b]
  refine ⟨?_, [], by simp⟩
  unfold Dd.takes
  by_cases e : d.ask = "seek" <;> simp [e]
theorem quiet_B (h : DeedTab T) (d : Dd) (mu : Bool) (S : Store) : cutR mu S (endR (B_Deed_quiet T mu [some (.d d.own)] S)) = .ok (.d (.bl d.quiet)) S := by
  refine cut_val ?_
  rw [w_end]
  unfold B_Deed_quiet
  have n1 : oNotIn (.tup [.str "take"]) (.lst (d.steps.map Stp.d)) = some (.bl (!decide (Stp.one "take" ∈ d.steps))) := ni_steps (.one "take") d.steps
  have n2 : oNotIn (.tup [.str "give"]) (.lst (d.steps.map Stp.d)) = some (.bl (!decide (Stp.one "give" ∈ d.steps))) := ni_steps (.one "give") d.steps
  simp only [w_asO, w_ok, w_bind, w_up, w_upU, w_V0, w_VS, w_C, w_O1, w_O2, w_OA, w_OU, w_ix, w_call, w_nil, w_cons, w_dnil, w_dcons, w_tup, w_lst, w_lstM, w_dct0, w_if, w_and, w_or, w_not, w_tAnd, w_tOr, w_tNot, w_tB, w_tTru, w_chain, w_goN, w_goS, w_sl, w_attr, w_meth, uBl_b, uInt_i, s_nil, s_seq, s_drop, s_ret, s_retN, s_if, s_asg, s_par2, s_par3, s_asgT, s_break, s_cont, t_name, t_sub, t_attr, t_tup, t_nil, t_cons, set0, setS, s_for, w_giE, w_gir1, w_gir2, w_gizip, w_gienum, w_lc, Option.bind_some, Option.map_some, mkU_f, mkU_i, mkU_b, mkU_s, mkU_t, mkU_n, w_OR, w_cmp, w_bin, w_truO, w_jn, w_js, w_spl, t_star, strU_s, vw_d, vw_ref, fr_d, fr_ref, f1_d, f2_d, f1_u, f2_u, fA_1, fA_u, vws_nil, vws_cons, ixU_d, ixU_ref, cIx_l, cV_l, g0, gS, st0, stS, ix_l, ix_t, add_ii, sub_ii, eq_ii, cmp_ii, int_i, len_l, len_t, len_s, noI_d, noI_r, ni_int, ni_str, ni_bl, ni_non, ni_tup, ni_lst, nc_lst, nc_lsu, cmp_eq, cmp_ne, cmp_in, cmp_ni, bin_no, tru_no, lenR_no, Option.elim_some, at_steps h, at_ask h, eq_ss, tru_bl, n1, n2]
  unfold Dd.quiet
  by_cases e : d.ask = "none"
  · by_cases e2 : Stp.one "take" ∈ d.steps
    · simp only [e, e2, decide_true, if_true, Bool.not_true, Bool.false_eq_true, if_false, Bool.and_true, Bool.true_and, Bool.false_and]
      exact ⟨trivial, [], by simp⟩
    · simp only [e, e2, decide_true, decide_false, if_true, Bool.not_false, Bool.false_eq_true, if_false, Bool.and_true, Bool.true_and, Bool.false_and]
      exact ⟨trivial, [], by simp⟩
  · simp only [e, decide_false, Bool.false_eq_true, if_false, Bool.false_and]
    exact ⟨trivial, [], by simp⟩
theorem eq_B (h : DeedTab T) (d e : Dd) (mu : Bool) (S : Store) : cutR mu S (endR (B_Deed___eq__ T mu [some (.d d.own), some (.d e.own)] S)) = .ok (.d (.bl (decide (d = e)))) S := by
  refine cut_val ?_
  rw [w_end]
  unfold B_Deed___eq__
  have k : isiU T.kit S [.d e.own, .d (.gl "Deed")] = some (.bl true) := by
    show (if isCls (.gl "Deed") then (tyD e.own).bind fun t => (T.kit t (.gl "Deed")).map D.bl else none) = _
    rw [show isCls (D.gl "Deed") = true from rfl, if_pos rfl, show tyD e.own = some (.c "Deed") from rfl, Option.bind_some, h.kd]; rfl
  have q := Dd.eq d e
  unfold Dd.law at q
  simp only [w_asO, w_ok, w_bind, w_up, w_upU, w_V0, w_VS, w_C, w_O1, w_O2, w_OA, w_OU, w_ix, w_call, w_nil, w_cons, w_dnil, w_dcons, w_tup, w_lst, w_lstM, w_dct0, w_if, w_and, w_or, w_not, w_tAnd, w_tOr, w_tNot, w_tB, w_tTru, w_chain, w_goN, w_goS, w_sl, w_attr, w_meth, uBl_b, uInt_i, s_nil, s_seq, s_drop, s_ret, s_retN, s_if, s_asg, s_par2, s_par3, s_asgT, s_break, s_cont, t_name, t_sub, t_attr, t_tup, t_nil, t_cons, set0, setS, s_for, w_giE, w_gir1, w_gir2, w_gizip, w_gienum, w_lc, Option.bind_some, Option.map_some, mkU_f, mkU_i, mkU_b, mkU_s, mkU_t, mkU_n, w_OR, w_cmp, w_bin, w_truO, w_jn, w_js, w_spl, t_star, strU_s, vw_d, vw_ref, fr_d, fr_ref, f1_d, f2_d, f1_u, f2_u, fA_1, fA_u, vws_nil, vws_cons, ixU_d, ixU_ref, cIx_l, cV_l, g0, gS, st0, stS, ix_l, ix_t, add_ii, sub_ii, eq_ii, cmp_ii, int_i, len_l, len_t, len_s, noI_d, noI_r, ni_int, ni_str, ni_bl, ni_non, ni_tup, ni_lst, nc_lst, nc_lsu, cmp_eq, cmp_ne, cmp_in, cmp_ni, bin_no, tru_no, lenR_no, Option.elim_some, k, tru_bl, Bool.not_true, Bool.false_eq_true, if_false, at_when h, at_steps h, at_ask h, q]
  exact ⟨trivial, [], by simp⟩
theorem eq_no_B (h : DeedTab T) (d : Dd) (y : D) (hy : pl y = true) (mu : Bool) (S : Store) : cutR mu S (endR (B_Deed___eq__ T mu [some (.d d.own), some (.d y)] S)) = .ok (.d (.bl false)) S := by
  refine cut_val ?_
  rw [w_end]
  unfold B_Deed___eq__
  obtain ⟨t, ht⟩ := pl_ty hy
  obtain ⟨t1, t2⟩ := tyB_ok ht
  have k : isiU T.kit S [.d y, .d (.gl "Deed")] = some (.bl false) := by
    show (if isCls (.gl "Deed") then (tyD y).bind fun t => (T.kit t (.gl "Deed")).map D.bl else none) = _
    rw [show isCls (D.gl "Deed") = true from rfl, if_pos rfl, t1, Option.bind_some, h.kb t t2]; rfl
  simp only [w_asO, w_ok, w_bind, w_up, w_upU, w_V0, w_VS, w_C, w_O1, w_O2, w_OA, w_OU, w_ix, w_call, w_nil, w_cons, w_dnil, w_dcons, w_tup, w_lst, w_lstM, w_dct0, w_if, w_and, w_or, w_not, w_tAnd, w_tOr, w_tNot, w_tB, w_tTru, w_chain, w_goN, w_goS, w_sl, w_attr, w_meth, uBl_b, uInt_i, s_nil, s_seq, s_drop, s_ret, s_retN, s_if, s_asg, s_par2, s_par3, s_asgT, s_break, s_cont, t_name, t_sub, t_attr, t_tup, t_nil, t_cons, set0, setS, s_for, w_giE, w_gir1, w_gir2, w_gizip, w_gienum, w_lc, Option.bind_some, Option.map_some, mkU_f, mkU_i, mkU_b, mkU_s, mkU_t, mkU_n, w_OR, w_cmp, w_bin, w_truO, w_jn, w_js, w_spl, t_star, strU_s, vw_d, vw_ref, fr_d, fr_ref, f1_d, f2_d, f1_u, f2_u, fA_1, fA_u, vws_nil, vws_cons, ixU_d, ixU_ref, cIx_l, cV_l, g0, gS, st0, stS, ix_l, ix_t, add_ii, sub_ii, eq_ii, cmp_ii, int_i, len_l, len_t, len_s, noI_d, noI_r, ni_int, ni_str, ni_bl, ni_non, ni_tup, ni_lst, nc_lst, nc_lsu, cmp_eq, cmp_ne, cmp_in, cmp_ni, bin_no, tru_no, lenR_no, Option.elim_some, k, tru_bl, Bool.not_false, if_true]
  exact ⟨trivial, [], by simp⟩
end
end
end Dv
set_option maxRecDepth 100000
set_option maxHeartbeats 1000000
namespace Dv
open PySem PySem.Spec PyProof.Rows L2
noncomputable section
theorem starA {ρ : Env} {S : Store} (u : GTgs) (x : D) : tgStar 2 1 u (.d (.tup [x])) ρ S = u [.d x, .d (.lst [])] ρ S := rfl
theorem starB {ρ : Env} {S : Store} (u : GTgs) (x y : D) : tgStar 2 1 u (.d (.tup [x, y])) ρ S = u [.d x, .d (.lst [y])] ρ S := rfl
theorem a10 (x : D) : atI [x] 0 = some x := rfl
theorem flat_len : ∀ {xs : List Stp}, (∀ s ∈ xs, s.ok) → ((xs.map Stp.ws).flatten).length ≤ 4 * xs.length
  | [], _ => Nat.le_refl _
  | s :: xs, h => by
    have ih := flat_len fun x hx => h x (List.mem_cons_of_mem _ hx)
    have hs := h s List.mem_cons_self
    rw [List.map_cons, List.flatten_cons, List.length_append, List.length_cons]
    have : s.ws.length ≤ 4 := by
      cases s with
      | one a => exact Nat.zero_le _
      | note w => show 1 ≤ 4; decide
      | check ws => exact hs.1.le
    omega
def flatTo (d : Dd) (i : Nat) : List Str := d.when ++ ((d.steps.take i).map Stp.ws).flatten
theorem flatTo_len {d : Dd} (h : d.ok) (i : Nat) : (flatTo d i).length ≤ 24 := by
  unfold flatTo
  rw [List.length_append]
  have h1 := h.w.le
  have h2 := flat_len (xs := d.steps.take i) fun s hs => h.st s (List.mem_of_mem_take hs)
  have h3 := List.length_take_le i d.steps
  have h4 := List.length_take_le' i d.steps
  have := h.le
  omega
theorem flatTo_succ {d : Dd} {i : Nat} (hi : i < d.steps.length) : flatTo d (i + 1) = flatTo d i ++ (d.steps[i]).ws := by
  unfold flatTo
  have e : d.steps.take (i + 1) = d.steps.take i ++ [d.steps[i]] := by rw [List.take_succ, List.getElem?_eq_getElem hi]; rfl
  rw [e, List.map_append, List.flatten_append, ← List.append_assoc]
  simp
theorem flatTo_all (d : Dd) : flatTo d d.steps.length = d.flat := by
  unfold flatTo Dd.flat
  rw [List.take_length]
theorem ddup_len_le : ∀ (xs acc : List Str), (ddup acc xs).length ≤ acc.length + xs.length
  | [], acc => Nat.le_refl _
  | x :: xs, acc => by
    unfold ddup
    split
    · have := ddup_len_le xs acc; rw [List.length_cons]; omega
    · have := ddup_len_le xs (acc ++ [x]); rw [List.length_append, List.length_singleton] at this; rw [List.length_cons]; omega
theorem sset_strs {xs : List Str} (h : xs.length < 64) : cSortSet (.lst (xs.map D.str)) = some (.lst ((sortS (ddup [] xs)).map D.str)) := by
  show (strsD (xs.map D.str)).bind _ = _
  rw [strsD_ok]
  exact if_pos h
theorem getD_map {α : Type} (f : α → D) {xs : List α} {i : Nat} (h : i < xs.length) : (xs.map f).getD i .non = f xs[i] := by
  rw [List.getD_eq_getElem?_getD, List.getElem?_map, List.getElem?_eq_getElem h]; rfl
section
variable {T : Tab}
theorem words_B (h : DeedTab T) (d : Dd) (hd : d.ok) (mu : Bool) (S : Store) : cutR mu S (endR (B_Deed_words T mu [some (.d d.own), none, none, none] S)) = .ok (mkU mu (.lst (d.words.map D.str)) S).1 (mkU mu (.lst (d.words.map D.str)) S).2 := by
  refine cut_mk ?_
  rw [w_end]
  unfold B_Deed_words
  simp only [w_asO, w_ok, w_bind, w_up, w_upU, w_V0, w_VS, w_C, w_O1, w_O2, w_OA, w_OU, w_ix, w_call, w_nil, w_cons, w_dnil, w_dcons, w_tup, w_lst, w_lstM, w_dct0, w_if, w_and, w_or, w_not, w_tAnd, w_tOr, w_tNot, w_tB, w_tTru, w_chain, w_goN, w_goS, w_sl, w_attr, w_meth, uBl_b, uInt_i, s_nil, s_seq, s_drop, s_ret, s_retN, s_if, s_asg, s_par2, s_par3, s_asgT, s_break, s_cont, t_name, t_sub, t_attr, t_tup, t_nil, t_cons, set0, setS, s_for, w_giE, w_gir1, w_gir2, w_gizip, w_gienum, w_lc, Option.bind_some, Option.map_some, mkU_f, mkU_i, mkU_b, mkU_s, mkU_t, mkU_n, w_OR, w_cmp, w_bin, w_truO, w_jn, w_js, w_spl, t_star, strU_s, vw_d, vw_ref, fr_d, fr_ref, f1_d, f2_d, f1_u, f2_u, fA_1, fA_u, vws_nil, vws_cons, ixU_d, ixU_ref, cIx_l, cV_l, g0, gS, st0, stS, ix_l, ix_t, add_ii, sub_ii, eq_ii, cmp_ii, int_i, len_l, len_t, len_s, noI_d, noI_r, ni_int, ni_str, ni_bl, ni_non, ni_tup, ni_lst, nc_lst, nc_lsu, cmp_eq, cmp_ne, cmp_in, cmp_ni, bin_no, tru_no, lenR_no, Option.elim_some, at_when h, at_steps h, list_l, mkU_l, iter_l]
  refine for_items (by simp; have := hd.le; omega) (fun i ρ S' => ∃ o2 o3 n, ρ = [some (.d d.own), some (.ref n), o2, o3] ∧ Own S S' n ((flatTo d i).map D.str)) ⟨none, none, _, rfl, by simpa [flatTo] using Own.new0 (S := S) (d.when.map D.str)⟩ ?_ ?_
  · rintro i ρ S' hi ⟨o2, o3, n, rfl, ho⟩
    have hi' : i < d.steps.length := by simpa using hi
    rw [getD_map Stp.d hi']
    have hok := hd.st _ (List.getElem_mem hi')
    have hs := flatTo_succ hi'
    have hl := flatTo_len hd (i + 1)
    have hl2 := flatTo_len hd i
    generalize d.steps[i] = s at hok hs
    rw [hs] at hl ⊢
    cases s with
    | one a =>
      have hok : a = "take" ∨ a = "put" ∨ a = "give" := hok
      have n1 : decide (a = "note") = false := by rcases hok with rfl | rfl | rfl <;> decide
      have n2 : decide (a = "check") = false := by rcases hok with rfl | rfl | rfl <;> decide
      simp only [Stp.d, starA, w_asO, w_ok, w_bind, w_up, w_upU, w_V0, w_VS, w_C, w_O1, w_O2, w_OA, w_OU, w_ix, w_call, w_nil, w_cons, w_dnil, w_dcons, w_tup, w_lst, w_lstM, w_dct0, w_if, w_and, w_or, w_not, w_tAnd, w_tOr, w_tNot, w_tB, w_tTru, w_chain, w_goN, w_goS, w_sl, w_attr, w_meth, uBl_b, uInt_i, s_nil, s_seq, s_drop, s_ret, s_retN, s_if, s_asg, s_par2, s_par3, s_asgT, s_break, s_cont, t_name, t_sub, t_attr, t_tup, t_nil, t_cons, set0, setS, s_for, w_giE, w_gir1, w_gir2, w_gizip, w_gienum, w_lc, Option.bind_some, Option.map_some, mkU_f, mkU_i, mkU_b, mkU_s, mkU_t, mkU_n, w_OR, w_cmp, w_bin, w_truO, w_jn, w_js, w_spl, t_star, strU_s, vw_d, vw_ref, fr_d, fr_ref, f1_d, f2_d, f1_u, f2_u, fA_1, fA_u, vws_nil, vws_cons, ixU_d, ixU_ref, cIx_l, cV_l, g0, gS, st0, stS, ix_l, ix_t, add_ii, sub_ii, eq_ii, cmp_ii, int_i, len_l, len_t, len_s, noI_d, noI_r, ni_int, ni_str, ni_bl, ni_non, ni_tup, ni_lst, nc_lst, nc_lsu, cmp_eq, cmp_ne, cmp_in, cmp_ni, bin_no, tru_no, lenR_no, Option.elim_some, eq_ss, n1, n2, Bool.false_eq_true, if_false]
      exact ⟨_, _, n, rfl, by simpa [Stp.ws] using ho⟩
    | note w =>
      have n1 : decide (("note" : Str) = "note") = true := by decide
      simp only [Stp.d, starB, w_asO, w_ok, w_bind, w_up, w_upU, w_V0, w_VS, w_C, w_O1, w_O2, w_OA, w_OU, w_ix, w_call, w_nil, w_cons, w_dnil, w_dcons, w_tup, w_lst, w_lstM, w_dct0, w_if, w_and, w_or, w_not, w_tAnd, w_tOr, w_tNot, w_tB, w_tTru, w_chain, w_goN, w_goS, w_sl, w_attr, w_meth, uBl_b, uInt_i, s_nil, s_seq, s_drop, s_ret, s_retN, s_if, s_asg, s_par2, s_par3, s_asgT, s_break, s_cont, t_name, t_sub, t_attr, t_tup, t_nil, t_cons, set0, setS, s_for, w_giE, w_gir1, w_gir2, w_gizip, w_gienum, w_lc, Option.bind_some, Option.map_some, mkU_f, mkU_i, mkU_b, mkU_s, mkU_t, mkU_n, w_OR, w_cmp, w_bin, w_truO, w_jn, w_js, w_spl, t_star, strU_s, vw_d, vw_ref, fr_d, fr_ref, f1_d, f2_d, f1_u, f2_u, fA_1, fA_u, vws_nil, vws_cons, ixU_d, ixU_ref, cIx_l, cV_l, g0, gS, st0, stS, ix_l, ix_t, add_ii, sub_ii, eq_ii, cmp_ii, int_i, len_l, len_t, len_s, noI_d, noI_r, ni_int, ni_str, ni_bl, ni_non, ni_tup, ni_lst, nc_lst, nc_lsu, cmp_eq, cmp_ne, cmp_in, cmp_ni, bin_no, tru_no, lenR_no, Option.elim_some, eq_ss, n1, if_true, ho.mth, mb_append, w_mb (h := mb_append), ho.ty, a10, ho.app (show ((flatTo d i).map D.str).length < 1000000 by rw [List.length_map]; omega)]
      refine ⟨_, _, n, rfl, ?_⟩
      simpa [Stp.ws] using ho.put ((flatTo d i).map D.str ++ [.str w])
    | check ws =>
      have n1 : decide (("check" : Str) = "note") = false := by decide
      have n2 : decide (("check" : Str) = "check") = true := by decide
      have hw := hok.1.le
      simp only [Stp.d, starB, w_asO, w_ok, w_bind, w_up, w_upU, w_V0, w_VS, w_C, w_O1, w_O2, w_OA, w_OU, w_ix, w_call, w_nil, w_cons, w_dnil, w_dcons, w_tup, w_lst, w_lstM, w_dct0, w_if, w_and, w_or, w_not, w_tAnd, w_tOr, w_tNot, w_tB, w_tTru, w_chain, w_goN, w_goS, w_sl, w_attr, w_meth, uBl_b, uInt_i, s_nil, s_seq, s_drop, s_ret, s_retN, s_if, s_asg, s_par2, s_par3, s_asgT, s_break, s_cont, t_name, t_sub, t_attr, t_tup, t_nil, t_cons, set0, setS, s_for, w_giE, w_gir1, w_gir2, w_gizip, w_gienum, w_lc, Option.bind_some, Option.map_some, mkU_f, mkU_i, mkU_b, mkU_s, mkU_t, mkU_n, w_OR, w_cmp, w_bin, w_truO, w_jn, w_js, w_spl, t_star, strU_s, vw_d, vw_ref, fr_d, fr_ref, f1_d, f2_d, f1_u, f2_u, fA_1, fA_u, vws_nil, vws_cons, ixU_d, ixU_ref, cIx_l, cV_l, g0, gS, st0, stS, ix_l, ix_t, add_ii, sub_ii, eq_ii, cmp_ii, int_i, len_l, len_t, len_s, noI_d, noI_r, ni_int, ni_str, ni_bl, ni_non, ni_tup, ni_lst, nc_lst, nc_lsu, cmp_eq, cmp_ne, cmp_in, cmp_ni, bin_no, tru_no, lenR_no, Option.elim_some, eq_ss, n1, n2, if_true, Bool.false_eq_true, if_false, ho.mth, mb_extend, w_mb (h := mb_extend), ho.ty, a10, ho.extd (es := ws.map D.str) (y := .tup (ws.map D.str)) (by simp; omega) rfl]
      refine ⟨_, _, n, rfl, ?_⟩
      simpa [Stp.ws] using ho.put ((flatTo d i).map D.str ++ ws.map D.str)
  · rintro ρ S' ⟨o2, o3, n, rfl, ho⟩
    rw [List.length_map, flatTo_all] at ho
    have hl := flatTo_len hd d.steps.length
    rw [flatTo_all] at hl
    simp only [w_asO, w_ok, w_bind, w_up, w_upU, w_V0, w_VS, w_C, w_O1, w_O2, w_OA, w_OU, w_ix, w_call, w_nil, w_cons, w_dnil, w_dcons, w_tup, w_lst, w_lstM, w_dct0, w_if, w_and, w_or, w_not, w_tAnd, w_tOr, w_tNot, w_tB, w_tTru, w_chain, w_goN, w_goS, w_sl, w_attr, w_meth, uBl_b, uInt_i, s_nil, s_seq, s_drop, s_ret, s_retN, s_if, s_asg, s_par2, s_par3, s_asgT, s_break, s_cont, t_name, t_sub, t_attr, t_tup, t_nil, t_cons, set0, setS, s_for, w_giE, w_gir1, w_gir2, w_gizip, w_gienum, w_lc, Option.bind_some, Option.map_some, mkU_f, mkU_i, mkU_b, mkU_s, mkU_t, mkU_n, w_OR, w_cmp, w_bin, w_truO, w_jn, w_js, w_spl, t_star, strU_s, vw_d, vw_ref, fr_d, fr_ref, f1_d, f2_d, f1_u, f2_u, fA_1, fA_u, vws_nil, vws_cons, ixU_d, ixU_ref, cIx_l, cV_l, g0, gS, st0, stS, ix_l, ix_t, add_ii, sub_ii, eq_ii, cmp_ii, int_i, len_l, len_t, len_s, noI_d, noI_r, ni_int, ni_str, ni_bl, ni_non, ni_tup, ni_lst, nc_lst, nc_lsu, cmp_eq, cmp_ne, cmp_in, cmp_ni, bin_no, tru_no, lenR_no, Option.elim_some, ho.vw, sset_strs (show d.flat.length < 64 by omega)]
    obtain ⟨L, e⟩ := ho.ext
    exact ⟨L, by rw [← e]; rfl, by rw [← e]; rfl⟩
/-! texts of deeds -/
def numS (n : Nat) : Str := Str.ofString (toString (n : Int))
def Dd.repr (d : Dd) : Str := (("Deed(" : Str) ++ numS d.steps.length) ++ (" steps)" : Str)
theorem jempty : Str.empty ++ ("Deed(" : Str) = ("Deed(" : Str) := by decide +kernel
theorem num_facts {n : Nat} (h : n ≤ 6) : strD (.int n) = some (.str (numS n)) ∧ (numS n).length ≤ 3 := by
  have : n = 0 ∨ n = 1 ∨ n = 2 ∨ n = 3 ∨ n = 4 ∨ n = 5 ∨ n = 6 := by omega
  rcases this with rfl | rfl | rfl | rfl | rfl | rfl | rfl <;> exact ⟨rfl, by decide +kernel⟩
theorem len_app (a b : Str) : (a ++ b).length = a.length + b.length := by
  show (a.cps ++ b.cps).size = _
  rw [Array.size_append]; rfl
theorem repr_B (h : DeedTab T) (d : Dd) (hd : d.ok) (mu : Bool) (S : Store) : cutR mu S (endR (B_Deed___repr__ T mu [some (.d d.own)] S)) = .ok (.d (.str d.repr)) S := by
  refine cut_val ?_
  rw [w_end]
  unfold B_Deed___repr__
  obtain ⟨n1, n2⟩ := num_facts (show d.steps.length ≤ 6 by have := hd.le; omega)
  have l0 : Str.empty.length = 0 := rfl
  have l1 : ("Deed(" : Str).length = 5 := by decide +kernel
  have l2 : (" steps)" : Str).length = 7 := by decide +kernel
  simp only [w_asO, w_ok, w_bind, w_up, w_upU, w_V0, w_VS, w_C, w_O1, w_O2, w_OA, w_OU, w_ix, w_call, w_nil, w_cons, w_dnil, w_dcons, w_tup, w_lst, w_lstM, w_dct0, w_if, w_and, w_or, w_not, w_tAnd, w_tOr, w_tNot, w_tB, w_tTru, w_chain, w_goN, w_goS, w_sl, w_attr, w_meth, uBl_b, uInt_i, s_nil, s_seq, s_drop, s_ret, s_retN, s_if, s_asg, s_par2, s_par3, s_asgT, s_break, s_cont, t_name, t_sub, t_attr, t_tup, t_nil, t_cons, set0, setS, s_for, w_giE, w_gir1, w_gir2, w_gizip, w_gienum, w_lc, Option.bind_some, Option.map_some, mkU_f, mkU_i, mkU_b, mkU_s, mkU_t, mkU_n, w_OR, w_cmp, w_bin, w_truO, w_jn, w_js, w_spl, t_star, strU_s, vw_d, vw_ref, fr_d, fr_ref, f1_d, f2_d, f1_u, f2_u, fA_1, fA_u, vws_nil, vws_cons, ixU_d, ixU_ref, cIx_l, cV_l, g0, gS, st0, stS, ix_l, ix_t, add_ii, sub_ii, eq_ii, cmp_ii, int_i, len_l, len_t, len_s, noI_d, noI_r, ni_int, ni_str, ni_bl, ni_non, ni_tup, ni_lst, nc_lst, nc_lsu, cmp_eq, cmp_ne, cmp_in, cmp_ni, bin_no, tru_no, lenR_no, Option.elim_some, jempty, at_steps h, List.length_map, n1, len_app, l0, l1, l2, sizeLine_eq]
  exact ⟨by omega, by omega, by omega, rfl, [], by simp⟩
end
end
end Dv
set_option maxRecDepth 100000
set_option maxHeartbeats 1000000
namespace Dv
open PySem PySem.Spec PyProof.Rows L2
noncomputable section
/-! ### drawn deeds -/
def StepT (y : D) : Prop := ∃ s : Stp, y = s.d ∧ s.ok
def StepTOk (C : Cs) : Prop := ∀ (M : Int) (c : Cell) (R : Store) (mu : Bool) (xs : List Str), SrcC M c → M + 5 < LIM → 0 < xs.length → Nms xs → DS (C "_law_step" mu [] [.ref 0, .d (.lst (xs.map D.str))] [] (c :: R)) R (M + 5) StepT
theorem law_stepT_B {T : Tab} (hd : DrawOk T.call) (ho : OfOk T.call) (hso : SomeOk T.call) (M : Int) (c : Cell) (R : Store) (mu : Bool) (xs : List Str) (hs : SrcC M c) (hM : M + 5 < LIM) (h0 : 0 < xs.length) (hx : Nms xs) :
    DS (cutR mu (c :: R) (endR (B__law_step T mu [some (.ref 0), some (.d (.lst (xs.map D.str))), none] (c :: R)))) R (M + 5) StepT := by
  have hM : M + 5 < 1000000000000 := hM
  have h4 := hx.le
  refine DS.cutv ?_
  rw [w_end]
  unfold B__law_step
  simp only [w_asO, w_ok, w_bind, w_up, w_upU, w_V0, w_VS, w_C, w_O1, w_O2, w_OA, w_OU, w_ix, w_call, w_nil, w_cons, w_dnil, w_dcons, w_tup, w_lst, w_lstM, w_dct0, w_if, w_and, w_or, w_not, w_tAnd, w_tOr, w_tNot, w_tB, w_tTru, w_chain, w_goN, w_goS, w_sl, w_attr, w_meth, uBl_b, uInt_i, s_nil, s_seq, s_drop, s_ret, s_retN, s_if, s_asg, s_par2, s_par3, s_asgT, s_break, s_cont, t_name, t_sub, t_attr, t_tup, t_nil, t_cons, set0, setS, s_for, w_giE, w_gir1, w_gir2, w_gizip, w_gienum, w_lc, Option.bind_some, Option.map_some, mkU_f, mkU_i, mkU_b, mkU_s, mkU_t, mkU_n, w_OR, w_cmp, w_bin, w_truO, w_jn, w_js, w_spl, t_star, strU_s]
  refine (hd.ds hs (show M < 1000000000000 by omega) (by decide) (by decide)).use ?_
  rintro y c1 hc1 ⟨v, rfl, v0, v1⟩
  simp only [w_asO, w_ok, w_bind, w_up, w_upU, w_V0, w_VS, w_C, w_O1, w_O2, w_OA, w_OU, w_ix, w_call, w_nil, w_cons, w_dnil, w_dcons, w_tup, w_lst, w_lstM, w_dct0, w_if, w_and, w_or, w_not, w_tAnd, w_tOr, w_tNot, w_tB, w_tTru, w_chain, w_goN, w_goS, w_sl, w_attr, w_meth, uBl_b, uInt_i, s_nil, s_seq, s_drop, s_ret, s_retN, s_if, s_asg, s_par2, s_par3, s_asgT, s_break, s_cont, t_name, t_sub, t_attr, t_tup, t_nil, t_cons, set0, setS, s_for, w_giE, w_gir1, w_gir2, w_gizip, w_gienum, w_lc, Option.bind_some, Option.map_some, mkU_f, mkU_i, mkU_b, mkU_s, mkU_t, mkU_n, w_OR, w_cmp, w_bin, w_truO, w_jn, w_js, w_spl, t_star, strU_s, vw_d, vw_ref, fr_d, fr_ref, f1_d, f2_d, f1_u, f2_u, fA_1, fA_u, vws_nil, vws_cons, ixU_d, ixU_ref, cIx_l, cV_l, g0, gS, st0, stS, ix_l, ix_t, add_ii, sub_ii, eq_ii, cmp_ii, int_i, len_l, len_t, len_s, noI_d, noI_r, ni_int, ni_str, ni_bl, ni_non, ni_tup, ni_lst, nc_lst, nc_lsu, cmp_eq, cmp_ne, cmp_in, cmp_ni, bin_no, tru_no, lenR_no, Option.elim_some]
  by_cases h3 : v < 3
  · have hv : v = 0 ∨ v = 1 ∨ v = 2 := by omega
    rcases hv with rfl | rfl | rfl
    · exact ⟨_, c1, [], rfl, by simp, hc1.mono (by omega), .one "take", rfl, .inl rfl⟩
    · exact ⟨_, c1, [], rfl, by simp, hc1.mono (by omega), .one "put", rfl, .inr (.inl rfl)⟩
    · exact ⟨_, c1, [], rfl, by simp, hc1.mono (by omega), .one "give", rfl, .inr (.inr rfl)⟩
  · simp only [h3, decide_false, Bool.false_eq_true, if_false, w_asO, w_ok, w_bind, w_up, w_upU, w_V0, w_VS, w_C, w_O1, w_O2, w_OA, w_OU, w_ix, w_call, w_nil, w_cons, w_dnil, w_dcons, w_tup, w_lst, w_lstM, w_dct0, w_if, w_and, w_or, w_not, w_tAnd, w_tOr, w_tNot, w_tB, w_tTru, w_chain, w_goN, w_goS, w_sl, w_attr, w_meth, uBl_b, uInt_i, s_nil, s_seq, s_drop, s_ret, s_retN, s_if, s_asg, s_par2, s_par3, s_asgT, s_break, s_cont, t_name, t_sub, t_attr, t_tup, t_nil, t_cons, set0, setS, s_for, w_giE, w_gir1, w_gir2, w_gizip, w_gienum, w_lc, Option.bind_some, Option.map_some, mkU_f, mkU_i, mkU_b, mkU_s, mkU_t, mkU_n, w_OR, w_cmp, w_bin, w_truO, w_jn, w_js, w_spl, t_star, strU_s]
    by_cases h6 : v < 6
    · simp only [h6, decide_true, if_true, w_asO, w_ok, w_bind, w_up, w_upU, w_V0, w_VS, w_C, w_O1, w_O2, w_OA, w_OU, w_ix, w_call, w_nil, w_cons, w_dnil, w_dcons, w_tup, w_lst, w_lstM, w_dct0, w_if, w_and, w_or, w_not, w_tAnd, w_tOr, w_tNot, w_tB, w_tTru, w_chain, w_goN, w_goS, w_sl, w_attr, w_meth, uBl_b, uInt_i, s_nil, s_seq, s_drop, s_ret, s_retN, s_if, s_asg, s_par2, s_par3, s_asgT, s_break, s_cont, t_name, t_sub, t_attr, t_tup, t_nil, t_cons, set0, setS, s_for, w_giE, w_gir1, w_gir2, w_gizip, w_gienum, w_lc, Option.bind_some, Option.map_some, mkU_f, mkU_i, mkU_b, mkU_s, mkU_t, mkU_n, w_OR, w_cmp, w_bin, w_truO, w_jn, w_js, w_spl, t_star, strU_s]
      refine (ho (M + 1) c1 R false _ (xs.map D.str) hc1 (show M + 1 < 1000000000000 by omega) (.inl rfl) (by simpa using h0) (by simp; omega)).use ?_
      rintro y c2 hc2 hy
      obtain ⟨w, hw, rfl⟩ := List.mem_map.mp hy
      simp only [w_asO, w_ok, w_bind, w_up, w_upU, w_V0, w_VS, w_C, w_O1, w_O2, w_OA, w_OU, w_ix, w_call, w_nil, w_cons, w_dnil, w_dcons, w_tup, w_lst, w_lstM, w_dct0, w_if, w_and, w_or, w_not, w_tAnd, w_tOr, w_tNot, w_tB, w_tTru, w_chain, w_goN, w_goS, w_sl, w_attr, w_meth, uBl_b, uInt_i, s_nil, s_seq, s_drop, s_ret, s_retN, s_if, s_asg, s_par2, s_par3, s_asgT, s_break, s_cont, t_name, t_sub, t_attr, t_tup, t_nil, t_cons, set0, setS, s_for, w_giE, w_gir1, w_gir2, w_gizip, w_gienum, w_lc, Option.bind_some, Option.map_some, mkU_f, mkU_i, mkU_b, mkU_s, mkU_t, mkU_n, w_OR, w_cmp, w_bin, w_truO, w_jn, w_js, w_spl, t_star, strU_s, vw_d, vw_ref, fr_d, fr_ref, f1_d, f2_d, f1_u, f2_u, fA_1, fA_u, vws_nil, vws_cons, ixU_d, ixU_ref, cIx_l, cV_l, g0, gS, st0, stS, ix_l, ix_t, add_ii, sub_ii, eq_ii, cmp_ii, int_i, len_l, len_t, len_s, noI_d, noI_r, ni_int, ni_str, ni_bl, ni_non, ni_tup, ni_lst, nc_lst, nc_lsu, cmp_eq, cmp_ne, cmp_in, cmp_ni, bin_no, tru_no, lenR_no, Option.elim_some]
      exact ⟨_, c2, [], rfl, by simp, hc2.mono (by omega), .note w, rfl, hx.nm w hw⟩
    · simp only [h6, decide_false, Bool.false_eq_true, if_false, w_asO, w_ok, w_bind, w_up, w_upU, w_V0, w_VS, w_C, w_O1, w_O2, w_OA, w_OU, w_ix, w_call, w_nil, w_cons, w_dnil, w_dcons, w_tup, w_lst, w_lstM, w_dct0, w_if, w_and, w_or, w_not, w_tAnd, w_tOr, w_tNot, w_tB, w_tTru, w_chain, w_goN, w_goS, w_sl, w_attr, w_meth, uBl_b, uInt_i, s_nil, s_seq, s_drop, s_ret, s_retN, s_if, s_asg, s_par2, s_par3, s_asgT, s_break, s_cont, t_name, t_sub, t_attr, t_tup, t_nil, t_cons, set0, setS, s_for, w_giE, w_gir1, w_gir2, w_gizip, w_gienum, w_lc, Option.bind_some, Option.map_some, mkU_f, mkU_i, mkU_b, mkU_s, mkU_t, mkU_n, w_OR, w_cmp, w_bin, w_truO, w_jn, w_js, w_spl, t_star, strU_s]
      refine (hso (M + 1) c1 R _ (xs.map D.str) hc1 (show M + 1 + _ < 1000000000000 by rw [List.length_map]; omega) (.inl rfl) (by simp; omega)).use ?_
      rintro y c2 hc2 ⟨es, rfl, hes⟩
      obtain ⟨ys, rfl, hys⟩ := sublist_strs hes
      have hl := hys.length_le
      simp only [w_asO, w_ok, w_bind, w_up, w_upU, w_V0, w_VS, w_C, w_O1, w_O2, w_OA, w_OU, w_ix, w_call, w_nil, w_cons, w_dnil, w_dcons, w_tup, w_lst, w_lstM, w_dct0, w_if, w_and, w_or, w_not, w_tAnd, w_tOr, w_tNot, w_tB, w_tTru, w_chain, w_goN, w_goS, w_sl, w_attr, w_meth, uBl_b, uInt_i, s_nil, s_seq, s_drop, s_ret, s_retN, s_if, s_asg, s_par2, s_par3, s_asgT, s_break, s_cont, t_name, t_sub, t_attr, t_tup, t_nil, t_cons, set0, setS, s_for, w_giE, w_gir1, w_gir2, w_gizip, w_gienum, w_lc, Option.bind_some, Option.map_some, mkU_f, mkU_i, mkU_b, mkU_s, mkU_t, mkU_n, w_OR, w_cmp, w_bin, w_truO, w_jn, w_js, w_spl, t_star, strU_s, vw_d, vw_ref, fr_d, fr_ref, f1_d, f2_d, f1_u, f2_u, fA_1, fA_u, vws_nil, vws_cons, ixU_d, ixU_ref, cIx_l, cV_l, g0, gS, st0, stS, ix_l, ix_t, add_ii, sub_ii, eq_ii, cmp_ii, int_i, len_l, len_t, len_s, noI_d, noI_r, ni_int, ni_str, ni_bl, ni_non, ni_tup, ni_lst, nc_lst, nc_lsu, cmp_eq, cmp_ne, cmp_in, cmp_ni, bin_no, tru_no, lenR_no, Option.elim_some, sorted_strs (show ys.length < 64 by omega), tuple_l]
      exact ⟨_, c2, [], rfl, by simp, hc2.mono (by rw [List.length_map]; omega), .check (sortS ys), rfl, (hx.sub hys).sort, sortS_idem ys⟩
def DeedT (n : Nat) (y : D) : Prop := ∃ d : Dd, y = d.law ∧ d.ok ∧ d.steps.length ≤ n
def LawDeedOk (C : Cs) : Prop := ∀ (M : Int) (c : Cell) (R : Store) (mu : Bool) (xs : List Str) (n : Nat), SrcC M c → M + 50 < LIM → 0 < xs.length → Nms xs → n ≤ 5 → DS (C "_law_deed" mu [] [.ref 0, .d (.lst (xs.map D.str)), .d (.int n)] [] (c :: R)) R (M + 50) (DeedT n)
theorem law_deed_B {T : Tab} (hd : DrawOk T.call) (ho : OfOk T.call) (hst : StepTOk T.call) (M : Int) (c : Cell) (R : Store) (mu : Bool) (xs : List Str) (n : Nat) (hs : SrcC M c) (hM : M + 50 < LIM) (h0 : 0 < xs.length) (hx : Nms xs) (hn : n ≤ 5) :
    DS (cutR mu (c :: R) (endR (B__law_deed T mu [some (.ref 0), some (.d (.lst (xs.map D.str))), some (.d (.int n)), none, none, none, none] (c :: R)))) R (M + 50) (DeedT n) := by
  have hM : M + 50 < 1000000000000 := hM
  have h4 := hx.le
  refine DS.cutv ?_
  rw [w_end]
  unfold B__law_deed
  simp only [w_asO, w_ok, w_bind, w_up, w_upU, w_V0, w_VS, w_C, w_O1, w_O2, w_OA, w_OU, w_ix, w_call, w_nil, w_cons, w_dnil, w_dcons, w_tup, w_lst, w_lstM, w_dct0, w_if, w_and, w_or, w_not, w_tAnd, w_tOr, w_tNot, w_tB, w_tTru, w_chain, w_goN, w_goS, w_sl, w_attr, w_meth, uBl_b, uInt_i, s_nil, s_seq, s_drop, s_ret, s_retN, s_if, s_asg, s_par2, s_par3, s_asgT, s_break, s_cont, t_name, t_sub, t_attr, t_tup, t_nil, t_cons, set0, setS, s_for, w_giE, w_gir1, w_gir2, w_gizip, w_gienum, w_lc, Option.bind_some, Option.map_some, mkU_f, mkU_i, mkU_b, mkU_s, mkU_t, mkU_n, w_OR, w_cmp, w_bin, w_truO, w_jn, w_js, w_spl, t_star, strU_s, vw_d, vw_ref, fr_d, fr_ref, f1_d, f2_d, f1_u, f2_u, fA_1, fA_u, vws_nil, vws_cons, ixU_d, ixU_ref, cIx_l, cV_l, g0, gS, st0, stS, ix_l, ix_t, add_ii, sub_ii, eq_ii, cmp_ii, int_i, len_l, len_t, len_s, noI_d, noI_r, ni_int, ni_str, ni_bl, ni_non, ni_tup, ni_lst, nc_lst, nc_lsu, cmp_eq, cmp_ne, cmp_in, cmp_ni, bin_no, tru_no, lenR_no, Option.elim_some, iter_l, len_c, app_c]
  refine lc_items (by simp; omega) (fun i acc S' => ∃ (ys : List Str) (c' : Cell), acc = ys.map D.str ∧ ys.Sublist (xs.take i) ∧ S' = c' :: (R ++ [.lst acc]) ∧ SrcC (M + i) c') ⟨[], c, rfl, by simp, rfl, by simpa using hs⟩ ?_ ?_
  · rintro i acc S' hi _ ⟨ys, c', rfl, h1, rfl, h3⟩
    have hi' : i < xs.length := by simpa using hi
    rw [getD_map D.str hi']
    simp only [CT.put, testLc, wipeD, setAll, List.map_cons, List.map_nil, set0, setS, w_asO, w_ok, w_bind, w_up, w_upU, w_V0, w_VS, w_C, w_O1, w_O2, w_OA, w_OU, w_ix, w_call, w_nil, w_cons, w_dnil, w_dcons, w_tup, w_lst, w_lstM, w_dct0, w_if, w_and, w_or, w_not, w_tAnd, w_tOr, w_tNot, w_tB, w_tTru, w_chain, w_goN, w_goS, w_sl, w_attr, w_meth, uBl_b, uInt_i, s_nil, s_seq, s_drop, s_ret, s_retN, s_if, s_asg, s_par2, s_par3, s_asgT, s_break, s_cont, t_name, t_sub, t_attr, t_tup, t_nil, t_cons, set0, setS, s_for, w_giE, w_gir1, w_gir2, w_gizip, w_gienum, w_lc, Option.bind_some, Option.map_some, mkU_f, mkU_i, mkU_b, mkU_s, mkU_t, mkU_n, w_OR, w_cmp, w_bin, w_truO, w_jn, w_js, w_spl, t_star, strU_s]
    refine (hd.ds h3 (show M + i < 1000000000000 by omega) (by decide) (by decide)).use ?_
    rintro y c2 hc2 ⟨v, rfl, v0, v1⟩
    have e : xs.take (i + 1) = xs.take i ++ [xs[i]] := by rw [List.take_succ, List.getElem?_eq_getElem hi']; rfl
    simp only [w_asO, w_ok, w_bind, w_up, w_upU, w_V0, w_VS, w_C, w_O1, w_O2, w_OA, w_OU, w_ix, w_call, w_nil, w_cons, w_dnil, w_dcons, w_tup, w_lst, w_lstM, w_dct0, w_if, w_and, w_or, w_not, w_tAnd, w_tOr, w_tNot, w_tB, w_tTru, w_chain, w_goN, w_goS, w_sl, w_attr, w_meth, uBl_b, uInt_i, s_nil, s_seq, s_drop, s_ret, s_retN, s_if, s_asg, s_par2, s_par3, s_asgT, s_break, s_cont, t_name, t_sub, t_attr, t_tup, t_nil, t_cons, set0, setS, s_for, w_giE, w_gir1, w_gir2, w_gizip, w_gienum, w_lc, Option.bind_some, Option.map_some, mkU_f, mkU_i, mkU_b, mkU_s, mkU_t, mkU_n, w_OR, w_cmp, w_bin, w_truO, w_jn, w_js, w_spl, t_star, strU_s, vw_d, vw_ref, fr_d, fr_ref, f1_d, f2_d, f1_u, f2_u, fA_1, fA_u, vws_nil, vws_cons, ixU_d, ixU_ref, cIx_l, cV_l, g0, gS, st0, stS, ix_l, ix_t, add_ii, sub_ii, eq_ii, cmp_ii, int_i, len_l, len_t, len_s, noI_d, noI_r, ni_int, ni_str, ni_bl, ni_non, ni_tup, ni_lst, nc_lst, nc_lsu, cmp_eq, cmp_ne, cmp_in, cmp_ni, bin_no, tru_no, lenR_no, Option.elim_some]
    by_cases hv : 0 < v
    · simp only [hv, decide_true, if_true, w_asO, w_ok, w_bind, w_up, w_upU, w_V0, w_VS, w_C, w_O1, w_O2, w_OA, w_OU, w_ix, w_call, w_nil, w_cons, w_dnil, w_dcons, w_tup, w_lst, w_lstM, w_dct0, w_if, w_and, w_or, w_not, w_tAnd, w_tOr, w_tNot, w_tB, w_tTru, w_chain, w_goN, w_goS, w_sl, w_attr, w_meth, uBl_b, uInt_i, s_nil, s_seq, s_drop, s_ret, s_retN, s_if, s_asg, s_par2, s_par3, s_asgT, s_break, s_cont, t_name, t_sub, t_attr, t_tup, t_nil, t_cons, set0, setS, s_for, w_giE, w_gir1, w_gir2, w_gizip, w_gienum, w_lc, Option.bind_some, Option.map_some, mkU_f, mkU_i, mkU_b, mkU_s, mkU_t, mkU_n, w_OR, w_cmp, w_bin, w_truO, w_jn, w_js, w_spl, t_star, strU_s, vw_d, vw_ref, fr_d, fr_ref, f1_d, f2_d, f1_u, f2_u, fA_1, fA_u, vws_nil, vws_cons, ixU_d, ixU_ref, cIx_l, cV_l, g0, gS, st0, stS, ix_l, ix_t, add_ii, sub_ii, eq_ii, cmp_ii, int_i, len_l, len_t, len_s, noI_d, noI_r, ni_int, ni_str, ni_bl, ni_non, ni_tup, ni_lst, nc_lst, nc_lsu, cmp_eq, cmp_ne, cmp_in, cmp_ni, bin_no, tru_no, lenR_no, Option.elim_some, gE, stE]
      refine ⟨trivial, ys ++ [xs[i]], c2, by simp, ?_, rfl, hc2.mono (by omega)⟩
      rw [e]
      exact h1.append (List.Sublist.refl _)
    · simp only [hv, decide_false, Bool.false_eq_true, if_false]
      refine ⟨ys, c2, rfl, ?_, rfl, hc2.mono (by omega)⟩
      rw [e]
      exact h1.trans (List.sublist_append_left _ _)
  · rintro acc S' _ ⟨ys, c1, rfl, h1, rfl, h3⟩
    rw [flst_s _ _ _ _ (h3.refs _), w_ok]
    rw [List.length_map, List.take_length] at h1
    have hy := h1.length_le
    simp only [w_asO, w_ok, w_bind, w_up, w_upU, w_V0, w_VS, w_C, w_O1, w_O2, w_OA, w_OU, w_ix, w_call, w_nil, w_cons, w_dnil, w_dcons, w_tup, w_lst, w_lstM, w_dct0, w_if, w_and, w_or, w_not, w_tAnd, w_tOr, w_tNot, w_tB, w_tTru, w_chain, w_goN, w_goS, w_sl, w_attr, w_meth, uBl_b, uInt_i, s_nil, s_seq, s_drop, s_ret, s_retN, s_if, s_asg, s_par2, s_par3, s_asgT, s_break, s_cont, t_name, t_sub, t_attr, t_tup, t_nil, t_cons, set0, setS, s_for, w_giE, w_gir1, w_gir2, w_gizip, w_gienum, w_lc, Option.bind_some, Option.map_some, mkU_f, mkU_i, mkU_b, mkU_s, mkU_t, mkU_n, w_OR, w_cmp, w_bin, w_truO, w_jn, w_js, w_spl, t_star, strU_s, vw_d, vw_ref, fr_d, fr_ref, f1_d, f2_d, f1_u, f2_u, fA_1, fA_u, vws_nil, vws_cons, ixU_d, ixU_ref, cIx_l, cV_l, g0, gS, st0, stS, ix_l, ix_t, add_ii, sub_ii, eq_ii, cmp_ii, int_i, len_l, len_t, len_s, noI_d, noI_r, ni_int, ni_str, ni_bl, ni_non, ni_tup, ni_lst, nc_lst, nc_lsu, cmp_eq, cmp_ne, cmp_in, cmp_ni, bin_no, tru_no, lenR_no, Option.elim_some, sorted_strs (show ys.length < 64 by omega)]
    refine (hd.ds h3 (show M + _ < 1000000000000 by rw [List.length_map]; omega) (by omega) (by omega)).use ?_
    rintro y c2 hc2 ⟨v, rfl, v0, v1⟩
    have rg : rangeOf1 [U.d (.int v)] = some (srcRange 0 v.toNat) := if_pos (by omega)
    simp only [w_asO, w_ok, w_bind, w_up, w_upU, w_V0, w_VS, w_C, w_O1, w_O2, w_OA, w_OU, w_ix, w_call, w_nil, w_cons, w_dnil, w_dcons, w_tup, w_lst, w_lstM, w_dct0, w_if, w_and, w_or, w_not, w_tAnd, w_tOr, w_tNot, w_tB, w_tTru, w_chain, w_goN, w_goS, w_sl, w_attr, w_meth, uBl_b, uInt_i, s_nil, s_seq, s_drop, s_ret, s_retN, s_if, s_asg, s_par2, s_par3, s_asgT, s_break, s_cont, t_name, t_sub, t_attr, t_tup, t_nil, t_cons, set0, setS, s_for, w_giE, w_gir1, w_gir2, w_gizip, w_gienum, w_lc, Option.bind_some, Option.map_some, mkU_f, mkU_i, mkU_b, mkU_s, mkU_t, mkU_n, w_OR, w_cmp, w_bin, w_truO, w_jn, w_js, w_spl, t_star, strU_s, vw_d, vw_ref, fr_d, fr_ref, f1_d, f2_d, f1_u, f2_u, fA_1, fA_u, vws_nil, vws_cons, ixU_d, ixU_ref, cIx_l, cV_l, g0, gS, st0, stS, ix_l, ix_t, add_ii, sub_ii, eq_ii, cmp_ii, int_i, len_l, len_t, len_s, noI_d, noI_r, ni_int, ni_str, ni_bl, ni_non, ni_tup, ni_lst, nc_lst, nc_lsu, cmp_eq, cmp_ne, cmp_in, cmp_ni, bin_no, tru_no, lenR_no, Option.elim_some, rg, len_c, app_c]
    refine lc_range (by omega) (fun i acc S' => ∃ (ss : List Stp) (c' : Cell), acc = ss.map Stp.d ∧ ss.length = i ∧ (∀ s ∈ ss, s.ok) ∧ S' = c' :: (R ++ [.lst acc]) ∧ SrcC (M + 6 + 5 * i) c') ⟨[], c2, rfl, rfl, (fun c hc => absurd hc List.not_mem_nil), rfl, hc2.mono (by rw [List.length_map]; omega)⟩ ?_ ?_
    · rintro i acc S' hi _ ⟨ss, c', rfl, h1', h2, rfl, h4'⟩
      simp only [CT.put, testLc, wipeD, setAll, List.map_cons, List.map_nil, set0, setS, w_asO, w_ok, w_bind, w_up, w_upU, w_V0, w_VS, w_C, w_O1, w_O2, w_OA, w_OU, w_ix, w_call, w_nil, w_cons, w_dnil, w_dcons, w_tup, w_lst, w_lstM, w_dct0, w_if, w_and, w_or, w_not, w_tAnd, w_tOr, w_tNot, w_tB, w_tTru, w_chain, w_goN, w_goS, w_sl, w_attr, w_meth, uBl_b, uInt_i, s_nil, s_seq, s_drop, s_ret, s_retN, s_if, s_asg, s_par2, s_par3, s_asgT, s_break, s_cont, t_name, t_sub, t_attr, t_tup, t_nil, t_cons, set0, setS, s_for, w_giE, w_gir1, w_gir2, w_gizip, w_gienum, w_lc, Option.bind_some, Option.map_some, mkU_f, mkU_i, mkU_b, mkU_s, mkU_t, mkU_n, w_OR, w_cmp, w_bin, w_truO, w_jn, w_js, w_spl, t_star, strU_s, if_true]
      refine (hst _ c' _ false xs h4' (show _ < (1000000000000 : Int) by omega) h0 hx).use ?_
      rintro y c3 hc3 ⟨s, rfl, hs'⟩
      simp only [vw_d, vw_ref, fr_d, fr_ref, f1_d, f2_d, f1_u, f2_u, fA_1, fA_u, vws_nil, vws_cons, ixU_d, ixU_ref, cIx_l, cV_l, g0, gS, st0, stS, ix_l, ix_t, add_ii, sub_ii, eq_ii, cmp_ii, int_i, len_l, len_t, len_s, noI_d, noI_r, ni_int, ni_str, ni_bl, ni_non, ni_tup, ni_lst, nc_lst, nc_lsu, cmp_eq, cmp_ne, cmp_in, cmp_ni, bin_no, tru_no, lenR_no, Option.elim_some, gE, stE, w_asO, w_ok, w_bind, w_up, w_upU, w_V0, w_VS, w_C, w_O1, w_O2, w_OA, w_OU, w_ix, w_call, w_nil, w_cons, w_dnil, w_dcons, w_tup, w_lst, w_lstM, w_dct0, w_if, w_and, w_or, w_not, w_tAnd, w_tOr, w_tNot, w_tB, w_tTru, w_chain, w_goN, w_goS, w_sl, w_attr, w_meth, uBl_b, uInt_i, s_nil, s_seq, s_drop, s_ret, s_retN, s_if, s_asg, s_par2, s_par3, s_asgT, s_break, s_cont, t_name, t_sub, t_attr, t_tup, t_nil, t_cons, set0, setS, s_for, w_giE, w_gir1, w_gir2, w_gizip, w_gienum, w_lc, Option.bind_some, Option.map_some, mkU_f, mkU_i, mkU_b, mkU_s, mkU_t, mkU_n, w_OR, w_cmp, w_bin, w_truO, w_jn, w_js, w_spl, t_star, strU_s]
      refine ⟨trivial, ss ++ [s], c3, by simp, by simp [h1'], ?_, rfl, hc3.mono (by omega)⟩
      intro a ha
      rcases List.mem_append.mp ha with ha | ha
      · exact h2 a ha
      · rw [List.mem_singleton.mp ha]; exact hs'
    · rintro acc S' _ ⟨ss, c3, rfl, h1', h2, rfl, h4'⟩
      rw [flst_s _ _ _ _ (h4'.refs _), w_ok]
      try simp only [w_asO, w_ok, w_bind, w_up, w_upU, w_V0, w_VS, w_C, w_O1, w_O2, w_OA, w_OU, w_ix, w_call, w_nil, w_cons, w_dnil, w_dcons, w_tup, w_lst, w_lstM, w_dct0, w_if, w_and, w_or, w_not, w_tAnd, w_tOr, w_tNot, w_tB, w_tTru, w_chain, w_goN, w_goS, w_sl, w_attr, w_meth, uBl_b, uInt_i, s_nil, s_seq, s_drop, s_ret, s_retN, s_if, s_asg, s_par2, s_par3, s_asgT, s_break, s_cont, t_name, t_sub, t_attr, t_tup, t_nil, t_cons, set0, setS, s_for, w_giE, w_gir1, w_gir2, w_gizip, w_gienum, w_lc, Option.bind_some, Option.map_some, mkU_f, mkU_i, mkU_b, mkU_s, mkU_t, mkU_n, w_OR, w_cmp, w_bin, w_truO, w_jn, w_js, w_spl, t_star, strU_s]
      refine (ho _ c3 R false _ (asks.map D.str) h4' (show _ < (1000000000000 : Int) by omega) (.inl rfl) (by decide) (by decide)).use ?_
      rintro y c4 hc4 hy4
      obtain ⟨a, ha, rfl⟩ := List.mem_map.mp hy4
      simp only [w_asO, w_ok, w_bind, w_up, w_upU, w_V0, w_VS, w_C, w_O1, w_O2, w_OA, w_OU, w_ix, w_call, w_nil, w_cons, w_dnil, w_dcons, w_tup, w_lst, w_lstM, w_dct0, w_if, w_and, w_or, w_not, w_tAnd, w_tOr, w_tNot, w_tB, w_tTru, w_chain, w_goN, w_goS, w_sl, w_attr, w_meth, uBl_b, uInt_i, s_nil, s_seq, s_drop, s_ret, s_retN, s_if, s_asg, s_par2, s_par3, s_asgT, s_break, s_cont, t_name, t_sub, t_attr, t_tup, t_nil, t_cons, set0, setS, s_for, w_giE, w_gir1, w_gir2, w_gizip, w_gienum, w_lc, Option.bind_some, Option.map_some, mkU_f, mkU_i, mkU_b, mkU_s, mkU_t, mkU_n, w_OR, w_cmp, w_bin, w_truO, w_jn, w_js, w_spl, t_star, strU_s, vw_d, vw_ref, fr_d, fr_ref, f1_d, f2_d, f1_u, f2_u, fA_1, fA_u, vws_nil, vws_cons, ixU_d, ixU_ref, cIx_l, cV_l, g0, gS, st0, stS, ix_l, ix_t, add_ii, sub_ii, eq_ii, cmp_ii, int_i, len_l, len_t, len_s, noI_d, noI_r, ni_int, ni_str, ni_bl, ni_non, ni_tup, ni_lst, nc_lst, nc_lsu, cmp_eq, cmp_ne, cmp_in, cmp_ni, bin_no, tru_no, lenR_no, Option.elim_some]
      exact ⟨_, c4, [], rfl, by simp, hc4.mono (by omega), ⟨sortS ys, ss, a⟩, rfl, ⟨(hx.sub h1).sort, sortS_idem ys, by show ss.length ≤ 5; omega, h2, ha⟩, by show ss.length ≤ n; omega⟩
end
end Dv
set_option maxRecDepth 100000
set_option maxHeartbeats 1000000
namespace Dv
open PySem PySem.Spec PyProof.Rows L2
noncomputable section
theorem a30 (x y z : D) : atI [x, y, z] 0 = some x := rfl
theorem a31 (x y z : D) : atI [x, y, z] 1 = some y := rfl
theorem a32 (x y z : D) : atI [x, y, z] 2 = some z := rfl
theorem Lq.ix {S : Store} {u : U} {ds : List D} (h : Lq S u ds) {i : Int} {x : D} (h0 : 0 ≤ i) (hx : ds[i.toNat]? = some x) : ixU S u (.d (.int i)) = some (.d x) := by
  rcases h with rfl | ⟨n, rfl, e⟩
  · rw [ixU_d, f2_d, ix_l, atI_nat h0 hx]; rfl
  · rw [ixU_ref, e]
    show (f2 dIx S (.ref n) (.d (.int i))).map U.d = _
    rw [f2_u, vw_ref, e, vw_d]
    show (dIx (.lst ds) (.int i)).map U.d = _
    rw [ix_l, atI_nat h0 hx]; rfl
theorem new_deed {C : Cs} (hi : InitOk C) {S : Store} {u : U} {xs : List Str} {ds : List D} {d : Dd} {ks : List Str} {ws : List U} (hk : ks = [("ask" : Str)] ∧ ws = [.d (.str d.ask)] ∨ ks = [] ∧ ws = [] ∧ d.ask = "none") (hu : Lq S u (xs.map D.str)) (hp : xs.Perm d.when) (hd : d.ok) (hg : ∀ x ∈ ds, Good x) (hs : ds.map stepOf = d.steps.map Stp.d) :
    mkIns false "Deed" (C "Deed.__init__" false ks) (u :: ds.map U.d) ws S = .ok (.d d.own) S := ins_new (hi S u xs ds d ks ws hk hu hp hd hg hs)
def DeedCallOk (C : Cs) : Prop := ∀ (S : Store) (u v : U) (xs : List Str) (ds : List D) (d : Dd) (mu : Bool), Lq S u (xs.map D.str) → Lq S v ds → xs.Perm d.when → d.ok → (∀ x ∈ ds, Good x) → ds.map stepOf = d.steps.map Stp.d → C "_law_deed_call" mu [] [u, v, .d (.str d.ask)] [] S = .ok (.d d.own) S
theorem deed_call_B {T : Tab} (hi : InitOk T.call) (S : Store) (u v : U) (xs : List Str) (ds : List D) (d : Dd) (mu : Bool) (hu : Lq S u (xs.map D.str)) (hv : Lq S v ds) (hp : xs.Perm d.when) (hd : d.ok) (hg : ∀ x ∈ ds, Good x) (hs : ds.map stepOf = d.steps.map Stp.d) :
    cutR mu S (endR (B__law_deed_call T mu [some u, some v, some (.d (.str d.ask))] S)) = .ok (.d d.own) S := by
  refine cut_val ?_
  rw [w_end]
  unfold B__law_deed_call
  have hl : ds.length ≤ 5 := by have := congrArg List.length hs; simp at this; have := hd.le; omega
  have nd := new_deed hi (ks := ["ask"]) (ws := [.d (.str d.ask)]) (.inl ⟨rfl, rfl⟩) hu hp hd hg hs
  match ds, hl with
  | [], _ =>
    have c1 : decide (((0 : Nat) : Int) < 2) = true := by decide
    have c2 : decide (((0 : Nat) : Int) = 0) = true := by decide
    rw [List.map_nil] at nd
    simp only [w_asO, w_ok, w_bind, w_up, w_upU, w_V0, w_VS, w_C, w_O1, w_O2, w_OA, w_OU, w_ix, w_call, w_nil, w_cons, w_dnil, w_dcons, w_tup, w_lst, w_lstM, w_dct0, w_if, w_and, w_or, w_not, w_tAnd, w_tOr, w_tNot, w_tB, w_tTru, w_chain, w_goN, w_goS, w_sl, w_attr, w_meth, uBl_b, uInt_i, s_nil, s_seq, s_drop, s_ret, s_retN, s_if, s_asg, s_par2, s_par3, s_asgT, s_break, s_cont, t_name, t_sub, t_attr, t_tup, t_nil, t_cons, set0, setS, s_for, w_giE, w_gir1, w_gir2, w_gizip, w_gienum, w_lc, Option.bind_some, Option.map_some, mkU_f, mkU_i, mkU_b, mkU_s, mkU_t, mkU_n, w_OR, w_cmp, w_bin, w_truO, w_jn, w_js, w_spl, t_star, strU_s, vw_d, vw_ref, fr_d, fr_ref, f1_d, f2_d, f1_u, f2_u, fA_1, fA_u, vws_nil, vws_cons, ixU_d, ixU_ref, cIx_l, cV_l, g0, gS, st0, stS, ix_l, ix_t, add_ii, sub_ii, eq_ii, cmp_ii, int_i, len_l, len_t, len_s, noI_d, noI_r, ni_int, ni_str, ni_bl, ni_non, ni_tup, ni_lst, nc_lst, nc_lsu, cmp_eq, cmp_ne, cmp_in, cmp_ni, bin_no, tru_no, lenR_no, Option.elim_some, hv.vw, List.length_nil, c1, c2, if_true, nd]
    exact ⟨trivial, [], by simp⟩
  | [a0], _ =>
    have c1 : decide (((1 : Nat) : Int) < 2) = true := by decide
    have c2 : decide (((1 : Nat) : Int) = 0) = false := by decide
    rw [List.map_cons, List.map_nil] at nd
    simp only [w_asO, w_ok, w_bind, w_up, w_upU, w_V0, w_VS, w_C, w_O1, w_O2, w_OA, w_OU, w_ix, w_call, w_nil, w_cons, w_dnil, w_dcons, w_tup, w_lst, w_lstM, w_dct0, w_if, w_and, w_or, w_not, w_tAnd, w_tOr, w_tNot, w_tB, w_tTru, w_chain, w_goN, w_goS, w_sl, w_attr, w_meth, uBl_b, uInt_i, s_nil, s_seq, s_drop, s_ret, s_retN, s_if, s_asg, s_par2, s_par3, s_asgT, s_break, s_cont, t_name, t_sub, t_attr, t_tup, t_nil, t_cons, set0, setS, s_for, w_giE, w_gir1, w_gir2, w_gizip, w_gienum, w_lc, Option.bind_some, Option.map_some, mkU_f, mkU_i, mkU_b, mkU_s, mkU_t, mkU_n, w_OR, w_cmp, w_bin, w_truO, w_jn, w_js, w_spl, t_star, strU_s, vw_d, vw_ref, fr_d, fr_ref, f1_d, f2_d, f1_u, f2_u, fA_1, fA_u, vws_nil, vws_cons, ixU_d, ixU_ref, cIx_l, cV_l, g0, gS, st0, stS, ix_l, ix_t, add_ii, sub_ii, eq_ii, cmp_ii, int_i, len_l, len_t, len_s, noI_d, noI_r, ni_int, ni_str, ni_bl, ni_non, ni_tup, ni_lst, nc_lst, nc_lsu, cmp_eq, cmp_ne, cmp_in, cmp_ni, bin_no, tru_no, lenR_no, Option.elim_some, hv.vw, List.length_cons, List.length_nil, Nat.zero_add, c1, c2, if_true, Bool.false_eq_true, if_false, hv.ix (i := 0) (by decide) rfl, nd]
    exact ⟨trivial, [], by simp⟩
  | [a0, a1], _ =>
    have c1 : decide (((2 : Nat) : Int) < 2) = false := by decide
    have c2 : decide (((2 : Nat) : Int) = 2) = true := by decide
    rw [List.map_cons, List.map_cons, List.map_nil] at nd
    simp only [w_asO, w_ok, w_bind, w_up, w_upU, w_V0, w_VS, w_C, w_O1, w_O2, w_OA, w_OU, w_ix, w_call, w_nil, w_cons, w_dnil, w_dcons, w_tup, w_lst, w_lstM, w_dct0, w_if, w_and, w_or, w_not, w_tAnd, w_tOr, w_tNot, w_tB, w_tTru, w_chain, w_goN, w_goS, w_sl, w_attr, w_meth, uBl_b, uInt_i, s_nil, s_seq, s_drop, s_ret, s_retN, s_if, s_asg, s_par2, s_par3, s_asgT, s_break, s_cont, t_name, t_sub, t_attr, t_tup, t_nil, t_cons, set0, setS, s_for, w_giE, w_gir1, w_gir2, w_gizip, w_gienum, w_lc, Option.bind_some, Option.map_some, mkU_f, mkU_i, mkU_b, mkU_s, mkU_t, mkU_n, w_OR, w_cmp, w_bin, w_truO, w_jn, w_js, w_spl, t_star, strU_s, vw_d, vw_ref, fr_d, fr_ref, f1_d, f2_d, f1_u, f2_u, fA_1, fA_u, vws_nil, vws_cons, ixU_d, ixU_ref, cIx_l, cV_l, g0, gS, st0, stS, ix_l, ix_t, add_ii, sub_ii, eq_ii, cmp_ii, int_i, len_l, len_t, len_s, noI_d, noI_r, ni_int, ni_str, ni_bl, ni_non, ni_tup, ni_lst, nc_lst, nc_lsu, cmp_eq, cmp_ne, cmp_in, cmp_ni, bin_no, tru_no, lenR_no, Option.elim_some, hv.vw, List.length_cons, List.length_nil, Nat.zero_add, Nat.reduceAdd, c1, c2, if_true, Bool.false_eq_true, if_false, hv.ix (i := 0) (by decide) rfl, hv.ix (i := 1) (by decide) rfl, nd]
    exact ⟨trivial, [], by simp⟩
  | [a0, a1, a2], _ =>
    have c1 : decide (((3 : Nat) : Int) < 2) = false := by decide
    have c2 : decide (((3 : Nat) : Int) = 2) = false := by decide
    have c3 : decide (((3 : Nat) : Int) = 3) = true := by decide
    rw [List.map_cons, List.map_cons, List.map_cons, List.map_nil] at nd
    simp only [w_asO, w_ok, w_bind, w_up, w_upU, w_V0, w_VS, w_C, w_O1, w_O2, w_OA, w_OU, w_ix, w_call, w_nil, w_cons, w_dnil, w_dcons, w_tup, w_lst, w_lstM, w_dct0, w_if, w_and, w_or, w_not, w_tAnd, w_tOr, w_tNot, w_tB, w_tTru, w_chain, w_goN, w_goS, w_sl, w_attr, w_meth, uBl_b, uInt_i, s_nil, s_seq, s_drop, s_ret, s_retN, s_if, s_asg, s_par2, s_par3, s_asgT, s_break, s_cont, t_name, t_sub, t_attr, t_tup, t_nil, t_cons, set0, setS, s_for, w_giE, w_gir1, w_gir2, w_gizip, w_gienum, w_lc, Option.bind_some, Option.map_some, mkU_f, mkU_i, mkU_b, mkU_s, mkU_t, mkU_n, w_OR, w_cmp, w_bin, w_truO, w_jn, w_js, w_spl, t_star, strU_s, vw_d, vw_ref, fr_d, fr_ref, f1_d, f2_d, f1_u, f2_u, fA_1, fA_u, vws_nil, vws_cons, ixU_d, ixU_ref, cIx_l, cV_l, g0, gS, st0, stS, ix_l, ix_t, add_ii, sub_ii, eq_ii, cmp_ii, int_i, len_l, len_t, len_s, noI_d, noI_r, ni_int, ni_str, ni_bl, ni_non, ni_tup, ni_lst, nc_lst, nc_lsu, cmp_eq, cmp_ne, cmp_in, cmp_ni, bin_no, tru_no, lenR_no, Option.elim_some, hv.vw, List.length_cons, List.length_nil, Nat.zero_add, Nat.reduceAdd, c1, c2, c3, if_true, Bool.false_eq_true, if_false, hv.ix (i := 0) (by decide) rfl, hv.ix (i := 1) (by decide) rfl, hv.ix (i := 2) (by decide) rfl, nd]
    exact ⟨trivial, [], by simp⟩
  | [a0, a1, a2, a3], _ =>
    have c1 : decide (((4 : Nat) : Int) < 2) = false := by decide
    have c2 : decide (((4 : Nat) : Int) = 2) = false := by decide
    have c3 : decide (((4 : Nat) : Int) = 3) = false := by decide
    have c4 : decide (((4 : Nat) : Int) = 4) = true := by decide
    rw [List.map_cons, List.map_cons, List.map_cons, List.map_cons, List.map_nil] at nd
    simp only [w_asO, w_ok, w_bind, w_up, w_upU, w_V0, w_VS, w_C, w_O1, w_O2, w_OA, w_OU, w_ix, w_call, w_nil, w_cons, w_dnil, w_dcons, w_tup, w_lst, w_lstM, w_dct0, w_if, w_and, w_or, w_not, w_tAnd, w_tOr, w_tNot, w_tB, w_tTru, w_chain, w_goN, w_goS, w_sl, w_attr, w_meth, uBl_b, uInt_i, s_nil, s_seq, s_drop, s_ret, s_retN, s_if, s_asg, s_par2, s_par3, s_asgT, s_break, s_cont, t_name, t_sub, t_attr, t_tup, t_nil, t_cons, set0, setS, s_for, w_giE, w_gir1, w_gir2, w_gizip, w_gienum, w_lc, Option.bind_some, Option.map_some, mkU_f, mkU_i, mkU_b, mkU_s, mkU_t, mkU_n, w_OR, w_cmp, w_bin, w_truO, w_jn, w_js, w_spl, t_star, strU_s, vw_d, vw_ref, fr_d, fr_ref, f1_d, f2_d, f1_u, f2_u, fA_1, fA_u, vws_nil, vws_cons, ixU_d, ixU_ref, cIx_l, cV_l, g0, gS, st0, stS, ix_l, ix_t, add_ii, sub_ii, eq_ii, cmp_ii, int_i, len_l, len_t, len_s, noI_d, noI_r, ni_int, ni_str, ni_bl, ni_non, ni_tup, ni_lst, nc_lst, nc_lsu, cmp_eq, cmp_ne, cmp_in, cmp_ni, bin_no, tru_no, lenR_no, Option.elim_some, hv.vw, List.length_cons, List.length_nil, Nat.zero_add, Nat.reduceAdd, c1, c2, c3, c4, if_true, Bool.false_eq_true, if_false, hv.ix (i := 0) (by decide) rfl, hv.ix (i := 1) (by decide) rfl, hv.ix (i := 2) (by decide) rfl, hv.ix (i := 3) (by decide) rfl, nd]
    exact ⟨trivial, [], by simp⟩
  | [a0, a1, a2, a3, a4], _ =>
    have c1 : decide (((5 : Nat) : Int) < 2) = false := by decide
    have c2 : decide (((5 : Nat) : Int) = 2) = false := by decide
    have c3 : decide (((5 : Nat) : Int) = 3) = false := by decide
    have c4 : decide (((5 : Nat) : Int) = 4) = false := by decide
    have c5 : decide (((5 : Nat) : Int) = 5) = true := by decide
    rw [List.map_cons, List.map_cons, List.map_cons, List.map_cons, List.map_cons, List.map_nil] at nd
    simp only [w_asO, w_ok, w_bind, w_up, w_upU, w_V0, w_VS, w_C, w_O1, w_O2, w_OA, w_OU, w_ix, w_call, w_nil, w_cons, w_dnil, w_dcons, w_tup, w_lst, w_lstM, w_dct0, w_if, w_and, w_or, w_not, w_tAnd, w_tOr, w_tNot, w_tB, w_tTru, w_chain, w_goN, w_goS, w_sl, w_attr, w_meth, uBl_b, uInt_i, s_nil, s_seq, s_drop, s_ret, s_retN, s_if, s_asg, s_par2, s_par3, s_asgT, s_break, s_cont, t_name, t_sub, t_attr, t_tup, t_nil, t_cons, set0, setS, s_for, w_giE, w_gir1, w_gir2, w_gizip, w_gienum, w_lc, Option.bind_some, Option.map_some, mkU_f, mkU_i, mkU_b, mkU_s, mkU_t, mkU_n, w_OR, w_cmp, w_bin, w_truO, w_jn, w_js, w_spl, t_star, strU_s, vw_d, vw_ref, fr_d, fr_ref, f1_d, f2_d, f1_u, f2_u, fA_1, fA_u, vws_nil, vws_cons, ixU_d, ixU_ref, cIx_l, cV_l, g0, gS, st0, stS, ix_l, ix_t, add_ii, sub_ii, eq_ii, cmp_ii, int_i, len_l, len_t, len_s, noI_d, noI_r, ni_int, ni_str, ni_bl, ni_non, ni_tup, ni_lst, nc_lst, nc_lsu, cmp_eq, cmp_ne, cmp_in, cmp_ni, bin_no, tru_no, lenR_no, Option.elim_some, hv.vw, List.length_cons, List.length_nil, Nat.zero_add, Nat.reduceAdd, c1, c2, c3, c4, c5, if_true, Bool.false_eq_true, if_false, hv.ix (i := 0) (by decide) rfl, hv.ix (i := 1) (by decide) rfl, hv.ix (i := 2) (by decide) rfl, hv.ix (i := 3) (by decide) rfl, hv.ix (i := 4) (by decide) rfl, nd]
    exact ⟨trivial, [], by simp⟩
theorem Dd.pass (d : Dd) (h : d.ok) : (∀ x ∈ d.steps.map Stp.d, Good x) ∧ (d.steps.map Stp.d).map stepOf = d.steps.map Stp.d := by
  constructor
  · intro x hx
    obtain ⟨s, _, rfl⟩ := List.mem_map.mp hx
    exact s.good
  · rw [List.map_map]
    exact List.map_congr_left fun s hs => Passed.step (.inl rfl) (h.st s hs)
def DeedMadeOk (C : Cs) : Prop := ∀ (S : Store) (d : Dd) (mu : Bool), d.ok → C "_law_deed_made" mu [] [.d d.law] [] S = .ok (.d d.own) S
theorem deed_made_B {T : Tab} (hc : DeedCallOk T.call) (S : Store) (d : Dd) (mu : Bool) (hd : d.ok) : cutR mu S (endR (B__law_deed_made T mu [some (.d d.law)] S)) = .ok (.d d.own) S := by
  refine cut_val ?_
  rw [w_end]
  unfold B__law_deed_made
  obtain ⟨p1, p2⟩ := d.pass hd
  have e := hc S (.d (.lst (d.when.map D.str))) (.d (.lst (d.steps.map Stp.d))) d.when (d.steps.map Stp.d) d mu (.inl rfl) (.inl rfl) (.refl _) hd p1 p2
  unfold Dd.law
  simp only [w_asO, w_ok, w_bind, w_up, w_upU, w_V0, w_VS, w_C, w_O1, w_O2, w_OA, w_OU, w_ix, w_call, w_nil, w_cons, w_dnil, w_dcons, w_tup, w_lst, w_lstM, w_dct0, w_if, w_and, w_or, w_not, w_tAnd, w_tOr, w_tNot, w_tB, w_tTru, w_chain, w_goN, w_goS, w_sl, w_attr, w_meth, uBl_b, uInt_i, s_nil, s_seq, s_drop, s_ret, s_retN, s_if, s_asg, s_par2, s_par3, s_asgT, s_break, s_cont, t_name, t_sub, t_attr, t_tup, t_nil, t_cons, set0, setS, s_for, w_giE, w_gir1, w_gir2, w_gizip, w_gienum, w_lc, Option.bind_some, Option.map_some, mkU_f, mkU_i, mkU_b, mkU_s, mkU_t, mkU_n, w_OR, w_cmp, w_bin, w_truO, w_jn, w_js, w_spl, t_star, strU_s, vw_d, vw_ref, fr_d, fr_ref, f1_d, f2_d, f1_u, f2_u, fA_1, fA_u, vws_nil, vws_cons, ixU_d, ixU_ref, cIx_l, cV_l, g0, gS, st0, stS, ix_l, ix_t, add_ii, sub_ii, eq_ii, cmp_ii, int_i, len_l, len_t, len_s, noI_d, noI_r, ni_int, ni_str, ni_bl, ni_non, ni_tup, ni_lst, nc_lst, nc_lsu, cmp_eq, cmp_ne, cmp_in, cmp_ni, bin_no, tru_no, lenR_no, Option.elim_some, a30, a31, a32, list_l, e]
  exact ⟨trivial, [], by simp⟩
def WordsOfOk (C : Cs) : Prop := ∀ (S : Store) (d : Dd) (mu : Bool), d.ok → C "_law_words_of" mu [] [.d d.law] [] S = .ok (mkU mu (.lst (d.words.map D.str)) S).1 (mkU mu (.lst (d.words.map D.str)) S).2
theorem words_of_B {T : Tab} (d : Dd) (hd : d.ok) (mu : Bool) (S : Store) : cutR mu S (endR (B__law_words_of T mu [some (.d d.law), none, none] S)) = .ok (mkU mu (.lst (d.words.map D.str)) S).1 (mkU mu (.lst (d.words.map D.str)) S).2 := by
  refine cut_mk ?_
  rw [w_end]
  unfold B__law_words_of Dd.law
  simp only [w_asO, w_ok, w_bind, w_up, w_upU, w_V0, w_VS, w_C, w_O1, w_O2, w_OA, w_OU, w_ix, w_call, w_nil, w_cons, w_dnil, w_dcons, w_tup, w_lst, w_lstM, w_dct0, w_if, w_and, w_or, w_not, w_tAnd, w_tOr, w_tNot, w_tB, w_tTru, w_chain, w_goN, w_goS, w_sl, w_attr, w_meth, uBl_b, uInt_i, s_nil, s_seq, s_drop, s_ret, s_retN, s_if, s_asg, s_par2, s_par3, s_asgT, s_break, s_cont, t_name, t_sub, t_attr, t_tup, t_nil, t_cons, set0, setS, s_for, w_giE, w_gir1, w_gir2, w_gizip, w_gienum, w_lc, Option.bind_some, Option.map_some, mkU_f, mkU_i, mkU_b, mkU_s, mkU_t, mkU_n, w_OR, w_cmp, w_bin, w_truO, w_jn, w_js, w_spl, t_star, strU_s, vw_d, vw_ref, fr_d, fr_ref, f1_d, f2_d, f1_u, f2_u, fA_1, fA_u, vws_nil, vws_cons, ixU_d, ixU_ref, cIx_l, cV_l, g0, gS, st0, stS, ix_l, ix_t, add_ii, sub_ii, eq_ii, cmp_ii, int_i, len_l, len_t, len_s, noI_d, noI_r, ni_int, ni_str, ni_bl, ni_non, ni_tup, ni_lst, nc_lst, nc_lsu, cmp_eq, cmp_ne, cmp_in, cmp_ni, bin_no, tru_no, lenR_no, Option.elim_some, a30, a31, list_l, mkU_l, iter_l]
  refine for_items (by simp; have := hd.le; omega) (fun i ρ S' => ∃ o2 n, ρ = [some (.d d.law), some (.ref n), o2] ∧ Own S S' n ((flatTo d i).map D.str)) ⟨none, _, rfl, by simpa [flatTo] using Own.new0 (S := S) (d.when.map D.str)⟩ ?_ ?_
  · rintro i ρ S' hi ⟨o2, n, rfl, ho⟩
    have hi' : i < d.steps.length := by simpa using hi
    rw [getD_map Stp.d hi']
    have hok := hd.st _ (List.getElem_mem hi')
    have hs := flatTo_succ hi'
    have hl := flatTo_len hd (i + 1)
    have hl2 := flatTo_len hd i
    generalize d.steps[i] = s at hok hs
    rw [hs] at hl ⊢
    cases s with
    | one a =>
      have hok : a = "take" ∨ a = "put" ∨ a = "give" := hok
      have n1 : decide (a = "note") = false := by rcases hok with rfl | rfl | rfl <;> decide
      have n2 : decide (a = "check") = false := by rcases hok with rfl | rfl | rfl <;> decide
      simp only [Stp.d, w_asO, w_ok, w_bind, w_up, w_upU, w_V0, w_VS, w_C, w_O1, w_O2, w_OA, w_OU, w_ix, w_call, w_nil, w_cons, w_dnil, w_dcons, w_tup, w_lst, w_lstM, w_dct0, w_if, w_and, w_or, w_not, w_tAnd, w_tOr, w_tNot, w_tB, w_tTru, w_chain, w_goN, w_goS, w_sl, w_attr, w_meth, uBl_b, uInt_i, s_nil, s_seq, s_drop, s_ret, s_retN, s_if, s_asg, s_par2, s_par3, s_asgT, s_break, s_cont, t_name, t_sub, t_attr, t_tup, t_nil, t_cons, set0, setS, s_for, w_giE, w_gir1, w_gir2, w_gizip, w_gienum, w_lc, Option.bind_some, Option.map_some, mkU_f, mkU_i, mkU_b, mkU_s, mkU_t, mkU_n, w_OR, w_cmp, w_bin, w_truO, w_jn, w_js, w_spl, t_star, strU_s, vw_d, vw_ref, fr_d, fr_ref, f1_d, f2_d, f1_u, f2_u, fA_1, fA_u, vws_nil, vws_cons, ixU_d, ixU_ref, cIx_l, cV_l, g0, gS, st0, stS, ix_l, ix_t, add_ii, sub_ii, eq_ii, cmp_ii, int_i, len_l, len_t, len_s, noI_d, noI_r, ni_int, ni_str, ni_bl, ni_non, ni_tup, ni_lst, nc_lst, nc_lsu, cmp_eq, cmp_ne, cmp_in, cmp_ni, bin_no, tru_no, lenR_no, Option.elim_some, a10, eq_ss, n1, n2, Bool.false_eq_true, if_false]
      exact ⟨_, n, rfl, by simpa [Stp.ws] using ho⟩
    | note w =>
      have n1 : decide (("note" : Str) = "note") = true := by decide
      have n2 : decide (("note" : Str) = "check") = false := by decide
      simp only [Stp.d, w_asO, w_ok, w_bind, w_up, w_upU, w_V0, w_VS, w_C, w_O1, w_O2, w_OA, w_OU, w_ix, w_call, w_nil, w_cons, w_dnil, w_dcons, w_tup, w_lst, w_lstM, w_dct0, w_if, w_and, w_or, w_not, w_tAnd, w_tOr, w_tNot, w_tB, w_tTru, w_chain, w_goN, w_goS, w_sl, w_attr, w_meth, uBl_b, uInt_i, s_nil, s_seq, s_drop, s_ret, s_retN, s_if, s_asg, s_par2, s_par3, s_asgT, s_break, s_cont, t_name, t_sub, t_attr, t_tup, t_nil, t_cons, set0, setS, s_for, w_giE, w_gir1, w_gir2, w_gizip, w_gienum, w_lc, Option.bind_some, Option.map_some, mkU_f, mkU_i, mkU_b, mkU_s, mkU_t, mkU_n, w_OR, w_cmp, w_bin, w_truO, w_jn, w_js, w_spl, t_star, strU_s, vw_d, vw_ref, fr_d, fr_ref, f1_d, f2_d, f1_u, f2_u, fA_1, fA_u, vws_nil, vws_cons, ixU_d, ixU_ref, cIx_l, cV_l, g0, gS, st0, stS, ix_l, ix_t, add_ii, sub_ii, eq_ii, cmp_ii, int_i, len_l, len_t, len_s, noI_d, noI_r, ni_int, ni_str, ni_bl, ni_non, ni_tup, ni_lst, nc_lst, nc_lsu, cmp_eq, cmp_ne, cmp_in, cmp_ni, bin_no, tru_no, lenR_no, Option.elim_some, a20, a21, eq_ss, n1, n2, if_true, Bool.false_eq_true, if_false, ho.mth, mb_append, w_mb (h := mb_append), ho.ty, ho.app (show ((flatTo d i).map D.str).length < 1000000 by rw [List.length_map]; omega)]
      refine ⟨_, n, rfl, ?_⟩
      simpa [Stp.ws] using ho.put ((flatTo d i).map D.str ++ [.str w])
    | check ws =>
      have n1 : decide (("check" : Str) = "note") = false := by decide
      have n2 : decide (("check" : Str) = "check") = true := by decide
      have hw := hok.1.le
      simp only [Stp.d, w_asO, w_ok, w_bind, w_up, w_upU, w_V0, w_VS, w_C, w_O1, w_O2, w_OA, w_OU, w_ix, w_call, w_nil, w_cons, w_dnil, w_dcons, w_tup, w_lst, w_lstM, w_dct0, w_if, w_and, w_or, w_not, w_tAnd, w_tOr, w_tNot, w_tB, w_tTru, w_chain, w_goN, w_goS, w_sl, w_attr, w_meth, uBl_b, uInt_i, s_nil, s_seq, s_drop, s_ret, s_retN, s_if, s_asg, s_par2, s_par3, s_asgT, s_break, s_cont, t_name, t_sub, t_attr, t_tup, t_nil, t_cons, set0, setS, s_for, w_giE, w_gir1, w_gir2, w_gizip, w_gienum, w_lc, Option.bind_some, Option.map_some, mkU_f, mkU_i, mkU_b, mkU_s, mkU_t, mkU_n, w_OR, w_cmp, w_bin, w_truO, w_jn, w_js, w_spl, t_star, strU_s, vw_d, vw_ref, fr_d, fr_ref, f1_d, f2_d, f1_u, f2_u, fA_1, fA_u, vws_nil, vws_cons, ixU_d, ixU_ref, cIx_l, cV_l, g0, gS, st0, stS, ix_l, ix_t, add_ii, sub_ii, eq_ii, cmp_ii, int_i, len_l, len_t, len_s, noI_d, noI_r, ni_int, ni_str, ni_bl, ni_non, ni_tup, ni_lst, nc_lst, nc_lsu, cmp_eq, cmp_ne, cmp_in, cmp_ni, bin_no, tru_no, lenR_no, Option.elim_some, a20, a21, eq_ss, n1, n2, if_true, Bool.false_eq_true, if_false, list_t, ho.at_, add_ll ((flatTo d i).map D.str) (ws.map D.str) (by simp; omega), mkU_l]
      refine ⟨_, _, rfl, ?_⟩
      simpa [Stp.ws] using ho.more ((flatTo d i).map D.str ++ ws.map D.str)
  · rintro ρ S' ⟨o2, n, rfl, ho⟩
    rw [List.length_map, flatTo_all] at ho
    have hl := flatTo_len hd d.steps.length
    rw [flatTo_all] at hl
    simp only [w_asO, w_ok, w_bind, w_up, w_upU, w_V0, w_VS, w_C, w_O1, w_O2, w_OA, w_OU, w_ix, w_call, w_nil, w_cons, w_dnil, w_dcons, w_tup, w_lst, w_lstM, w_dct0, w_if, w_and, w_or, w_not, w_tAnd, w_tOr, w_tNot, w_tB, w_tTru, w_chain, w_goN, w_goS, w_sl, w_attr, w_meth, uBl_b, uInt_i, s_nil, s_seq, s_drop, s_ret, s_retN, s_if, s_asg, s_par2, s_par3, s_asgT, s_break, s_cont, t_name, t_sub, t_attr, t_tup, t_nil, t_cons, set0, setS, s_for, w_giE, w_gir1, w_gir2, w_gizip, w_gienum, w_lc, Option.bind_some, Option.map_some, mkU_f, mkU_i, mkU_b, mkU_s, mkU_t, mkU_n, w_OR, w_cmp, w_bin, w_truO, w_jn, w_js, w_spl, t_star, strU_s, vw_d, vw_ref, fr_d, fr_ref, f1_d, f2_d, f1_u, f2_u, fA_1, fA_u, vws_nil, vws_cons, ixU_d, ixU_ref, cIx_l, cV_l, g0, gS, st0, stS, ix_l, ix_t, add_ii, sub_ii, eq_ii, cmp_ii, int_i, len_l, len_t, len_s, noI_d, noI_r, ni_int, ni_str, ni_bl, ni_non, ni_tup, ni_lst, nc_lst, nc_lsu, cmp_eq, cmp_ne, cmp_in, cmp_ni, bin_no, tru_no, lenR_no, Option.elim_some, ho.vw, sset_strs (show d.flat.length < 64 by omega)]
    obtain ⟨L, e⟩ := ho.ext
    exact ⟨L, by rw [← e]; rfl, by rw [← e]; rfl⟩
end
end Dv
set_option maxRecDepth 100000
set_option maxHeartbeats 1000000
namespace Dv
open PySem PySem.Spec PyProof.Rows L2
noncomputable section
structure DeedM (C : Cs) : Prop where
  when : ∀ d : Dd, GivesL C "Deed.when" (.d d.own) (d.when.map D.str)
  steps : ∀ d : Dd, GivesL C "Deed.steps" (.d d.own) (d.steps.map Stp.d)
  words : ∀ d : Dd, d.ok → GivesL C "Deed.words" (.d d.own) (d.words.map D.str)
  ask : ∀ d : Dd, Gives C "Deed.ask" (.d d.own) (.str d.ask)
  takes : ∀ d : Dd, Gives C "Deed.takes" (.d d.own) (.int d.takes)
  quiet : ∀ d : Dd, Gives C "Deed.quiet" (.d d.own) (.bl d.quiet)
  len : ∀ d : Dd, Gives C "Deed.__len__" (.d d.own) (.int d.steps.length)
  repr : ∀ d : Dd, d.ok → Gives C "Deed.__repr__" (.d d.own) (.str d.repr)
  eq : ∀ (d e : Dd) (mu : Bool) (S : Store), C "Deed.__eq__" mu [] [.d d.own, .d e.own] [] S = .ok (.d (.bl (decide (d = e)))) S
  eqn : ∀ (d : Dd) (y : D) (mu : Bool) (S : Store), pl y = true → C "Deed.__eq__" mu [] [.d d.own, .d y] [] S = .ok (.d (.bl false)) S
section
variable {T : Tab} {S : Store} {X : XQ} {Q : U → Store → Prop} {ρ : Env} {mu : Bool}
theorem m_when (h : DeedTab T) (m : DeedM T.call) (d : Dd) : asO (methKind T "when" (.d d.own) S) (fun k => (methGo T "when" mu [] gNil gNil ρ (.d d.own) S k).sat X Q) = Q (mkU mu (.lst (d.when.map D.str)) S).1 (mkU mu (.lst (d.when.map D.str)) S).2 := by
  rw [show methKind T "when" (.d d.own) S = some (.inl "Deed") from mk_insD h.when rfl, w_asO, w_mo (h := h.when), w_nil, w_nil, m.when d mu S]; rfl
theorem m_steps (h : DeedTab T) (m : DeedM T.call) (d : Dd) : asO (methKind T "steps" (.d d.own) S) (fun k => (methGo T "steps" mu [] gNil gNil ρ (.d d.own) S k).sat X Q) = Q (mkU mu (.lst (d.steps.map Stp.d)) S).1 (mkU mu (.lst (d.steps.map Stp.d)) S).2 := by
  rw [show methKind T "steps" (.d d.own) S = some (.inl "Deed") from mk_insD h.steps rfl, w_asO, w_mo (h := h.steps), w_nil, w_nil, m.steps d mu S]; rfl
theorem m_words (h : DeedTab T) (m : DeedM T.call) (d : Dd) (hd : d.ok) : asO (methKind T "words" (.d d.own) S) (fun k => (methGo T "words" mu [] gNil gNil ρ (.d d.own) S k).sat X Q) = Q (mkU mu (.lst (d.words.map D.str)) S).1 (mkU mu (.lst (d.words.map D.str)) S).2 := by
  rw [show methKind T "words" (.d d.own) S = some (.inl "Deed") from mk_insD h.words rfl, w_asO, w_mo (h := h.words), w_nil, w_nil, m.words d hd mu S]; rfl
theorem m_ask (h : DeedTab T) (m : DeedM T.call) (d : Dd) : (attrR T "ask" (.d d.own) S).sat X Q = Q (.d (.str d.ask)) S := attr_prop h.ask (m.ask d false S)
theorem m_takes (h : DeedTab T) (m : DeedM T.call) (d : Dd) : (attrR T "takes" (.d d.own) S).sat X Q = Q (.d (.int d.takes)) S := attr_prop h.takes (m.takes d false S)
theorem m_quiet (h : DeedTab T) (m : DeedM T.call) (d : Dd) : (attrR T "quiet" (.d d.own) S).sat X Q = Q (.d (.bl d.quiet)) S := attr_prop h.quiet (m.quiet d false S)
theorem m_len (h : DeedTab T) (m : DeedM T.call) (d : Dd) (hd : d.ok) : (okR (lenR T S [.d d.own])).sat X Q = Q (.d (.int d.steps.length)) S := lenR_own (c := "Deed") (q := "Deed.__len__") (by rw [Dd.own, ownM_ins, h.len]; rfl) (m.len d false S) (by omega) (by have := hd.le; omega)
theorem m_repr (h : DeedTab T) (m : DeedM T.call) (d : Dd) (hd : d.ok) : (okR (reprR T S [.d d.own])).sat X Q = Q (.d (.str d.repr)) S := reprR_own (c := "Deed") (q := "Deed.__repr__") (by rw [Dd.own, ownM_ins, h.repr]; rfl) (m.repr d hd false S)
theorem takes_0 (d : Dd) (h : d.ask = "none") : decide ((d.takes : Int) = 0) = !decide (Stp.one "take" ∈ d.steps) := by
  have : d.takes = d.steps.countP fun s => decide (s = .one "take") := by
    unfold Dd.takes
    rw [if_neg (by rw [h]; decide)]; rfl
  rw [this]
  by_cases e : Stp.one "take" ∈ d.steps
  · have : 0 < d.steps.countP fun s => decide (s = .one "take") := List.countP_pos_iff.mpr ⟨_, e, by simp⟩
    simp only [e, decide_true, Bool.not_true, decide_eq_false_iff_not]; omega
  · have : (d.steps.countP fun s => decide (s = .one "take")) = 0 := List.countP_eq_zero.mpr fun s hs q => e (by rw [of_decide_eq_true q] at hs; exact hs)
    rw [this]; simp [e]
theorem gd_strs (n : Nat) (xs : List Str) : (xs.map D.str).all (gdS n) = true := by
  rw [List.all_eq_true]
  intro d hd
  obtain ⟨x, _, rfl⟩ := List.mem_map.mp hd
  cases n <;> rfl
theorem gd_step (n : Nat) (a : Stp) (ha : a.ok) : gdS (n + 2) a.d = true := by
  cases a with
  | one s => rfl
  | note w => rfl
  | check ws =>
    have hl := ha.1.le
    show (decide _ && [D.str "check", .tup (ws.map D.str)].all (gdS (n + 1))) = true
    simp only [List.all_cons, List.all_nil, Bool.and_true, gdS, gd_strs, List.length_map, List.length_cons, List.length_nil, Bool.and_eq_true, decide_eq_true_eq, true_and]
    omega
theorem gd_steps (n : Nat) (xs : List Stp) (h : ∀ s ∈ xs, s.ok) : (xs.map Stp.d).all (gdS (n + 2)) = true := by
  rw [List.all_eq_true]
  intro d hd
  obtain ⟨x, hx, rfl⟩ := List.mem_map.mp hd
  exact gd_step n x (h x hx)
theorem words_len (d : Dd) (hd : d.ok) : d.words.length ≤ 24 := by
  unfold Dd.words
  rw [sortS_len]
  have h1 := ddup_len_le d.flat []
  have h2 := flatTo_len hd d.steps.length
  rw [flatTo_all] at h2
  simp at h1; omega
theorem calm_G (d : Dd) (o0 o3 o4 o5 o6 : Option U) : (gAnd (gCmp T .Eq oEq (gIx (gV 1) (gC (.int 2))) (gC (.str "none"))) (gAnd (gCmp T .Eq oEq (gV 2) (gC (.int 0))) (gCmp T .NotIn oNotIn (gTup (dCons (gC (.str "give")) (dNil))) (gIx (gV 1) (gC (.int 1))))) [o0, some (.d d.law), some (.d (.int d.takes)), o3, o4, o5, o6] S).sat X Q = Q (.d (.bl d.quiet)) S := by
  have i1 : ∀ S, ixU S (.d d.law) (.d (.int 1)) = some (.d (.lst (d.steps.map Stp.d))) := fun S => rfl
  have i2 : ∀ S, ixU S (.d d.law) (.d (.int 2)) = some (.d (.str d.ask)) := fun S => rfl
  have n2 : oNotIn (.tup [.str "give"]) (.lst (d.steps.map Stp.d)) = some (.bl (!decide (Stp.one "give" ∈ d.steps))) := ni_steps (.one "give") d.steps
  simp only [w_asO, w_ok, w_bind, w_up, w_upU, w_V0, w_VS, w_C, w_O1, w_O2, w_OA, w_OU, w_ix, w_call, w_nil, w_cons, w_dnil, w_dcons, w_tup, w_lst, w_lstM, w_dct0, w_if, w_and, w_or, w_not, w_tAnd, w_tOr, w_tNot, w_tB, w_tTru, w_chain, w_goN, w_goS, w_sl, w_attr, w_meth, uBl_b, uInt_i, s_nil, s_seq, s_drop, s_ret, s_retN, s_if, s_asg, s_par2, s_par3, s_asgT, s_break, s_cont, t_name, t_sub, t_attr, t_tup, t_nil, t_cons, set0, setS, s_for, w_giE, w_gir1, w_gir2, w_gizip, w_gienum, w_lc, Option.bind_some, Option.map_some, mkU_f, mkU_i, mkU_b, mkU_s, mkU_t, mkU_n, w_OR, w_cmp, w_bin, w_truO, w_jn, w_js, w_spl, t_star, strU_s, vw_d, vw_ref, fr_d, fr_ref, f1_d, f2_d, f1_u, f2_u, fA_1, fA_u, vws_nil, vws_cons, ixU_d, ixU_ref, cIx_l, cV_l, g0, gS, st0, stS, ix_l, ix_t, add_ii, sub_ii, eq_ii, cmp_ii, int_i, len_l, len_t, len_s, noI_d, noI_r, ni_int, ni_str, ni_bl, ni_non, ni_tup, ni_lst, nc_lst, nc_lsu, cmp_eq, cmp_ne, cmp_in, cmp_ni, bin_no, tru_no, lenR_no, Option.elim_some, i1, i2, eq_ss, n2, tru_bl]
  unfold Dd.quiet
  by_cases e : d.ask = "none"
  · rw [takes_0 d e]
    by_cases e2 : Stp.one "take" ∈ d.steps
    · simp only [e, e2, decide_true, if_true, Bool.not_true, Bool.false_eq_true, if_false, Bool.true_and, Bool.false_and]
    · simp only [e, e2, decide_true, decide_false, if_true, Bool.not_false, Bool.true_and]
  · simp only [e, decide_false, Bool.false_eq_true, if_false, Bool.false_and]
def DeedSoOk (C : Cs) : Prop := ∀ (S : Store) (d : Dd) (mu : Bool), d.ok → C "_law_deed_so" mu [] [.d d.own, .d d.law] [] S = .ok (.d (.bl true)) S
theorem deed_so_B (h : DeedTab T) (m : DeedM T.call) (hw : WordsOfOk T.call) (hs : SameOk 4 T.call) (d : Dd) (hd : d.ok) : cutR mu S (endR (B__law_deed_so_v2 T mu [some (.d d.own), some (.d d.law), none, none, none, none, none] S)) = .ok (.d (.bl true)) S := by
  refine cut_val ?_
  rw [w_end]
  unfold B__law_deed_so_v2
  have hl := hd.le
  have hwo : ∀ S, T.call "_law_words_of" false [] [.d d.law] [] S = .ok (.d (.lst (d.words.map D.str))) S := fun S => hw S d false hd
  have eL : d.law = .tup [.lst (d.when.map D.str), .lst (d.steps.map Stp.d), .str d.ask] := rfl
  have i0 : ∀ S, ixU S (.d d.law) (.d (.int 0)) = some (.d (.lst (d.when.map D.str))) := fun S => rfl
  have i1 : ∀ S, ixU S (.d d.law) (.d (.int 1)) = some (.d (.lst (d.steps.map Stp.d))) := fun S => rfl
  have i2 : ∀ S, ixU S (.d d.law) (.d (.int 2)) = some (.d (.str d.ask)) := fun S => rfl
  have j0 : dIx d.law (.int 0) = some (.lst (d.when.map D.str)) := rfl
  have j1 : dIx d.law (.int 1) = some (.lst (d.steps.map Stp.d)) := rfl
  have j2 : dIx d.law (.int 2) = some (.str d.ask) := rfl
  simp only [w_asO, w_ok, w_bind, w_up, w_upU, w_V0, w_VS, w_C, w_O1, w_O2, w_OA, w_OU, w_ix, w_call, w_nil, w_cons, w_dnil, w_dcons, w_tup, w_lst, w_lstM, w_dct0, w_if, w_not, w_tAnd, w_tOr, w_tNot, w_tB, w_tTru, w_chain, w_goN, w_goS, w_sl, w_attr, w_meth, uBl_b, uInt_i, s_nil, s_seq, s_drop, s_ret, s_retN, s_if, s_asg, s_par2, s_par3, s_asgT, s_break, s_cont, t_name, t_sub, t_attr, t_tup, t_nil, t_cons, set0, setS, s_for, w_giE, w_gir1, w_gir2, w_gizip, w_gienum, w_lc, Option.bind_some, Option.map_some, mkU_f, mkU_i, mkU_b, mkU_s, mkU_t, mkU_n, w_OR, w_cmp, w_bin, w_truO, w_jn, w_js, w_spl, t_star, strU_s, i1, iter_l]
  refine lc_pure (p := fun x => eqB x (Stp.one "take").d) (f := fun x => x) (by simp; omega) ?_ ?_
  · intro x hx L
    obtain ⟨s, hs, rfl⟩ := List.mem_map.mp hx
    refine ⟨_, rfl, ?_, fun _ => rfl⟩
    refine R.sat.eq ?_
    have e := eq_steps s (.one "take")
    have e' : oEq s.d (.tup [.str "take"]) = some (.bl (decide (s = .one "take"))) := e
    have nis : noD s.d = true := by cases s <;> rfl
    simp only [wipeD, setAll, List.map_cons, List.map_nil, set0, setS, testLc, w_asO, w_ok, w_bind, w_up, w_upU, w_V0, w_VS, w_C, w_O1, w_O2, w_OA, w_OU, w_ix, w_call, w_nil, w_cons, w_dnil, w_dcons, w_tup, w_lst, w_lstM, w_dct0, w_if, w_and, w_or, w_not, w_tAnd, w_tOr, w_tNot, w_tB, w_tTru, w_chain, w_goN, w_goS, w_sl, w_attr, w_meth, uBl_b, uInt_i, s_nil, s_seq, s_drop, s_ret, s_retN, s_if, s_asg, s_par2, s_par3, s_asgT, s_break, s_cont, t_name, t_sub, t_attr, t_tup, t_nil, t_cons, set0, setS, s_for, w_giE, w_gir1, w_gir2, w_gizip, w_gienum, w_lc, Option.bind_some, Option.map_some, mkU_f, mkU_i, mkU_b, mkU_s, mkU_t, mkU_n, w_OR, w_cmp, w_bin, w_truO, w_jn, w_js, w_spl, t_star, strU_s, vw_d, vw_ref, fr_d, fr_ref, f1_d, f2_d, f1_u, f2_u, fA_1, fA_u, vws_nil, vws_cons, ixU_d, ixU_ref, cIx_l, cV_l, g0, gS, st0, stS, ix_l, ix_t, add_ii, sub_ii, eq_ii, cmp_ii, int_i, len_l, len_t, len_s, noI_d, noI_r, ni_int, ni_str, ni_bl, ni_non, ni_tup, ni_lst, nc_lst, nc_lsu, cmp_eq, cmp_ne, cmp_in, cmp_ni, bin_no, tru_no, lenR_no, Option.elim_some, nis, e', eqB_steps]
    exact ⟨trivial, trivial⟩
  · have hf : ((d.steps.map Stp.d).filter fun x => eqB x (Stp.one "take").d).map (fun x => x) = (d.steps.filter fun s => decide (s = .one "take")).map Stp.d := by
      rw [List.map_id', List.filter_map]
      congr 2
      funext s
      exact eqB_steps s (.one "take")
    have hc : (((d.steps.filter fun s => decide (s = .one "take")).map Stp.d).length : Int) + (if decide (d.ask = "seek") = true then 1 else 0) = d.takes := by
      rw [List.length_map, ← List.countP_eq_length_filter]
      unfold Dd.takes
      by_cases e : d.ask = "seek" <;> simp [e]
    rw [hf]
    simp only [w_asO, w_ok, w_bind, w_up, w_upU, w_V0, w_VS, w_C, w_O1, w_O2, w_OA, w_OU, w_ix, w_call, w_nil, w_cons, w_dnil, w_dcons, w_tup, w_lst, w_lstM, w_dct0, w_if, w_not, w_tAnd, w_tOr, w_tNot, w_tB, w_tTru, w_chain, w_goN, w_goS, w_sl, w_attr, w_meth, uBl_b, uInt_i, s_nil, s_seq, s_drop, s_ret, s_retN, s_if, s_asg, s_par2, s_par3, s_asgT, s_break, s_cont, t_name, t_sub, t_attr, t_tup, t_nil, t_cons, set0, setS, s_for, w_giE, w_gir1, w_gir2, w_gizip, w_gienum, w_lc, Option.bind_some, Option.map_some, mkU_f, mkU_i, mkU_b, mkU_s, mkU_t, mkU_n, w_OR, w_cmp, w_bin, w_truO, w_jn, w_js, w_spl, t_star, strU_s, vw_d, vw_ref, fr_d, fr_ref, f1_d, f2_d, f1_u, f2_u, fA_1, fA_u, vws_nil, vws_cons, ixU_d, ixU_ref, cIx_l, cV_l, g0, gS, st0, stS, ix_l, ix_t, add_ii, sub_ii, eq_ii, cmp_ii, int_i, len_l, len_t, len_s, noI_d, noI_r, ni_int, ni_str, ni_bl, ni_non, ni_tup, ni_lst, nc_lst, nc_lsu, cmp_eq, cmp_ne, cmp_in, cmp_ni, bin_no, tru_no, lenR_no, Option.elim_some, j2, eq_ss, int_b, hc]
    obtain ⟨r1, r2⟩ := num_facts (show d.steps.length ≤ 6 by omega)
    have l1 : ("Deed(" : Str).length = 5 := by decide +kernel
    have l2 : (" steps)" : Str).length = 7 := by decide +kernel
    have ad1 : oAdd (.str "Deed(") (.str (numS d.steps.length)) = some (.str ("Deed(" ++ numS d.steps.length)) := if_pos (by rw [l1, sizeLine_eq]; omega)
    have ad2 : oAdd (.str ("Deed(" ++ numS d.steps.length)) (.str " steps)") = some (.str d.repr) := if_pos (by rw [len_app, l1, l2, sizeLine_eq]; omega)
    have str1 : cStr [.int d.steps.length] = some (.str (numS d.steps.length)) := r1
    have fin : ∀ (S : Store), T.call "_law_same" mu [] [.d (.lst [.lst (d.when.map D.str), .lst (d.steps.map Stp.d), .str d.ask, .int d.takes, .bl d.quiet, .lst (d.words.map D.str), .int d.steps.length, .str d.repr]), .d (.lst [.lst (d.when.map D.str), .lst (d.steps.map Stp.d), .str d.ask, .int d.takes, .bl d.quiet, .lst (d.words.map D.str), .int d.steps.length, .str d.repr])] [] S = .ok (.d (.bl true)) S := fun S => hs mu _ S (by
      have h1 := hd.w.le
      have h2 := words_len d hd
      show (decide _ && [D.lst (d.when.map D.str), .lst (d.steps.map Stp.d), .str d.ask, .int d.takes, .bl d.quiet, .lst (d.words.map D.str), .int d.steps.length, .str d.repr].all (gdS 3)) = true
      simp only [List.all_cons, List.all_nil, Bool.and_true, gdS, gd_strs, gd_steps 0 d.steps hd.st, List.length_map, List.length_cons, List.length_nil, Bool.and_eq_true, decide_eq_true_eq, true_and]
      omega)
    simp only [calm_G, w_asO, w_ok, w_bind, w_up, w_upU, w_V0, w_VS, w_C, w_O1, w_O2, w_OA, w_OU, w_ix, w_call, w_nil, w_cons, w_dnil, w_dcons, w_tup, w_lst, w_lstM, w_dct0, w_if, w_not, w_tAnd, w_tOr, w_tNot, w_tB, w_tTru, w_chain, w_goN, w_goS, w_sl, w_attr, w_meth, uBl_b, uInt_i, s_nil, s_seq, s_drop, s_ret, s_retN, s_if, s_asg, s_par2, s_par3, s_asgT, s_break, s_cont, t_name, t_sub, t_attr, t_tup, t_nil, t_cons, set0, setS, s_for, w_giE, w_gir1, w_gir2, w_gizip, w_gienum, w_lc, Option.bind_some, Option.map_some, mkU_f, mkU_i, mkU_b, mkU_s, mkU_t, mkU_n, w_OR, w_cmp, w_bin, w_truO, w_jn, w_js, w_spl, t_star, strU_s, vw_d, vw_ref, fr_d, fr_ref, f1_d, f2_d, f1_u, f2_u, fA_1, fA_u, vws_nil, vws_cons, ixU_d, ixU_ref, cIx_l, cV_l, g0, gS, st0, stS, ix_l, ix_t, add_ii, sub_ii, eq_ii, cmp_ii, int_i, len_l, len_t, len_s, noI_d, noI_r, ni_int, ni_str, ni_bl, ni_non, ni_tup, ni_lst, nc_lst, nc_lsu, cmp_eq, cmp_ne, cmp_in, cmp_ni, bin_no, tru_no, lenR_no, Option.elim_some, m_when h m, m_steps h m, m_words h m d hd, m_ask h m, m_takes h m, m_quiet h m, m_len h m d hd, m_repr h m d hd, j0, j1, j2, hwo, List.length_map, str1, ad1, ad2, fin]
    exact ⟨trivial, [], by simp⟩
end
end
end Dv
set_option maxRecDepth 100000
set_option maxHeartbeats 0
namespace Lk02
open PySem PySem.Spec PyProof.Rows L2 Dv
def top (i : Nat) : Stmt := PySem.Challenge.pw_cartholds_k02_deeds_made.main.body.getD i (.Pass ⟨0, 0, 0, 0⟩)
def inC (i j : Nat) : Stmt := match top i with
  | .ClassDef _ _ _ b _ _ _ _ _ _ _ => b.getD j (.Pass ⟨0, 0, 0, 0⟩)
  | s => s
def d__wall : FD := ⟨"_wall", ["k"], ["k"], none, none, [], top 0, false⟩
def d_is_name : FD := ⟨"is_name", ["value", "sign"], ["value"], none, none, [], top 15, false⟩
def d_is_listed : FD := ⟨"is_listed", ["value"], ["value"], none, none, [], top 16, false⟩
def d_need_words : FD := ⟨"need_words", ["words", "at", "word"], ["words"], none, none, [], top 17, false⟩
def d_are_words : FD := ⟨"are_words", ["value", "word"], ["value"], none, none, [], top 18, false⟩
def d_step_of : FD := ⟨"step_of", ["value"], ["value"], none, none, [], top 19, false⟩
def d_Deed___init__ : FD := ⟨"__init__", ["self", "when", "ask", "steps", "made", "at", "one"], ["self", "when"], (some ("ask", .str "none")), (some "steps"), [], inC 20 1, false⟩
def d_Deed_idle : FD := ⟨"idle", [], [], none, none, [], inC 20 2, false⟩
def d_Deed_ask : FD := ⟨"ask", ["self"], ["self"], none, none, [], inC 20 3, false⟩
def d_Deed_takes : FD := ⟨"takes", ["self"], ["self"], none, none, [], inC 20 4, false⟩
def d_Deed_quiet : FD := ⟨"quiet", ["self"], ["self"], none, none, [], inC 20 5, false⟩
def d_Deed_when : FD := ⟨"when", ["self"], ["self"], none, none, [], inC 20 6, false⟩
def d_Deed_steps : FD := ⟨"steps", ["self"], ["self"], none, none, [], inC 20 7, false⟩
def d_Deed_words : FD := ⟨"words", ["self", "found", "word", "rest"], ["self"], none, none, ["found"], inC 20 8, false⟩
def d_Deed_with_ask : FD := ⟨"with_ask", ["self", "ask"], ["self", "ask"], none, none, [], inC 20 9, false⟩
def d_Deed_without : FD := ⟨"without", ["self", "at"], ["self", "at"], none, none, [], inC 20 10, false⟩
def d_Deed___add__ : FD := ⟨"__add__", ["self", "other"], ["self", "other"], none, none, [], inC 20 11, false⟩
def d_Deed___len__ : FD := ⟨"__len__", ["self"], ["self"], none, none, [], inC 20 12, false⟩
def d_Deed___eq__ : FD := ⟨"__eq__", ["self", "other"], ["self", "other"], none, none, [], inC 20 13, false⟩
def d_Deed___repr__ : FD := ⟨"__repr__", ["self"], ["self"], none, none, [], inC 20 14, false⟩
def d__law_source : FD := ⟨"_law_source", ["_law_script"], ["_law_script"], none, none, [], top 22, false⟩
def d__law_draw : FD := ⟨"_law_draw", ["_law_src", "_law_many", "_law_seed", "_law_cell", "_law_digit"], ["_law_src", "_law_many"], none, none, ["_law_src"], top 23, false⟩
def d__law_of : FD := ⟨"_law_of", ["_law_src", "_law_things7"], ["_law_src", "_law_things7"], none, none, ["_law_src"], top 24, false⟩
def d__law_some : FD := ⟨"_law_some", ["_law_src", "_law_things7", "_law_found", "_law_one"], ["_law_src", "_law_things7"], none, none, ["_law_src", "_law_found"], top 25, false⟩
def d__law_mixed : FD := ⟨"_law_mixed", ["_law_src", "_law_things7", "_law_found", "_law_one"], ["_law_src", "_law_things7"], none, none, ["_law_src", "_law_found"], top 26, false⟩
def d__law_word : FD := ⟨"_law_word", ["_law_src", "_law_signs", "_law_k"], ["_law_src"], none, none, ["_law_src"], top 27, false⟩
def d__law_names : FD := ⟨"_law_names", ["_law_src", "_law_many", "_law_k", "_law_signs", "_law_found", "_law_pool", "_law_one"], ["_law_src", "_law_many"], none, none, ["_law_src", "_law_found"], top 28, false⟩
def d__law_same : FD := ⟨"_law_same", ["_law_found", "_law_due", "_law_part7", "_law_late7"], ["_law_found", "_law_due"], none, none, [], top 29, false⟩
def d__law_step : FD := ⟨"_law_step", ["_law_src", "_law_words7", "_law_way"], ["_law_src", "_law_words7"], none, none, ["_law_src"], top 30, false⟩
def d__law_deed : FD := ⟨"_law_deed", ["_law_src", "_law_words7", "_law_most7", "_law_when7", "_law_steps7", "_law_k", "_law_one"], ["_law_src", "_law_words7", "_law_most7"], none, none, ["_law_src"], top 31, false⟩
def d__law_deed_call : FD := ⟨"_law_deed_call", ["_law_when7", "_law_steps7", "_law_ask7"], ["_law_when7", "_law_steps7", "_law_ask7"], none, none, [], top 32, false⟩
def d__law_deed_made : FD := ⟨"_law_deed_made", ["_law_d"], ["_law_d"], none, none, [], top 33, false⟩
def d__law_words_of : FD := ⟨"_law_words_of", ["_law_d", "_law_found", "_law_step_here"], ["_law_d"], none, none, ["_law_found"], top 34, false⟩
def d__law_deed_so_v2 : FD := ⟨"_law_deed_so", ["_law_found", "_law_d", "_law_takes7", "_law_calm7", "_law_told", "_law_due", "_law_step_here"], ["_law_found", "_law_d"], none, none, [], top 35, true⟩
def d_law_v88 : FD := ⟨"law", ["_law_script", "_law_src", "_law_turn", "_law_told", "_law_words7", "_law_d", "_law_step_here", "_law_kept7", "_law_found", "_law_other", "_law_late", "_law_when7", "_law_steps7"], ["_law_script"], none, none, ["_law_src", "_law_when7", "_law_steps7"], top 36, true⟩
def fnL : FnL := ([("_wall", .fn "_wall", d__wall), ("is_name", .fn "is_name", d_is_name), ("is_listed", .fn "is_listed", d_is_listed), ("need_words", .fn "need_words", d_need_words), ("are_words", .fn "are_words", d_are_words), ("step_of", .fn "step_of", d_step_of), ("Deed.__init__", .mt "Deed" "__init__", d_Deed___init__), ("Deed.idle", .sm "Deed" "idle", d_Deed_idle), ("Deed.ask", .pg "Deed" "ask", d_Deed_ask), ("Deed.takes", .pg "Deed" "takes", d_Deed_takes), ("Deed.quiet", .pg "Deed" "quiet", d_Deed_quiet), ("Deed.when", .mt "Deed" "when", d_Deed_when), ("Deed.steps", .mt "Deed" "steps", d_Deed_steps), ("Deed.words", .mt "Deed" "words", d_Deed_words), ("Deed.with_ask", .mt "Deed" "with_ask", d_Deed_with_ask), ("Deed.without", .mt "Deed" "without", d_Deed_without), ("Deed.__add__", .mt "Deed" "__add__", d_Deed___add__), ("Deed.__len__", .mt "Deed" "__len__", d_Deed___len__), ("Deed.__eq__", .mt "Deed" "__eq__", d_Deed___eq__), ("Deed.__repr__", .mt "Deed" "__repr__", d_Deed___repr__)] : FnL) ++ ([("_law_source", .fn "_law_source", d__law_source), ("_law_draw", .fn "_law_draw", d__law_draw), ("_law_of", .fn "_law_of", d__law_of), ("_law_some", .fn "_law_some", d__law_some), ("_law_mixed", .fn "_law_mixed", d__law_mixed), ("_law_word", .fn "_law_word", d__law_word), ("_law_names", .fn "_law_names", d__law_names), ("_law_same", .fn "_law_same", d__law_same), ("_law_step", .fn "_law_step", d__law_step), ("_law_deed", .fn "_law_deed", d__law_deed), ("_law_deed_call", .fn "_law_deed_call", d__law_deed_call), ("_law_deed_made", .fn "_law_deed_made", d__law_deed_made), ("_law_words_of", .fn "_law_words_of", d__law_words_of), ("_law_deed_so", .fn "_law_deed_so", d__law_deed_so_v2), ("law", .fn "law", d_law_v88)] : FnL)
def gkL : GkL := ([("_wall", .fn "_wall"), ("is_name", .fn "is_name"), ("is_listed", .fn "is_listed"), ("need_words", .fn "need_words"), ("are_words", .fn "are_words"), ("step_of", .fn "step_of"), ("_law_source", .fn "_law_source"), ("_law_draw", .fn "_law_draw"), ("_law_of", .fn "_law_of"), ("_law_some", .fn "_law_some"), ("_law_mixed", .fn "_law_mixed"), ("_law_word", .fn "_law_word"), ("_law_names", .fn "_law_names"), ("_law_same", .fn "_law_same"), ("_law_step", .fn "_law_step"), ("_law_deed", .fn "_law_deed"), ("_law_deed_call", .fn "_law_deed_call"), ("_law_deed_made", .fn "_law_deed_made"), ("_law_words_of", .fn "_law_words_of"), ("_law_deed_so", .fn "_law_deed_so")] : GkL) ++ ([("law", .fn "law"), ("SMALL", .cst (.str "abcdefghijklmnopqrstuvwxyz")), ("ASKS", .cst (.tup [.str "none", .str "look", .str "seek"])), ("SINGLE_STEPS", .cst (.tup [.tup [.str "take"], .tup [.str "put"], .tup [.str "give"]])), ("MOST_SIGNS", .cst (.int 8)), ("MOST_WORDS", .cst (.int 4)), ("MOST_STEPS", .cst (.int 5)), ("HoldError", .cls), ("InvalidName", .cls), ("DuplicateName", .cls), ("TooMany", .cls), ("InvalidStep", .cls), ("InvalidAsk", .cls), ("Deed", .cls), ("all", .bf .all), ("bool", .ty .bool), ("enumerate", .it .enumerate), ("int", .ty .int), ("isinstance", .bf .isi), ("len", .bf .len)] : GkL) ++ ([("list", .ty .list), ("range", .it .range), ("repr", .bf .repr), ("set", .ty .set), ("sorted", .bf .sorted), ("str", .ty .str), ("tuple", .ty .tuple), ("zip", .it .zip)] : GkL)
def clL : ClL := ([("Deed", { mt := [("when", "Deed.when"), ("steps", "Deed.steps"), ("words", "Deed.words"), ("with_ask", "Deed.with_ask"), ("without", "Deed.without"), ("__add__", "Deed.__add__"), ("__len__", "Deed.__len__"), ("__eq__", "Deed.__eq__"), ("__repr__", "Deed.__repr__")], pr := [("ask", "Deed.ask"), ("takes", "Deed.takes"), ("quiet", "Deed.quiet")], fl := ["own_when", "own_steps", "own_ask"], cc := [("MOST", .int 5)], sm := [("idle", "Deed.idle")], ini := (some ("Deed.__init__", false)), nf := [.c "Deed", .b "NoneType", .b "bool", .b "int", .b "str", .b "tuple", .b "list", .b "dict"], neq := true, sf := true })] : ClL)
def kiL : KiL := ([((.b "NoneType", .c "Deed"), false), ((.b "NoneType", .b "bool"), false), ((.b "NoneType", .b "dict"), false), ((.b "NoneType", .b "int"), false), ((.b "NoneType", .b "list"), false), ((.b "NoneType", .b "str"), false), ((.b "NoneType", .b "tuple"), false), ((.b "bool", .c "Deed"), false), ((.b "bool", .b "bool"), true), ((.b "bool", .b "dict"), false), ((.b "bool", .b "int"), true), ((.b "bool", .b "list"), false), ((.b "bool", .b "str"), false), ((.b "bool", .b "tuple"), false), ((.b "int", .c "Deed"), false), ((.b "int", .b "bool"), false), ((.b "int", .b "dict"), false), ((.b "int", .b "int"), true), ((.b "int", .b "list"), false), ((.b "int", .b "str"), false)] : KiL) ++ ([((.b "int", .b "tuple"), false), ((.b "str", .c "Deed"), false), ((.b "str", .b "bool"), false), ((.b "str", .b "dict"), false), ((.b "str", .b "int"), false), ((.b "str", .b "list"), false), ((.b "str", .b "str"), true), ((.b "str", .b "tuple"), false), ((.b "tuple", .c "Deed"), false), ((.b "tuple", .b "bool"), false), ((.b "tuple", .b "dict"), false), ((.b "tuple", .b "int"), false), ((.b "tuple", .b "list"), false), ((.b "tuple", .b "str"), false), ((.b "tuple", .b "tuple"), true), ((.b "list", .c "Deed"), false), ((.b "list", .b "bool"), false), ((.b "list", .b "dict"), false), ((.b "list", .b "int"), false), ((.b "list", .b "list"), true)] : KiL) ++ ([((.b "list", .b "str"), false), ((.b "list", .b "tuple"), false), ((.b "dict", .c "Deed"), false), ((.b "dict", .b "bool"), false), ((.b "dict", .b "dict"), true), ((.b "dict", .b "int"), false), ((.b "dict", .b "list"), false), ((.b "dict", .b "str"), false), ((.b "dict", .b "tuple"), false), ((.c "Deed", .c "Deed"), true), ((.c "Deed", .b "bool"), false), ((.c "Deed", .b "dict"), false), ((.c "Deed", .b "int"), false), ((.c "Deed", .b "list"), false), ((.c "Deed", .b "str"), false), ((.c "Deed", .b "tuple"), false)] : KiL)
def muA : List Str := []
def T0 : Tab := tab0 kiL clL
noncomputable def CC (k : Nat) : Str → Bool → List Str → FC := CK T0 (fun x => gkL.lookup x) muA (tabF fnL) k
noncomputable def TK (k : Nat) : Tab := T0.with (CC k)
end Lk02
set_option maxRecDepth 100000
set_option maxHeartbeats 0
namespace Dv
open PySem PySem.Spec PyProof.Rows L2
noncomputable section
def B_law_v88_1 (T : Tab) (rm : Bool) : GS :=
  sSeq (
    sAsg (gLst false (dCons (gAttr T "MOST" (gC (.gl "Deed"))) (dCons (gCmp T .Eq oEq (gCall (T.call "Deed.idle" false []) (gNil) (gNil)) (gCall (mkIns false "Deed" (T.call "Deed.__init__" false [])) (gCons (gLst false (dNil)) (gNil)) (gNil))) (dCons (gAttr T "ask" (gCall (mkIns false "Deed" (T.call "Deed.__init__" false [])) (gCons (gLst false (dNil)) (gNil)) (gNil))) (dCons (gAttr T "quiet" (gCall (T.call "Deed.idle" false []) (gNil) (gNil))) (dCons (gMeth T "steps" false [] (gCall (T.call "Deed.idle" false []) (gNil) (gNil)) (gNil) (gNil)) (dNil))))))) (tgName 3)) (  sRet (gCall (T.call "_law_same" rm []) (gCons (gV 3) (gCons (gLst false (dCons (gC (.int 5)) (dCons (gC (.bl true)) (dCons (gC (.str "none")) (dCons (gC (.bl true)) (dCons (gLst false (dNil)) (dNil))))))) (gNil))) (gNil)))
def B_law_v88_2 (T : Tab) (rm : Bool) : GS :=
  sIf (gtNot (gtTruO T (gCall (T.call "_law_same" false []) (gCons (gV 3) (gCons (gLst false (dCons (gC (.bl true)) (dCons (gCmp T .Eq oEq (gV 5) (gV 9)) (dCons (gC (.bl false)) (dCons (gCmp T .NotEq oNe (gV 5) (gV 9)) (dNil)))))) (gNil))) (gNil)))) (
    sRet (gC (.bl false))) (
    sNil)
def B_law_v88_3 (T : Tab) (rm : Bool) : GS :=
  sSeq (
    sAsg (gLst false (dCons (gCmp T .Eq oEq (gV 8) (gCall (T.call "_law_deed_made" false []) (gCons (gV 5) (gNil)) (gNil))) (dCons (gCmp T .Eq oEq (gV 8) (gV 10)) (dCons (gCmp T .Eq oEq (gV 8) (gV 5)) (dCons (gCmp T .NotEq oNe (gV 8) (gV 10)) (dNil)))))) (tgName 3)) (B_law_v88_2 T rm)
def B_law_v88_4 (T : Tab) (rm : Bool) : GS :=
  sSeq (
    sAsg (gCall (T.call "_law_deed_made" false []) (gCons (gV 9) (gNil)) (gNil)) (tgName 10)) (B_law_v88_3 T rm)
def B_law_v88_5 (T : Tab) (rm : Bool) : GS :=
  sSeq (
    sAsg (gCall (T.call "_law_deed" false []) (gCons (gV 1) (gCons (gV 4) (gCons (gC (.int 5)) (gNil)))) (gNil)) (tgName 9)) (B_law_v88_4 T rm)
def B_law_v88_6 (T : Tab) (rm : Bool) : GS :=
  sSeq (
    sIf (gtNot (gtTruO T (gCall (T.call "_law_deed_so" false []) (gCons (gV 8) (gCons (gV 5) (gNil))) (gNil)))) (
      sRet (gC (.bl false))) (
      sNil)) (B_law_v88_5 T rm)
def B_law_v88_7 (T : Tab) (rm : Bool) : GS :=
  sSeq (
    sDrop (gMeth T "append" false [] (gMeth T "words" true [] (gV 8) (gNil) (gNil)) (gCons (gC (.str "")) (gNil)) (gNil))) (B_law_v88_6 T rm)
def B_law_v88_8 (T : Tab) (rm : Bool) : GS :=
  sSeq (
    sDrop (gMeth T "clear" false [] (gMeth T "steps" true [] (gV 8) (gNil) (gNil)) (gNil) (gNil))) (B_law_v88_7 T rm)
def B_law_v88_9 (T : Tab) (rm : Bool) : GS :=
  sSeq (
    sDrop (gMeth T "append" false [] (gMeth T "when" true [] (gV 8) (gNil) (gNil)) (gCons (gC (.str "")) (gNil)) (gNil))) (B_law_v88_8 T rm)
def B_law_v88_10 (T : Tab) (rm : Bool) : GS :=
  sSeq (
    sDrop (gMeth T "append" false [] (gV 11) (gCons (gC (.str "")) (gNil)) (gNil))) (B_law_v88_9 T rm)
def B_law_v88_11 (T : Tab) (rm : Bool) : GS :=
  sSeq (
    sIf (gtOr (gtB (gCmp T .NotEq oNe (gV 11) (gV 7))) (gtNot (gtTruO T (gCall (T.call "_law_deed_so" false []) (gCons (gV 8) (gCons (gV 5) (gNil))) (gNil))))) (
      sRet (gC (.bl false))) (
      sNil)) (B_law_v88_10 T rm)
def B_law_v88_12 (T : Tab) (rm : Bool) : GS :=
  sSeq (
    sAsg (gCall (T.call "_law_deed_call" false []) (gCons (gV 11) (gCons (gV 12) (gCons (gIx (gV 5) (gC (.int 2))) (gNil)))) (gNil)) (tgName 8)) (B_law_v88_11 T rm)
def B_law_v88_13 (T : Tab) (rm : Bool) : GS :=
  sSeq (
    sAsg (gOU false (fA cList) (gCons (gV 11) (gNil))) (tgName 7)) (B_law_v88_12 T rm)
def B_law_v88_14 (T : Tab) (rm : Bool) : GS :=
  sDrop (gMeth T "append" false [] (gV 12) (gCons (gIf (gtB (gCmp T .Eq oEq (gIx (gV 6) (gC (.int 0))) (gC (.str "check")))) (gTup (dCons (gC (.str "check")) (dCons (gCall (T.call "_law_mixed" false []) (gCons (gV 1) (gCons (gIx (gV 6) (gC (.int 1))) (gNil))) (gNil)) (dNil)))) (gV 6)) (gNil)) (gNil))
def B_law_v88_15 (T : Tab) (rm : Bool) : GS :=
  sSeq (
    sFor (giE (gIx (gV 5) (gC (.int 1)))) (tgName 6) (
      B_law_v88_14 T rm)) (B_law_v88_13 T rm)
def B_law_v88_16 (T : Tab) (rm : Bool) : GS :=
  sSeq (
    sPar [11, 12] (gCons (gCall (T.call "_law_mixed" true []) (gCons (gV 1) (gCons (gIx (gV 5) (gC (.int 0))) (gNil))) (gNil)) (gCons (gLstM (gNil)) (gNil)))) (B_law_v88_15 T rm)
def B_law_v88_17 (T : Tab) (rm : Bool) : GS :=
  sSeq (
    sAsg (gCall (T.call "_law_deed" false []) (gCons (gV 1) (gCons (gV 4) (gCons (gC (.int 5)) (gNil)))) (gNil)) (tgName 5)) (B_law_v88_16 T rm)
def B_law_v88_18 (T : Tab) (rm : Bool) : GS :=
  sSeq (
    sAsg (gCall (T.call "_law_names" false []) (gCons (gV 1) (gCons (gBin T false .Add oAdd (gC (.int 1)) (gCall (T.call "_law_draw" false []) (gCons (gV 1) (gCons (gC (.int 4)) (gNil))) (gNil))) (gNil))) (gNil)) (tgName 4)) (B_law_v88_17 T rm)
def B_law_v88_19 (T : Tab) (rm : Bool) : GS :=
  sSeq (
    sFor (giRange1 (gCons (gC (.int 4)) (gNil))) (tgName 2) (
      B_law_v88_18 T rm)) (B_law_v88_1 T rm)
def B_law_v88 (T : Tab) (rm : Bool) : GS :=
  sSeq (
    sAsg (gCall (T.call "_law_source" true []) (gCons (gV 0) (gNil)) (gNil)) (tgName 1)) (B_law_v88_19 T rm)
end
end Dv
set_option maxRecDepth 100000
set_option maxHeartbeats 0
namespace Lk02
open PySem PySem.Spec PyProof.Rows L2 Dv
theorem ck_is_name (k : Nat) (mu : Bool) (x0 : U) (S : Store) : CC (k + 1) "is_name" mu [] [x0] [] S = cutR mu S (endR (B_is_name (TK k) mu [some x0, none] S)) := by kernel_rfl
theorem ck_is_listed (k : Nat) (mu : Bool) (x0 : U) (S : Store) : CC (k + 1) "is_listed" mu [] [x0] [] S = cutR mu S (endR (B_is_listed (TK k) mu [some x0] S)) := by kernel_rfl
theorem ck_need_words (k : Nat) (mu : Bool) (x0 : U) (S : Store) : CC (k + 1) "need_words" mu [] [x0] [] S = cutR mu S (endR (B_need_words (TK k) mu [some x0, none, none] S)) := by kernel_rfl
theorem ck_are_words (k : Nat) (mu : Bool) (x0 : U) (S : Store) : CC (k + 1) "are_words" mu [] [x0] [] S = cutR mu S (endR (B_are_words (TK k) mu [some x0, none] S)) := by kernel_rfl
theorem ck_step_of (k : Nat) (mu : Bool) (x0 : U) (S : Store) : CC (k + 1) "step_of" mu [] [x0] [] S = cutR mu S (endR (B_step_of (TK k) mu [some x0] S)) := by kernel_rfl
theorem ck_Deed_idle (k : Nat) (mu : Bool) (S : Store) : CC (k + 1) "Deed.idle" mu [] [] [] S = cutR mu S (endR (B_Deed_idle (TK k) mu [] S)) := by kernel_rfl
theorem ck_Deed_ask (k : Nat) (mu : Bool) (x0 : U) (S : Store) : CC (k + 1) "Deed.ask" mu [] [x0] [] S = cutR mu S (endR (B_Deed_ask (TK k) mu [some x0] S)) := by kernel_rfl
theorem ck_Deed_takes (k : Nat) (mu : Bool) (x0 : U) (S : Store) : CC (k + 1) "Deed.takes" mu [] [x0] [] S = cutR mu S (endR (B_Deed_takes (TK k) mu [some x0] S)) := by kernel_rfl
theorem ck_Deed_quiet (k : Nat) (mu : Bool) (x0 : U) (S : Store) : CC (k + 1) "Deed.quiet" mu [] [x0] [] S = cutR mu S (endR (B_Deed_quiet (TK k) mu [some x0] S)) := by kernel_rfl
theorem ck_Deed_when (k : Nat) (mu : Bool) (x0 : U) (S : Store) : CC (k + 1) "Deed.when" mu [] [x0] [] S = cutR mu S (endR (B_Deed_when (TK k) mu [some x0] S)) := by kernel_rfl
theorem ck_Deed_steps (k : Nat) (mu : Bool) (x0 : U) (S : Store) : CC (k + 1) "Deed.steps" mu [] [x0] [] S = cutR mu S (endR (B_Deed_steps (TK k) mu [some x0] S)) := by kernel_rfl
theorem ck_Deed_words (k : Nat) (mu : Bool) (x0 : U) (S : Store) : CC (k + 1) "Deed.words" mu [] [x0] [] S = cutR mu S (endR (B_Deed_words (TK k) mu [some x0, none, none, none] S)) := by kernel_rfl
theorem ck_Deed___add__ (k : Nat) (mu : Bool) (x0 x1 : U) (S : Store) : CC (k + 1) "Deed.__add__" mu [] [x0, x1] [] S = cutR mu S (endR (B_Deed___add__ (TK k) mu [some x0, some x1] S)) := by kernel_rfl
theorem ck_Deed___len__ (k : Nat) (mu : Bool) (x0 : U) (S : Store) : CC (k + 1) "Deed.__len__" mu [] [x0] [] S = cutR mu S (endR (B_Deed___len__ (TK k) mu [some x0] S)) := by kernel_rfl
theorem ck_Deed___eq__ (k : Nat) (mu : Bool) (x0 x1 : U) (S : Store) : CC (k + 1) "Deed.__eq__" mu [] [x0, x1] [] S = cutR mu S (endR (B_Deed___eq__ (TK k) mu [some x0, some x1] S)) := by kernel_rfl
theorem ck_Deed___repr__ (k : Nat) (mu : Bool) (x0 : U) (S : Store) : CC (k + 1) "Deed.__repr__" mu [] [x0] [] S = cutR mu S (endR (B_Deed___repr__ (TK k) mu [some x0] S)) := by kernel_rfl
theorem ck__law_source (k : Nat) (mu : Bool) (x0 : U) (S : Store) : CC (k + 1) "_law_source" mu [] [x0] [] S = cutR mu S (endR (B__law_source (TK k) mu [some x0] S)) := by kernel_rfl
theorem ck__law_draw (k : Nat) (mu : Bool) (x0 x1 : U) (S : Store) : CC (k + 1) "_law_draw" mu [] [x0, x1] [] S = cutR mu S (endR (B__law_draw (TK k) mu [some x0, some x1, none, none, none] S)) := by kernel_rfl
theorem ck__law_of (k : Nat) (mu : Bool) (x0 x1 : U) (S : Store) : CC (k + 1) "_law_of" mu [] [x0, x1] [] S = cutR mu S (endR (B__law_of (TK k) mu [some x0, some x1] S)) := by kernel_rfl
theorem ck__law_some (k : Nat) (mu : Bool) (x0 x1 : U) (S : Store) : CC (k + 1) "_law_some" mu [] [x0, x1] [] S = cutR mu S (endR (B__law_some (TK k) mu [some x0, some x1, none, none] S)) := by kernel_rfl
theorem ck__law_mixed (k : Nat) (mu : Bool) (x0 x1 : U) (S : Store) : CC (k + 1) "_law_mixed" mu [] [x0, x1] [] S = cutR mu S (endR (B__law_mixed (TK k) mu [some x0, some x1, none, none] S)) := by kernel_rfl
theorem ck__law_word (k : Nat) (mu : Bool) (x0 : U) (S : Store) : CC (k + 1) "_law_word" mu [] [x0] [] S = cutR mu S (endR (B__law_word (TK k) mu [some x0, none, none] S)) := by kernel_rfl
theorem ck__law_names (k : Nat) (mu : Bool) (x0 x1 : U) (S : Store) : CC (k + 1) "_law_names" mu [] [x0, x1] [] S = cutR mu S (endR (B__law_names (TK k) mu [some x0, some x1, none, none, none, none, none] S)) := by kernel_rfl
theorem ck__law_same (k : Nat) (mu : Bool) (x0 x1 : U) (S : Store) : CC (k + 1) "_law_same" mu [] [x0, x1] [] S = cutR mu S (endR (B__law_same (TK k) mu [some x0, some x1, none, none] S)) := by kernel_rfl
theorem ck__law_step (k : Nat) (mu : Bool) (x0 x1 : U) (S : Store) : CC (k + 1) "_law_step" mu [] [x0, x1] [] S = cutR mu S (endR (B__law_step (TK k) mu [some x0, some x1, none] S)) := by kernel_rfl
theorem ck__law_deed (k : Nat) (mu : Bool) (x0 x1 x2 : U) (S : Store) : CC (k + 1) "_law_deed" mu [] [x0, x1, x2] [] S = cutR mu S (endR (B__law_deed (TK k) mu [some x0, some x1, some x2, none, none, none, none] S)) := by kernel_rfl
theorem ck__law_deed_call (k : Nat) (mu : Bool) (x0 x1 x2 : U) (S : Store) : CC (k + 1) "_law_deed_call" mu [] [x0, x1, x2] [] S = cutR mu S (endR (B__law_deed_call (TK k) mu [some x0, some x1, some x2] S)) := by kernel_rfl
theorem ck__law_deed_made (k : Nat) (mu : Bool) (x0 : U) (S : Store) : CC (k + 1) "_law_deed_made" mu [] [x0] [] S = cutR mu S (endR (B__law_deed_made (TK k) mu [some x0] S)) := by kernel_rfl
theorem ck__law_words_of (k : Nat) (mu : Bool) (x0 : U) (S : Store) : CC (k + 1) "_law_words_of" mu [] [x0] [] S = cutR mu S (endR (B__law_words_of (TK k) mu [some x0, none, none] S)) := by kernel_rfl
theorem ck__law_deed_so_v2 (k : Nat) (mu : Bool) (x0 x1 : U) (S : Store) : CC (k + 1) "_law_deed_so" mu [] [x0, x1] [] S = cutR mu S (endR (B__law_deed_so_v2 (TK k) mu [some x0, some x1, none, none, none, none, none] S)) := by kernel_rfl
theorem ck_law_v88 (k : Nat) (mu : Bool) (x0 : U) (S : Store) : CC (k + 1) "law" mu [] [x0] [] S = cutR mu S (endR (B_law_v88 (TK k) mu [some x0, none, none, none, none, none, none, none, none, none, none, none, none] S)) := by kernel_rfl
end Lk02
set_option maxRecDepth 100000
set_option maxHeartbeats 1000000
namespace Dv
open PySem PySem.Spec PyProof.Rows L2
noncomputable section
def SourceOk (C : Cs) : Prop := ∀ ns : List Int, ∃ c, C "_law_source" true [] [.d (.fl (ns.map D.int))] [] [] = .ok (.ref 0) [c] ∧ SrcC 0 c
theorem app_at {S : Store} {n : Nat} {ds : List D} (e : S[n]? = some (.lst ds)) (hl : ds.length < 1000000) (y : D) : mAppend false S (.ref n) [.d y] = some (.d .non, S.set n (.lst (ds ++ [y]))) := by
  show (appU S n (.d y)).map _ = _
  have : appU S n (.d y) = some (S.set n (.lst (ds ++ [y]))) := by
    unfold appU
    rw [fr_d]
    dsimp only
    rw [e]
    dsimp only
    rw [if_pos (show ds.length < sizeLine by rw [sizeLine_eq]; omega)]
  rw [this]; rfl
theorem clear_at {S : Store} {n : Nat} {ds : List D} (e : S[n]? = some (.lst ds)) : mClear false S (.ref n) [] = some (.d .non, S.set n (.lst [])) := by
  unfold mClear
  dsimp only
  rw [e]
theorem mth_at {T : Tab} {m : Str} {S : Store} {n : Nat} {ds : List D} (e : S[n]? = some (.lst ds)) : methKind T m (.ref n) S = (mbFor m "list").map fun _ => .inr "list" := by rw [mk_ref, e]; rfl
theorem ty_at {S : Store} {n : Nat} {ds : List D} (e : S[n]? = some (.lst ds)) : tyOk S (.ref n) "list" = true := by unfold tyOk tyU; dsimp only; rw [e]; rfl
def MixedTOk (C : Cs) : Prop := ∀ (M : Int) (c : Cell) (R : Store) (x : D) (ds : List D), SrcC M c → M + ds.length < LIM → SeqX x ds → ds.length < 100000 → (C "_law_mixed" true [] [.ref 0, .d x] [] (c :: R)).sat noX fun u S' => ∃ es c', u = .ref (R.length + 1) ∧ S' = c' :: (R ++ [.lst es]) ∧ SrcC (M + ds.length) c' ∧ es.Perm ds
theorem mixedT_B {T : Tab} (hd : DrawOk T.call) (M : Int) (c : Cell) (R : Store) (x : D) (ds : List D) (hs : SrcC M c) (hM : M + ds.length < LIM) (hx : SeqX x ds) (h1 : ds.length < 100000) :
    (cutR true (c :: R) (endR (B__law_mixed T true [some (.ref 0), some (.d x), none, none] (c :: R)))).sat noX fun u S' => ∃ es c', u = .ref (R.length + 1) ∧ S' = c' :: (R ++ [.lst es]) ∧ SrcC (M + ds.length) c' ∧ es.Perm ds := by
  have hM : M + ds.length < 1000000000000 := hM
  have main : (endR (B__law_mixed T true [some (.ref 0), some (.d x), none, none] (c :: R))).sat noX fun u S' => ∃ es c', u = .ref (R.length + 1) ∧ S' = c' :: (R ++ [.lst es]) ∧ SrcC (M + ds.length) c' ∧ es.Perm ds := by
    rw [w_end]
    unfold B__law_mixed
    simp only [w_asO, w_ok, w_bind, w_up, w_upU, w_V0, w_VS, w_C, w_O1, w_O2, w_OA, w_OU, w_ix, w_call, w_nil, w_cons, w_dnil, w_dcons, w_tup, w_lst, w_lstM, w_dct0, w_if, w_and, w_or, w_not, w_tAnd, w_tOr, w_tNot, w_tB, w_tTru, w_chain, w_goN, w_goS, w_sl, w_attr, w_meth, uBl_b, uInt_i, s_nil, s_seq, s_drop, s_ret, s_retN, s_if, s_asg, s_par2, s_par3, s_asgT, s_break, s_cont, t_name, t_sub, t_attr, t_tup, t_nil, t_cons, set0, setS, s_for, w_giE, w_gir1, w_gir2, w_gizip, w_gienum, w_lc, Option.bind_some, Option.map_some, mkU_f, mkU_i, mkU_b, mkU_s, mkU_t, mkU_n, w_OR, w_cmp, w_bin, w_truO, w_jn, w_js, w_spl, t_star, strU_s, vw_d, vw_ref, fr_d, fr_ref, f1_d, f2_d, f1_u, f2_u, fA_1, fA_u, vws_nil, vws_cons, ixU_d, ixU_ref, cIx_l, cV_l, g0, gS, st0, stS, ix_l, ix_t, add_ii, sub_ii, eq_ii, cmp_ii, int_i, len_l, len_t, len_s, noI_d, noI_r, ni_int, ni_str, ni_bl, ni_non, ni_tup, ni_lst, nc_lst, nc_lsu, cmp_eq, cmp_ne, cmp_in, cmp_ni, bin_no, tru_no, lenR_no, Option.elim_some, mkL_nil, len_c, app_c, hx.iter]
    refine for_items (by omega) (fun i ρ S => ∃ (es : List D) (o : Option U) (c' : Cell), ρ = [some (.ref 0), some (.d x), some (.ref (R.length + 1)), o] ∧ S = c' :: (R ++ [.lst es]) ∧ es.Perm (ds.take i) ∧ SrcC (M + i) c') ⟨[], none, c, rfl, rfl, .refl _, by simpa using hs⟩ ?_ ?_
    · rintro i ρ S hi ⟨es, o, c', rfl, rfl, h2, h3⟩
      have hl : es.length ≤ i := by have := h2.length_eq; have := List.length_take_le i ds; omega
      simp only [w_asO, w_ok, w_bind, w_up, w_upU, w_V0, w_VS, w_C, w_O1, w_O2, w_OA, w_OU, w_ix, w_call, w_nil, w_cons, w_dnil, w_dcons, w_tup, w_lst, w_lstM, w_dct0, w_if, w_and, w_or, w_not, w_tAnd, w_tOr, w_tNot, w_tB, w_tTru, w_chain, w_goN, w_goS, w_sl, w_attr, w_meth, uBl_b, uInt_i, s_nil, s_seq, s_drop, s_ret, s_retN, s_if, s_asg, s_par2, s_par3, s_asgT, s_break, s_cont, t_name, t_sub, t_attr, t_tup, t_nil, t_cons, set0, setS, s_for, w_giE, w_gir1, w_gir2, w_gizip, w_gienum, w_lc, Option.bind_some, Option.map_some, mkU_f, mkU_i, mkU_b, mkU_s, mkU_t, mkU_n, w_OR, w_cmp, w_bin, w_truO, w_jn, w_js, w_spl, t_star, strU_s, vw_d, vw_ref, fr_d, fr_ref, f1_d, f2_d, f1_u, f2_u, fA_1, fA_u, vws_nil, vws_cons, ixU_d, ixU_ref, cIx_l, cV_l, g0, gS, st0, stS, ix_l, ix_t, add_ii, sub_ii, eq_ii, cmp_ii, int_i, len_l, len_t, len_s, noI_d, noI_r, ni_int, ni_str, ni_bl, ni_non, ni_tup, ni_lst, nc_lst, nc_lsu, cmp_eq, cmp_ne, cmp_in, cmp_ni, bin_no, tru_no, lenR_no, Option.elim_some, mk_ref, gE, mk_l, mb_insert, w_mb (h := mb_insert)]
      refine (hd.ds h3 (show M + i < 1000000000000 by omega) (by omega) (by omega)).use ?_
      rintro y c2 hc ⟨v, rfl, v0, v1⟩
      simp only [w_asO, w_ok, w_bind, w_up, w_upU, w_V0, w_VS, w_C, w_O1, w_O2, w_OA, w_OU, w_ix, w_call, w_nil, w_cons, w_dnil, w_dcons, w_tup, w_lst, w_lstM, w_dct0, w_if, w_and, w_or, w_not, w_tAnd, w_tOr, w_tNot, w_tB, w_tTru, w_chain, w_goN, w_goS, w_sl, w_attr, w_meth, uBl_b, uInt_i, s_nil, s_seq, s_drop, s_ret, s_retN, s_if, s_asg, s_par2, s_par3, s_asgT, s_break, s_cont, t_name, t_sub, t_attr, t_tup, t_nil, t_cons, set0, setS, s_for, w_giE, w_gir1, w_gir2, w_gizip, w_gienum, w_lc, Option.bind_some, Option.map_some, mkU_f, mkU_i, mkU_b, mkU_s, mkU_t, mkU_n, w_OR, w_cmp, w_bin, w_truO, w_jn, w_js, w_spl, t_star, strU_s, vw_d, vw_ref, fr_d, fr_ref, f1_d, f2_d, f1_u, f2_u, fA_1, fA_u, vws_nil, vws_cons, ixU_d, ixU_ref, cIx_l, cV_l, g0, gS, st0, stS, ix_l, ix_t, add_ii, sub_ii, eq_ii, cmp_ii, int_i, len_l, len_t, len_s, noI_d, noI_r, ni_int, ni_str, ni_bl, ni_non, ni_tup, ni_lst, nc_lst, nc_lsu, cmp_eq, cmp_ne, cmp_in, cmp_ni, bin_no, tru_no, lenR_no, Option.elim_some, tyOk_l, if_true, ins_l _ _ _ _ _ (show es.length < 1000000 by omega) v0 (show v < 1000000000 by omega)]
      refine ⟨_, _, c2, rfl, rfl, ?_, hc.mono (by omega)⟩
      rw [take_succ' (e := .non) hi]
      exact ins_perm.trans (h2.append_right _)
    · rintro ρ S ⟨es, o, c', rfl, rfl, h2, h3⟩
      simp only [w_asO, w_ok, w_bind, w_up, w_upU, w_V0, w_VS, w_C, w_O1, w_O2, w_OA, w_OU, w_ix, w_call, w_nil, w_cons, w_dnil, w_dcons, w_tup, w_lst, w_lstM, w_dct0, w_if, w_and, w_or, w_not, w_tAnd, w_tOr, w_tNot, w_tB, w_tTru, w_chain, w_goN, w_goS, w_sl, w_attr, w_meth, uBl_b, uInt_i, s_nil, s_seq, s_drop, s_ret, s_retN, s_if, s_asg, s_par2, s_par3, s_asgT, s_break, s_cont, t_name, t_sub, t_attr, t_tup, t_nil, t_cons, set0, setS, s_for, w_giE, w_gir1, w_gir2, w_gizip, w_gienum, w_lc, Option.bind_some, Option.map_some, mkU_f, mkU_i, mkU_b, mkU_s, mkU_t, mkU_n, w_OR, w_cmp, w_bin, w_truO, w_jn, w_js, w_spl, t_star, strU_s, vw_d, vw_ref, fr_d, fr_ref, f1_d, f2_d, f1_u, f2_u, fA_1, fA_u, vws_nil, vws_cons, ixU_d, ixU_ref, cIx_l, cV_l, g0, gS, st0, stS, ix_l, ix_t, add_ii, sub_ii, eq_ii, cmp_ii, int_i, len_l, len_t, len_s, noI_d, noI_r, ni_int, ni_str, ni_bl, ni_non, ni_tup, ni_lst, nc_lst, nc_lsu, cmp_eq, cmp_ne, cmp_in, cmp_ni, bin_no, tru_no, lenR_no, Option.elim_some]
      rw [List.take_length] at h2
      exact ⟨es, c', trivial, rfl, h3, h2⟩
  obtain ⟨u, S', e, es, c', rfl, rfl, h3, h4⟩ := main.ex
  rw [e, cut_rt (n := R.length + 1) (ds := es) (keep_src c c' R _ (h3.refs _)) (Nat.le_refl _) (by rw [gS, gE])]
  exact ⟨es, c', rfl, by simp, h3, h4⟩
theorem oNe_refl {x : D} (h : okD 60 x = true) (hl : isL x = true) : oNe x x = some (.bl false) := by
  have g : (if okD 60 x && okD 60 x then some (D.bl (!eqB x x)) else none) = some (.bl false) := by
    rw [h, show (true && true) = true from rfl, if_pos rfl, eqB_iff.mpr rfl]; rfl
  cases x <;> first | exact g | cases hl
theorem ne_strs (xs : List Str) : oNe (.lst (xs.map D.str)) (.lst (xs.map D.str)) = some (.bl false) := oNe_refl (okD_strs 59 xs) rfl
structure DeedC (T : Tab) : Prop where
  t : DeedTab T
  m : DeedM T.call
  i : InitOk T.call
  nf1 : T.nf "Deed" (.c "Deed") = true
  nf2 : T.nf "Deed" (.b "tuple") = true
  neq : T.neq "Deed" = true
section
variable {T : Tab} {S : Store} {X : XQ} {Q : U → Store → Prop}
theorem c_eq (h : DeedC T) (d e : Dd) : (cmpR T .Eq oEq (.d d.own) (.d e.own) S).sat X Q = Q (.d (.bl (decide (d = e)))) S := cmp_own (by rw [Dd.own, ownM_ins, h.t.eq]; rfl) (show tyU S (.d e.own) = some (.c "Deed") from rfl) h.nf1 (h.m.eq d e false S)
theorem c_ne (h : DeedC T) (d e : Dd) : (cmpR T .NotEq oNe (.d d.own) (.d e.own) S).sat X Q = Q (.d (.bl (!decide (d = e)))) S := cmp_nown (by rw [Dd.own, ownM_ins, h.t.eq]; rfl) (show tyU S (.d e.own) = some (.c "Deed") from rfl) h.nf1 h.neq (h.m.eq d e false S)
theorem c_law (h : DeedC T) (d e : Dd) : (cmpR T .Eq oEq (.d d.own) (.d e.law) S).sat X Q = Q (.d (.bl false)) S := cmp_own (by rw [Dd.own, ownM_ins, h.t.eq]; rfl) (show tyU S (.d e.law) = some (.b "tuple") from rfl) h.nf2 (h.m.eqn d e.law false S rfl)
theorem l_eq (d e : Dd) : (cmpR T .Eq oEq (.d d.law) (.d e.law) S).sat X Q = Q (.d (.bl (decide (d = e)))) S := by
  rw [cmp_eq _ _ _ rfl, f2_d, Dd.eq]; rfl
theorem l_ne (d e : Dd) : (cmpR T .NotEq oNe (.d d.law) (.d e.law) S).sat X Q = Q (.d (.bl (!decide (d = e)))) S := by
  rw [cmp_ne _ _ _ rfl, f2_d, Dd.ne]; rfl
end
theorem turn2_B {T : Tab} (hC : DeedC T) (hd : DrawOk T.call) (hnm : NamesOk T.call) (hld : LawDeedOk T.call) (hmt : MixedTOk T.call) (hmx : MixedOk T.call) (hdc : DeedCallOk T.call) (hdm : DeedMadeOk T.call) (hso : DeedSoOk T.call) (hsm : SameOk 4 T.call)
    (M : Int) (c : Cell) (R : Store) (E : EndsD) (o0 o2 o3 o4 o5 o6 o7 o8 o9 o10 o11 o12 : Option U) (hc : SrcC M c) (hM : M < 100000000000)
    (hE : ∀ o3 o4 o5 o6 o7 o8 o9 o10 o11 o12 c' R', SrcC (M + 1000) c' → E.nx [o0, some (.ref 0), o2, o3, o4, o5, o6, o7, o8, o9, o10, o11, o12] (c' :: R')) : satS (B_law_v88_18 T false [o0, some (.ref 0), o2, o3, o4, o5, o6, o7, o8, o9, o10, o11, o12] (c :: R)) E := by
  unfold B_law_v88_18
  try simp only [w_asO, w_ok, w_bind, w_up, w_upU, w_V0, w_VS, w_C, w_O1, w_O2, w_OA, w_OU, w_ix, w_call, w_nil, w_cons, w_dnil, w_dcons, w_tup, w_lst, w_lstM, w_dct0, w_if, w_and, w_or, w_not, w_tAnd, w_tOr, w_tNot, w_tB, w_tTru, w_chain, w_goN, w_goS, w_sl, w_attr, w_meth, uBl_b, uInt_i, s_nil, s_seq, s_drop, s_ret, s_retN, s_if, s_asg, s_par2, s_par3, s_asgT, s_break, s_cont, t_name, t_sub, t_attr, t_tup, t_nil, t_cons, set0, setS, s_for, w_giE, w_gir1, w_gir2, w_gizip, w_gienum, w_lc, Option.bind_some, Option.map_some, mkU_f, mkU_i, mkU_b, mkU_s, mkU_t, mkU_n, w_OR, w_cmp, w_bin, w_truO, w_jn, w_js, w_spl, t_star, strU_s, vw_d, vw_ref, fr_d, fr_ref, f1_d, f2_d, f1_u, f2_u, fA_1, fA_u, vws_nil, vws_cons, ixU_d, ixU_ref, cIx_l, cV_l, g0, gS, st0, stS, ix_l, ix_t, add_ii, sub_ii, eq_ii, cmp_ii, int_i, len_l, len_t, len_s, noI_d, noI_r, ni_int, ni_str, ni_bl, ni_non, ni_tup, ni_lst, nc_lst, nc_lsu, cmp_eq, cmp_ne, cmp_in, cmp_ni, bin_no, tru_no, lenR_no, Option.elim_some]
  refine (hd.ds hc (by show _ < (1000000000000 : Int); (try simp only [List.length_cons, List.length_nil, List.length_map]); omega) (by decide) (by decide)).use ?_
  rintro y c1 hc1 ⟨v, rfl, v0, v1⟩
  try simp only [w_asO, w_ok, w_bind, w_up, w_upU, w_V0, w_VS, w_C, w_O1, w_O2, w_OA, w_OU, w_ix, w_call, w_nil, w_cons, w_dnil, w_dcons, w_tup, w_lst, w_lstM, w_dct0, w_if, w_and, w_or, w_not, w_tAnd, w_tOr, w_tNot, w_tB, w_tTru, w_chain, w_goN, w_goS, w_sl, w_attr, w_meth, uBl_b, uInt_i, s_nil, s_seq, s_drop, s_ret, s_retN, s_if, s_asg, s_par2, s_par3, s_asgT, s_break, s_cont, t_name, t_sub, t_attr, t_tup, t_nil, t_cons, set0, setS, s_for, w_giE, w_gir1, w_gir2, w_gizip, w_gienum, w_lc, Option.bind_some, Option.map_some, mkU_f, mkU_i, mkU_b, mkU_s, mkU_t, mkU_n, w_OR, w_cmp, w_bin, w_truO, w_jn, w_js, w_spl, t_star, strU_s, vw_d, vw_ref, fr_d, fr_ref, f1_d, f2_d, f1_u, f2_u, fA_1, fA_u, vws_nil, vws_cons, ixU_d, ixU_ref, cIx_l, cV_l, g0, gS, st0, stS, ix_l, ix_t, add_ii, sub_ii, eq_ii, cmp_ii, int_i, len_l, len_t, len_s, noI_d, noI_r, ni_int, ni_str, ni_bl, ni_non, ni_tup, ni_lst, nc_lst, nc_lsu, cmp_eq, cmp_ne, cmp_in, cmp_ni, bin_no, tru_no, lenR_no, Option.elim_some]
  refine (hnm _ c1 R (1 + v) hc1 (by show _ < (1000000000000 : Int); (try simp only [List.length_cons, List.length_nil, List.length_map]); omega) (by omega) (by omega)).use ?_
  rintro y c2 hc2 ⟨xs, rfl, hl, hnd, hnm'⟩
  have hx : Nms xs := ⟨by omega, hnd, hnm'⟩
  try simp only [w_asO, w_ok, w_bind, w_up, w_upU, w_V0, w_VS, w_C, w_O1, w_O2, w_OA, w_OU, w_ix, w_call, w_nil, w_cons, w_dnil, w_dcons, w_tup, w_lst, w_lstM, w_dct0, w_if, w_and, w_or, w_not, w_tAnd, w_tOr, w_tNot, w_tB, w_tTru, w_chain, w_goN, w_goS, w_sl, w_attr, w_meth, uBl_b, uInt_i, s_nil, s_seq, s_drop, s_ret, s_retN, s_if, s_asg, s_par2, s_par3, s_asgT, s_break, s_cont, t_name, t_sub, t_attr, t_tup, t_nil, t_cons, set0, setS, s_for, w_giE, w_gir1, w_gir2, w_gizip, w_gienum, w_lc, Option.bind_some, Option.map_some, mkU_f, mkU_i, mkU_b, mkU_s, mkU_t, mkU_n, w_OR, w_cmp, w_bin, w_truO, w_jn, w_js, w_spl, t_star, strU_s, vw_d, vw_ref, fr_d, fr_ref, f1_d, f2_d, f1_u, f2_u, fA_1, fA_u, vws_nil, vws_cons, ixU_d, ixU_ref, cIx_l, cV_l, g0, gS, st0, stS, ix_l, ix_t, add_ii, sub_ii, eq_ii, cmp_ii, int_i, len_l, len_t, len_s, noI_d, noI_r, ni_int, ni_str, ni_bl, ni_non, ni_tup, ni_lst, nc_lst, nc_lsu, cmp_eq, cmp_ne, cmp_in, cmp_ni, bin_no, tru_no, lenR_no, Option.elim_some]
  unfold B_law_v88_17
  try simp only [w_asO, w_ok, w_bind, w_up, w_upU, w_V0, w_VS, w_C, w_O1, w_O2, w_OA, w_OU, w_ix, w_call, w_nil, w_cons, w_dnil, w_dcons, w_tup, w_lst, w_lstM, w_dct0, w_if, w_and, w_or, w_not, w_tAnd, w_tOr, w_tNot, w_tB, w_tTru, w_chain, w_goN, w_goS, w_sl, w_attr, w_meth, uBl_b, uInt_i, s_nil, s_seq, s_drop, s_ret, s_retN, s_if, s_asg, s_par2, s_par3, s_asgT, s_break, s_cont, t_name, t_sub, t_attr, t_tup, t_nil, t_cons, set0, setS, s_for, w_giE, w_gir1, w_gir2, w_gizip, w_gienum, w_lc, Option.bind_some, Option.map_some, mkU_f, mkU_i, mkU_b, mkU_s, mkU_t, mkU_n, w_OR, w_cmp, w_bin, w_truO, w_jn, w_js, w_spl, t_star, strU_s, vw_d, vw_ref, fr_d, fr_ref, f1_d, f2_d, f1_u, f2_u, fA_1, fA_u, vws_nil, vws_cons, ixU_d, ixU_ref, cIx_l, cV_l, g0, gS, st0, stS, ix_l, ix_t, add_ii, sub_ii, eq_ii, cmp_ii, int_i, len_l, len_t, len_s, noI_d, noI_r, ni_int, ni_str, ni_bl, ni_non, ni_tup, ni_lst, nc_lst, nc_lsu, cmp_eq, cmp_ne, cmp_in, cmp_ni, bin_no, tru_no, lenR_no, Option.elim_some]
  refine (hld _ c2 R false xs 5 hc2 (by show _ < (1000000000000 : Int); (try simp only [List.length_cons, List.length_nil, List.length_map]); omega) (by omega) hx (by decide)).use ?_
  rintro y c3 hc3 ⟨d, rfl, hok, _⟩
  have j0 : dIx d.law (.int 0) = some (.lst (d.when.map D.str)) := rfl
  have j1 : dIx d.law (.int 1) = some (.lst (d.steps.map Stp.d)) := rfl
  have j2 : dIx d.law (.int 2) = some (.str d.ask) := rfl
  try simp only [w_asO, w_ok, w_bind, w_up, w_upU, w_V0, w_VS, w_C, w_O1, w_O2, w_OA, w_OU, w_ix, w_call, w_nil, w_cons, w_dnil, w_dcons, w_tup, w_lst, w_lstM, w_dct0, w_if, w_and, w_or, w_not, w_tAnd, w_tOr, w_tNot, w_tB, w_tTru, w_chain, w_goN, w_goS, w_sl, w_attr, w_meth, uBl_b, uInt_i, s_nil, s_seq, s_drop, s_ret, s_retN, s_if, s_asg, s_par2, s_par3, s_asgT, s_break, s_cont, t_name, t_sub, t_attr, t_tup, t_nil, t_cons, set0, setS, s_for, w_giE, w_gir1, w_gir2, w_gizip, w_gienum, w_lc, Option.bind_some, Option.map_some, mkU_f, mkU_i, mkU_b, mkU_s, mkU_t, mkU_n, w_OR, w_cmp, w_bin, w_truO, w_jn, w_js, w_spl, t_star, strU_s, vw_d, vw_ref, fr_d, fr_ref, f1_d, f2_d, f1_u, f2_u, fA_1, fA_u, vws_nil, vws_cons, ixU_d, ixU_ref, cIx_l, cV_l, g0, gS, st0, stS, ix_l, ix_t, add_ii, sub_ii, eq_ii, cmp_ii, int_i, len_l, len_t, len_s, noI_d, noI_r, ni_int, ni_str, ni_bl, ni_non, ni_tup, ni_lst, nc_lst, nc_lsu, cmp_eq, cmp_ne, cmp_in, cmp_ni, bin_no, tru_no, lenR_no, Option.elim_some]
  unfold B_law_v88_16
  try simp only [w_asO, w_ok, w_bind, w_up, w_upU, w_V0, w_VS, w_C, w_O1, w_O2, w_OA, w_OU, w_ix, w_call, w_nil, w_cons, w_dnil, w_dcons, w_tup, w_lst, w_lstM, w_dct0, w_if, w_and, w_or, w_not, w_tAnd, w_tOr, w_tNot, w_tB, w_tTru, w_chain, w_goN, w_goS, w_sl, w_attr, w_meth, uBl_b, uInt_i, s_nil, s_seq, s_drop, s_ret, s_retN, s_if, s_asg, s_par2, s_par3, s_asgT, s_break, s_cont, t_name, t_sub, t_attr, t_tup, t_nil, t_cons, set0, setS, s_for, w_giE, w_gir1, w_gir2, w_gizip, w_gienum, w_lc, Option.bind_some, Option.map_some, mkU_f, mkU_i, mkU_b, mkU_s, mkU_t, mkU_n, w_OR, w_cmp, w_bin, w_truO, w_jn, w_js, w_spl, t_star, strU_s, vw_d, vw_ref, fr_d, fr_ref, f1_d, f2_d, f1_u, f2_u, fA_1, fA_u, vws_nil, vws_cons, ixU_d, ixU_ref, cIx_l, cV_l, g0, gS, st0, stS, ix_l, ix_t, add_ii, sub_ii, eq_ii, cmp_ii, int_i, len_l, len_t, len_s, noI_d, noI_r, ni_int, ni_str, ni_bl, ni_non, ni_tup, ni_lst, nc_lst, nc_lsu, cmp_eq, cmp_ne, cmp_in, cmp_ni, bin_no, tru_no, lenR_no, Option.elim_some, j0]
  have hwl := hok.w.le
  refine (hmt _ c3 R _ _ hc3 (by show _ < (1000000000000 : Int); (try simp only [List.length_cons, List.length_nil, List.length_map]); omega) (.inl rfl) (by simp; omega)).no ?_
  rintro u S' ⟨es, c4, rfl, rfl, hc4, hp⟩
  obtain ⟨ys, rfl, hys⟩ := perm_strs hp
  try simp only [w_asO, w_ok, w_bind, w_up, w_upU, w_V0, w_VS, w_C, w_O1, w_O2, w_OA, w_OU, w_ix, w_call, w_nil, w_cons, w_dnil, w_dcons, w_tup, w_lst, w_lstM, w_dct0, w_if, w_and, w_or, w_not, w_tAnd, w_tOr, w_tNot, w_tB, w_tTru, w_chain, w_goN, w_goS, w_sl, w_attr, w_meth, uBl_b, uInt_i, s_nil, s_seq, s_drop, s_ret, s_retN, s_if, s_asg, s_par2, s_par3, s_asgT, s_break, s_cont, t_name, t_sub, t_attr, t_tup, t_nil, t_cons, set0, setS, s_for, w_giE, w_gir1, w_gir2, w_gizip, w_gienum, w_lc, Option.bind_some, Option.map_some, mkU_f, mkU_i, mkU_b, mkU_s, mkU_t, mkU_n, w_OR, w_cmp, w_bin, w_truO, w_jn, w_js, w_spl, t_star, strU_s, vw_d, vw_ref, fr_d, fr_ref, f1_d, f2_d, f1_u, f2_u, fA_1, fA_u, vws_nil, vws_cons, ixU_d, ixU_ref, cIx_l, cV_l, g0, gS, st0, stS, ix_l, ix_t, add_ii, sub_ii, eq_ii, cmp_ii, int_i, len_l, len_t, len_s, noI_d, noI_r, ni_int, ni_str, ni_bl, ni_non, ni_tup, ni_lst, nc_lst, nc_lsu, cmp_eq, cmp_ne, cmp_in, cmp_ni, bin_no, tru_no, lenR_no, Option.elim_some, mkL_nil, len_c, app_c, List.length_append, List.length_singleton]
  unfold B_law_v88_15
  try simp only [w_asO, w_ok, w_bind, w_up, w_upU, w_V0, w_VS, w_C, w_O1, w_O2, w_OA, w_OU, w_ix, w_call, w_nil, w_cons, w_dnil, w_dcons, w_tup, w_lst, w_lstM, w_dct0, w_if, w_and, w_or, w_not, w_tAnd, w_tOr, w_tNot, w_tB, w_tTru, w_chain, w_goN, w_goS, w_sl, w_attr, w_meth, uBl_b, uInt_i, s_nil, s_seq, s_drop, s_ret, s_retN, s_if, s_asg, s_par2, s_par3, s_asgT, s_break, s_cont, t_name, t_sub, t_attr, t_tup, t_nil, t_cons, set0, setS, s_for, w_giE, w_gir1, w_gir2, w_gizip, w_gienum, w_lc, Option.bind_some, Option.map_some, mkU_f, mkU_i, mkU_b, mkU_s, mkU_t, mkU_n, w_OR, w_cmp, w_bin, w_truO, w_jn, w_js, w_spl, t_star, strU_s, vw_d, vw_ref, fr_d, fr_ref, f1_d, f2_d, f1_u, f2_u, fA_1, fA_u, vws_nil, vws_cons, ixU_d, ixU_ref, cIx_l, cV_l, g0, gS, st0, stS, ix_l, ix_t, add_ii, sub_ii, eq_ii, cmp_ii, int_i, len_l, len_t, len_s, noI_d, noI_r, ni_int, ni_str, ni_bl, ni_non, ni_tup, ni_lst, nc_lst, nc_lsu, cmp_eq, cmp_ne, cmp_in, cmp_ni, bin_no, tru_no, lenR_no, Option.elim_some, j1, iter_l]
  have hwl2 : ys.length ≤ 4 := by rw [hys.length_eq]; exact hwl
  have hst5 := hok.le
  refine for_items (by simp; omega) (fun i ρ S' => ∃ (o6 : Option U) (acc : List D) (c' : Cell) (R' : Store), ρ = [o0, some (U.ref 0), o2, o3, some (U.d (D.lst (List.map D.str xs))), some (U.d d.law), o6, o7, o8, o9, o10, some (U.ref (List.length R + 1)), some (U.ref (List.length R + 1 + 1))] ∧ S' = c' :: R' ∧ R'[R.length]? = some (.lst (ys.map D.str)) ∧ R'[R.length + 1]? = some (.lst acc) ∧ acc.length = i ∧ (∀ x ∈ acc, Good x) ∧ acc.map stepOf = (d.steps.take i).map Stp.d ∧ SrcC (M + 100 + 4 * i) c') ⟨o6, [], c4, _, rfl, rfl, by simp, by simp, rfl, by simp, by simp, hc4.mono (by rw [List.length_map]; omega)⟩ ?_ ?_
  · rintro i ρ S' hi ⟨o6, acc, c', R', rfl, rfl, r1, r2, h1, h2, h3, hc'⟩
    have hi' : i < d.steps.length := by simpa using hi
    rw [getD_map Stp.d hi']
    have hso' := hok.st _ (List.getElem_mem hi')
    have e2 : (c' :: R')[R.length + 1 + 1]? = some (.lst acc) := r2
    have key : ∀ (y : D) (c2 : Cell), Passed d.steps[i] y → SrcC (M + 100 + 4 * i + 4) c2 → ∃ (o6' : Option U) (acc' : List D) (c'' : Cell) (R'' : Store), [o0, some (U.ref 0), o2, o3, some (U.d (D.lst (List.map D.str xs))), some (U.d d.law), some (U.d d.steps[i].d), o7, o8, o9, o10, some (U.ref (List.length R + 1)), some (U.ref (List.length R + 1 + 1))] = [o0, some (U.ref 0), o2, o3, some (U.d (D.lst (List.map D.str xs))), some (U.d d.law), o6', o7, o8, o9, o10, some (U.ref (List.length R + 1)), some (U.ref (List.length R + 1 + 1))] ∧ c2 :: R'.set (R.length + 1) (.lst (acc ++ [y])) = c'' :: R'' ∧ R''[R.length]? = some (.lst (ys.map D.str)) ∧ R''[R.length + 1]? = some (.lst acc') ∧ acc'.length = i + 1 ∧ (∀ x ∈ acc', Good x) ∧ acc'.map stepOf = (d.steps.take (i + 1)).map Stp.d ∧ SrcC (M + 100 + 4 * ((i + 1 : Nat) : Int)) c'' := by
      intro y c2 hy hc2
      have hlt := (List.getElem?_eq_some_iff.mp r2).1
      have e : d.steps.take (i + 1) = d.steps.take i ++ [d.steps[i]] := by rw [List.take_succ, List.getElem?_eq_getElem hi']; rfl
      refine ⟨_, acc ++ [y], c2, _, rfl, rfl, by rw [List.getElem?_set_ne (by omega)]; exact r1, by rw [List.getElem?_set_self hlt], by simp [h1], ?_, ?_, hc2.mono (by omega)⟩
      · intro x hx
        rcases List.mem_append.mp hx with hx | hx
        · exact h2 x hx
        · rw [List.mem_singleton.mp hx]; exact hy.good
      · rw [List.map_append, h3, e, List.map_append, List.map_cons, List.map_nil, hy.step hso']; rfl
    unfold B_law_v88_14
    generalize d.steps[i] = s at hso' key
    cases s with
    | one a =>
      have hok2 : a = "take" ∨ a = "put" ∨ a = "give" := hso'
      have n2 : decide (a = "check") = false := by rcases hok2 with rfl | rfl | rfl <;> decide
      simp only [Stp.d, w_asO, w_ok, w_bind, w_up, w_upU, w_V0, w_VS, w_C, w_O1, w_O2, w_OA, w_OU, w_ix, w_call, w_nil, w_cons, w_dnil, w_dcons, w_tup, w_lst, w_lstM, w_dct0, w_if, w_and, w_or, w_not, w_tAnd, w_tOr, w_tNot, w_tB, w_tTru, w_chain, w_goN, w_goS, w_sl, w_attr, w_meth, uBl_b, uInt_i, s_nil, s_seq, s_drop, s_ret, s_retN, s_if, s_asg, s_par2, s_par3, s_asgT, s_break, s_cont, t_name, t_sub, t_attr, t_tup, t_nil, t_cons, set0, setS, s_for, w_giE, w_gir1, w_gir2, w_gizip, w_gienum, w_lc, Option.bind_some, Option.map_some, mkU_f, mkU_i, mkU_b, mkU_s, mkU_t, mkU_n, w_OR, w_cmp, w_bin, w_truO, w_jn, w_js, w_spl, t_star, strU_s, mth_at e2, vw_d, vw_ref, fr_d, fr_ref, f1_d, f2_d, f1_u, f2_u, fA_1, fA_u, vws_nil, vws_cons, ixU_d, ixU_ref, cIx_l, cV_l, g0, gS, st0, stS, ix_l, ix_t, add_ii, sub_ii, eq_ii, cmp_ii, int_i, len_l, len_t, len_s, noI_d, noI_r, ni_int, ni_str, ni_bl, ni_non, ni_tup, ni_lst, nc_lst, nc_lsu, cmp_eq, cmp_ne, cmp_in, cmp_ni, bin_no, tru_no, lenR_no, Option.elim_some, a10, eq_ss, n2, Bool.false_eq_true, if_false, mb_append, w_mb (h := mb_append), ty_at e2, if_true, app_at e2 (show acc.length < 1000000 by omega)]
      exact key _ c' (.inl rfl) (hc'.mono (by omega))
    | note w =>
      have n2 : decide (("note" : Str) = "check") = false := by decide
      simp only [Stp.d, w_asO, w_ok, w_bind, w_up, w_upU, w_V0, w_VS, w_C, w_O1, w_O2, w_OA, w_OU, w_ix, w_call, w_nil, w_cons, w_dnil, w_dcons, w_tup, w_lst, w_lstM, w_dct0, w_if, w_and, w_or, w_not, w_tAnd, w_tOr, w_tNot, w_tB, w_tTru, w_chain, w_goN, w_goS, w_sl, w_attr, w_meth, uBl_b, uInt_i, s_nil, s_seq, s_drop, s_ret, s_retN, s_if, s_asg, s_par2, s_par3, s_asgT, s_break, s_cont, t_name, t_sub, t_attr, t_tup, t_nil, t_cons, set0, setS, s_for, w_giE, w_gir1, w_gir2, w_gizip, w_gienum, w_lc, Option.bind_some, Option.map_some, mkU_f, mkU_i, mkU_b, mkU_s, mkU_t, mkU_n, w_OR, w_cmp, w_bin, w_truO, w_jn, w_js, w_spl, t_star, strU_s, mth_at e2, vw_d, vw_ref, fr_d, fr_ref, f1_d, f2_d, f1_u, f2_u, fA_1, fA_u, vws_nil, vws_cons, ixU_d, ixU_ref, cIx_l, cV_l, g0, gS, st0, stS, ix_l, ix_t, add_ii, sub_ii, eq_ii, cmp_ii, int_i, len_l, len_t, len_s, noI_d, noI_r, ni_int, ni_str, ni_bl, ni_non, ni_tup, ni_lst, nc_lst, nc_lsu, cmp_eq, cmp_ne, cmp_in, cmp_ni, bin_no, tru_no, lenR_no, Option.elim_some, a20, eq_ss, n2, Bool.false_eq_true, if_false, mb_append, w_mb (h := mb_append), ty_at e2, if_true, app_at e2 (show acc.length < 1000000 by omega)]
      exact key _ c' (.inl rfl) (hc'.mono (by omega))
    | check ws =>
      have n2 : decide (("check" : Str) = "check") = true := by decide
      have hw4 := hso'.1.le
      simp only [Stp.d, w_asO, w_ok, w_bind, w_up, w_upU, w_V0, w_VS, w_C, w_O1, w_O2, w_OA, w_OU, w_ix, w_call, w_nil, w_cons, w_dnil, w_dcons, w_tup, w_lst, w_lstM, w_dct0, w_if, w_and, w_or, w_not, w_tAnd, w_tOr, w_tNot, w_tB, w_tTru, w_chain, w_goN, w_goS, w_sl, w_attr, w_meth, uBl_b, uInt_i, s_nil, s_seq, s_drop, s_ret, s_retN, s_if, s_asg, s_par2, s_par3, s_asgT, s_break, s_cont, t_name, t_sub, t_attr, t_tup, t_nil, t_cons, set0, setS, s_for, w_giE, w_gir1, w_gir2, w_gizip, w_gienum, w_lc, Option.bind_some, Option.map_some, mkU_f, mkU_i, mkU_b, mkU_s, mkU_t, mkU_n, w_OR, w_cmp, w_bin, w_truO, w_jn, w_js, w_spl, t_star, strU_s, mth_at e2, vw_d, vw_ref, fr_d, fr_ref, f1_d, f2_d, f1_u, f2_u, fA_1, fA_u, vws_nil, vws_cons, ixU_d, ixU_ref, cIx_l, cV_l, g0, gS, st0, stS, ix_l, ix_t, add_ii, sub_ii, eq_ii, cmp_ii, int_i, len_l, len_t, len_s, noI_d, noI_r, ni_int, ni_str, ni_bl, ni_non, ni_tup, ni_lst, nc_lst, nc_lsu, cmp_eq, cmp_ne, cmp_in, cmp_ni, bin_no, tru_no, lenR_no, Option.elim_some, a20, a21, eq_ss, n2, if_true, mb_append, w_mb (h := mb_append)]
      refine (hmx _ c' R' _ (ws.map D.str) hc' (by show _ < (1000000000000 : Int); (try simp only [List.length_cons, List.length_nil, List.length_map]); omega) (.inr rfl) (by simp; omega)).use ?_
      rintro y c5 hc5 ⟨es, rfl, hes⟩
      obtain ⟨zs, rfl, hzs⟩ := perm_strs hes
      have e2' : (c5 :: R')[R.length + 1 + 1]? = some (.lst acc) := r2
      simp only [w_asO, w_ok, w_bind, w_up, w_upU, w_V0, w_VS, w_C, w_O1, w_O2, w_OA, w_OU, w_ix, w_call, w_nil, w_cons, w_dnil, w_dcons, w_tup, w_lst, w_lstM, w_dct0, w_if, w_and, w_or, w_not, w_tAnd, w_tOr, w_tNot, w_tB, w_tTru, w_chain, w_goN, w_goS, w_sl, w_attr, w_meth, uBl_b, uInt_i, s_nil, s_seq, s_drop, s_ret, s_retN, s_if, s_asg, s_par2, s_par3, s_asgT, s_break, s_cont, t_name, t_sub, t_attr, t_tup, t_nil, t_cons, set0, setS, s_for, w_giE, w_gir1, w_gir2, w_gizip, w_gienum, w_lc, Option.bind_some, Option.map_some, mkU_f, mkU_i, mkU_b, mkU_s, mkU_t, mkU_n, w_OR, w_cmp, w_bin, w_truO, w_jn, w_js, w_spl, t_star, strU_s, vw_d, vw_ref, fr_d, fr_ref, f1_d, f2_d, f1_u, f2_u, fA_1, fA_u, vws_nil, vws_cons, ixU_d, ixU_ref, cIx_l, cV_l, g0, gS, st0, stS, ix_l, ix_t, add_ii, sub_ii, eq_ii, cmp_ii, int_i, len_l, len_t, len_s, noI_d, noI_r, ni_int, ni_str, ni_bl, ni_non, ni_tup, ni_lst, nc_lst, nc_lsu, cmp_eq, cmp_ne, cmp_in, cmp_ni, bin_no, tru_no, lenR_no, Option.elim_some, ty_at e2', if_true, app_at e2' (show acc.length < 1000000 by omega)]
      exact key _ c5 (.inr ⟨ws, zs, rfl, rfl, hzs⟩) (hc5.mono (by rw [List.length_map]; omega))
  · rintro ρ S' ⟨o6, acc, c5, R5, rfl, rfl, r1, r2, h1, h2, h3, hc5⟩
    rw [List.length_map] at h3
    rw [List.take_length] at h3
    have e1 : (c5 :: R5)[R.length + 1]? = some (.lst (ys.map D.str)) := r1
    have e2 : (c5 :: R5)[R.length + 1 + 1]? = some (.lst acc) := r2
    unfold B_law_v88_13
    simp only [w_asO, w_ok, w_bind, w_up, w_upU, w_V0, w_VS, w_C, w_O1, w_O2, w_OA, w_OU, w_ix, w_call, w_nil, w_cons, w_dnil, w_dcons, w_tup, w_lst, w_lstM, w_dct0, w_if, w_and, w_or, w_not, w_tAnd, w_tOr, w_tNot, w_tB, w_tTru, w_chain, w_goN, w_goS, w_sl, w_attr, w_meth, uBl_b, uInt_i, s_nil, s_seq, s_drop, s_ret, s_retN, s_if, s_asg, s_par2, s_par3, s_asgT, s_break, s_cont, t_name, t_sub, t_attr, t_tup, t_nil, t_cons, set0, setS, s_for, w_giE, w_gir1, w_gir2, w_gizip, w_gienum, w_lc, Option.bind_some, Option.map_some, mkU_f, mkU_i, mkU_b, mkU_s, mkU_t, mkU_n, w_OR, w_cmp, w_bin, w_truO, w_jn, w_js, w_spl, t_star, strU_s, vw_d, vw_ref, fr_d, fr_ref, f1_d, f2_d, f1_u, f2_u, fA_1, fA_u, vws_nil, vws_cons, ixU_d, ixU_ref, cIx_l, cV_l, g0, gS, st0, stS, ix_l, ix_t, add_ii, sub_ii, eq_ii, cmp_ii, int_i, len_l, len_t, len_s, noI_d, noI_r, ni_int, ni_str, ni_bl, ni_non, ni_tup, ni_lst, nc_lst, nc_lsu, cmp_eq, cmp_ne, cmp_in, cmp_ni, bin_no, tru_no, lenR_no, Option.elim_some, r1, list_l]
    unfold B_law_v88_12
    simp only [w_asO, w_ok, w_bind, w_up, w_upU, w_V0, w_VS, w_C, w_O1, w_O2, w_OA, w_OU, w_ix, w_call, w_nil, w_cons, w_dnil, w_dcons, w_tup, w_lst, w_lstM, w_dct0, w_if, w_and, w_or, w_not, w_tAnd, w_tOr, w_tNot, w_tB, w_tTru, w_chain, w_goN, w_goS, w_sl, w_attr, w_meth, uBl_b, uInt_i, s_nil, s_seq, s_drop, s_ret, s_retN, s_if, s_asg, s_par2, s_par3, s_asgT, s_break, s_cont, t_name, t_sub, t_attr, t_tup, t_nil, t_cons, set0, setS, s_for, w_giE, w_gir1, w_gir2, w_gizip, w_gienum, w_lc, Option.bind_some, Option.map_some, mkU_f, mkU_i, mkU_b, mkU_s, mkU_t, mkU_n, w_OR, w_cmp, w_bin, w_truO, w_jn, w_js, w_spl, t_star, strU_s, vw_d, vw_ref, fr_d, fr_ref, f1_d, f2_d, f1_u, f2_u, fA_1, fA_u, vws_nil, vws_cons, ixU_d, ixU_ref, cIx_l, cV_l, g0, gS, st0, stS, ix_l, ix_t, add_ii, sub_ii, eq_ii, cmp_ii, int_i, len_l, len_t, len_s, noI_d, noI_r, ni_int, ni_str, ni_bl, ni_non, ni_tup, ni_lst, nc_lst, nc_lsu, cmp_eq, cmp_ne, cmp_in, cmp_ni, bin_no, tru_no, lenR_no, Option.elim_some, j2]
    have dc := hdc (c5 :: R5) (.ref (R.length + 1)) (.ref (R.length + 1 + 1)) ys acc d false (.inr ⟨_, rfl, e1⟩) (.inr ⟨_, rfl, e2⟩) hys hok h2 h3
    simp only [dc, w_asO, w_ok, w_bind, w_up, w_upU, w_V0, w_VS, w_C, w_O1, w_O2, w_OA, w_OU, w_ix, w_call, w_nil, w_cons, w_dnil, w_dcons, w_tup, w_lst, w_lstM, w_dct0, w_if, w_and, w_or, w_not, w_tAnd, w_tOr, w_tNot, w_tB, w_tTru, w_chain, w_goN, w_goS, w_sl, w_attr, w_meth, uBl_b, uInt_i, s_nil, s_seq, s_drop, s_ret, s_retN, s_if, s_asg, s_par2, s_par3, s_asgT, s_break, s_cont, t_name, t_sub, t_attr, t_tup, t_nil, t_cons, set0, setS, s_for, w_giE, w_gir1, w_gir2, w_gizip, w_gienum, w_lc, Option.bind_some, Option.map_some, mkU_f, mkU_i, mkU_b, mkU_s, mkU_t, mkU_n, w_OR, w_cmp, w_bin, w_truO, w_jn, w_js, w_spl, t_star, strU_s]
    unfold B_law_v88_11
    simp only [w_asO, w_ok, w_bind, w_up, w_upU, w_V0, w_VS, w_C, w_O1, w_O2, w_OA, w_OU, w_ix, w_call, w_nil, w_cons, w_dnil, w_dcons, w_tup, w_lst, w_lstM, w_dct0, w_if, w_and, w_or, w_not, w_tAnd, w_tOr, w_tNot, w_tB, w_tTru, w_chain, w_goN, w_goS, w_sl, w_attr, w_meth, uBl_b, uInt_i, s_nil, s_seq, s_drop, s_ret, s_retN, s_if, s_asg, s_par2, s_par3, s_asgT, s_break, s_cont, t_name, t_sub, t_attr, t_tup, t_nil, t_cons, set0, setS, s_for, w_giE, w_gir1, w_gir2, w_gizip, w_gienum, w_lc, Option.bind_some, Option.map_some, mkU_f, mkU_i, mkU_b, mkU_s, mkU_t, mkU_n, w_OR, w_cmp, w_bin, w_truO, w_jn, w_js, w_spl, t_star, strU_s, vw_d, vw_ref, fr_d, fr_ref, f1_d, f2_d, f1_u, f2_u, fA_1, fA_u, vws_nil, vws_cons, ixU_d, ixU_ref, cIx_l, cV_l, g0, gS, st0, stS, ix_l, ix_t, add_ii, sub_ii, eq_ii, cmp_ii, int_i, len_l, len_t, len_s, noI_d, noI_r, ni_int, ni_str, ni_bl, ni_non, ni_tup, ni_lst, nc_lst, nc_lsu, cmp_eq, cmp_ne, cmp_in, cmp_ni, bin_no, tru_no, lenR_no, Option.elim_some, r1, ne_strs, tru_bl, Bool.false_eq_true, if_false, hso _ d false hok, Bool.not_true]
    unfold B_law_v88_10
    simp only [w_asO, w_ok, w_bind, w_up, w_upU, w_V0, w_VS, w_C, w_O1, w_O2, w_OA, w_OU, w_ix, w_call, w_nil, w_cons, w_dnil, w_dcons, w_tup, w_lst, w_lstM, w_dct0, w_if, w_and, w_or, w_not, w_tAnd, w_tOr, w_tNot, w_tB, w_tTru, w_chain, w_goN, w_goS, w_sl, w_attr, w_meth, uBl_b, uInt_i, s_nil, s_seq, s_drop, s_ret, s_retN, s_if, s_asg, s_par2, s_par3, s_asgT, s_break, s_cont, t_name, t_sub, t_attr, t_tup, t_nil, t_cons, set0, setS, s_for, w_giE, w_gir1, w_gir2, w_gizip, w_gienum, w_lc, Option.bind_some, Option.map_some, mkU_f, mkU_i, mkU_b, mkU_s, mkU_t, mkU_n, w_OR, w_cmp, w_bin, w_truO, w_jn, w_js, w_spl, t_star, strU_s, mth_at e1, mb_append, w_mb (h := mb_append), ty_at e1, if_true, app_at e1 (show (ys.map D.str).length < 1000000 by rw [List.length_map]; omega), stS, Option.map_some]
    generalize R5.set R.length (.lst (ys.map D.str ++ [.str ""])) = R6
    unfold B_law_v88_9
    simp only [w_asO, w_ok, w_bind, w_up, w_upU, w_V0, w_VS, w_C, w_O1, w_O2, w_OA, w_OU, w_ix, w_call, w_nil, w_cons, w_dnil, w_dcons, w_tup, w_lst, w_lstM, w_dct0, w_if, w_and, w_or, w_not, w_tAnd, w_tOr, w_tNot, w_tB, w_tTru, w_chain, w_goN, w_goS, w_sl, w_attr, w_meth, uBl_b, uInt_i, s_nil, s_seq, s_drop, s_ret, s_retN, s_if, s_asg, s_par2, s_par3, s_asgT, s_break, s_cont, t_name, t_sub, t_attr, t_tup, t_nil, t_cons, set0, setS, s_for, w_giE, w_gir1, w_gir2, w_gizip, w_gienum, w_lc, Option.bind_some, Option.map_some, mkU_f, mkU_i, mkU_b, mkU_s, mkU_t, mkU_n, w_OR, w_cmp, w_bin, w_truO, w_jn, w_js, w_spl, t_star, strU_s, m_when hC.t hC.m, mkU_l, len_c, app_c, mk_ref, vw_d, vw_ref, fr_d, fr_ref, f1_d, f2_d, f1_u, f2_u, fA_1, fA_u, vws_nil, vws_cons, ixU_d, ixU_ref, cIx_l, cV_l, g0, gS, st0, stS, ix_l, ix_t, add_ii, sub_ii, eq_ii, cmp_ii, int_i, len_l, len_t, len_s, noI_d, noI_r, ni_int, ni_str, ni_bl, ni_non, ni_tup, ni_lst, nc_lst, nc_lsu, cmp_eq, cmp_ne, cmp_in, cmp_ni, bin_no, tru_no, lenR_no, Option.elim_some, gE, mk_l, mb_append, w_mb (h := mb_append), tyOk_l, if_true, app_l _ _ _ _ (show (d.when.map D.str).length < 1000000 by rw [List.length_map]; omega), Option.map_some]
    generalize R6 ++ [Cell.lst (d.when.map D.str ++ [.str ""])] = R7
    unfold B_law_v88_8
    have e8 : (c5 :: (R7 ++ [.lst (d.steps.map Stp.d)]))[R7.length + 1]? = some (.lst (d.steps.map Stp.d)) := by rw [gS, gE]
    simp only [w_asO, w_ok, w_bind, w_up, w_upU, w_V0, w_VS, w_C, w_O1, w_O2, w_OA, w_OU, w_ix, w_call, w_nil, w_cons, w_dnil, w_dcons, w_tup, w_lst, w_lstM, w_dct0, w_if, w_and, w_or, w_not, w_tAnd, w_tOr, w_tNot, w_tB, w_tTru, w_chain, w_goN, w_goS, w_sl, w_attr, w_meth, uBl_b, uInt_i, s_nil, s_seq, s_drop, s_ret, s_retN, s_if, s_asg, s_par2, s_par3, s_asgT, s_break, s_cont, t_name, t_sub, t_attr, t_tup, t_nil, t_cons, set0, setS, s_for, w_giE, w_gir1, w_gir2, w_gizip, w_gienum, w_lc, Option.bind_some, Option.map_some, mkU_f, mkU_i, mkU_b, mkU_s, mkU_t, mkU_n, w_OR, w_cmp, w_bin, w_truO, w_jn, w_js, w_spl, t_star, strU_s, m_steps hC.t hC.m, mkU_l, len_c, app_c, mth_at e8, mb_clear, w_mb (h := mb_clear), ty_at e8, if_true, clear_at e8, Option.map_some, stS, stE]
    generalize R7 ++ [Cell.lst []] = R8
    unfold B_law_v88_7
    simp only [w_asO, w_ok, w_bind, w_up, w_upU, w_V0, w_VS, w_C, w_O1, w_O2, w_OA, w_OU, w_ix, w_call, w_nil, w_cons, w_dnil, w_dcons, w_tup, w_lst, w_lstM, w_dct0, w_if, w_and, w_or, w_not, w_tAnd, w_tOr, w_tNot, w_tB, w_tTru, w_chain, w_goN, w_goS, w_sl, w_attr, w_meth, uBl_b, uInt_i, s_nil, s_seq, s_drop, s_ret, s_retN, s_if, s_asg, s_par2, s_par3, s_asgT, s_break, s_cont, t_name, t_sub, t_attr, t_tup, t_nil, t_cons, set0, setS, s_for, w_giE, w_gir1, w_gir2, w_gizip, w_gienum, w_lc, Option.bind_some, Option.map_some, mkU_f, mkU_i, mkU_b, mkU_s, mkU_t, mkU_n, w_OR, w_cmp, w_bin, w_truO, w_jn, w_js, w_spl, t_star, strU_s, m_words hC.t hC.m d hok, mkU_l, len_c, app_c, mk_ref, vw_d, vw_ref, fr_d, fr_ref, f1_d, f2_d, f1_u, f2_u, fA_1, fA_u, vws_nil, vws_cons, ixU_d, ixU_ref, cIx_l, cV_l, g0, gS, st0, stS, ix_l, ix_t, add_ii, sub_ii, eq_ii, cmp_ii, int_i, len_l, len_t, len_s, noI_d, noI_r, ni_int, ni_str, ni_bl, ni_non, ni_tup, ni_lst, nc_lst, nc_lsu, cmp_eq, cmp_ne, cmp_in, cmp_ni, bin_no, tru_no, lenR_no, Option.elim_some, gE, mk_l, mb_append, w_mb (h := mb_append), tyOk_l, if_true, app_l _ _ _ _ (show (d.words.map D.str).length < 1000000 by rw [List.length_map]; have := words_len d hok; omega), Option.map_some]
    generalize R8 ++ [Cell.lst (d.words.map D.str ++ [.str ""])] = R9
    unfold B_law_v88_6
    simp only [w_asO, w_ok, w_bind, w_up, w_upU, w_V0, w_VS, w_C, w_O1, w_O2, w_OA, w_OU, w_ix, w_call, w_nil, w_cons, w_dnil, w_dcons, w_tup, w_lst, w_lstM, w_dct0, w_if, w_and, w_or, w_not, w_tAnd, w_tOr, w_tNot, w_tB, w_tTru, w_chain, w_goN, w_goS, w_sl, w_attr, w_meth, uBl_b, uInt_i, s_nil, s_seq, s_drop, s_ret, s_retN, s_if, s_asg, s_par2, s_par3, s_asgT, s_break, s_cont, t_name, t_sub, t_attr, t_tup, t_nil, t_cons, set0, setS, s_for, w_giE, w_gir1, w_gir2, w_gizip, w_gienum, w_lc, Option.bind_some, Option.map_some, mkU_f, mkU_i, mkU_b, mkU_s, mkU_t, mkU_n, w_OR, w_cmp, w_bin, w_truO, w_jn, w_js, w_spl, t_star, strU_s, vw_d, vw_ref, fr_d, fr_ref, f1_d, f2_d, f1_u, f2_u, fA_1, fA_u, vws_nil, vws_cons, ixU_d, ixU_ref, cIx_l, cV_l, g0, gS, st0, stS, ix_l, ix_t, add_ii, sub_ii, eq_ii, cmp_ii, int_i, len_l, len_t, len_s, noI_d, noI_r, ni_int, ni_str, ni_bl, ni_non, ni_tup, ni_lst, nc_lst, nc_lsu, cmp_eq, cmp_ne, cmp_in, cmp_ni, bin_no, tru_no, lenR_no, Option.elim_some, hso _ d false hok, tru_bl, Bool.not_true, Bool.false_eq_true, if_false]
    unfold B_law_v88_5
    try simp only [w_asO, w_ok, w_bind, w_up, w_upU, w_V0, w_VS, w_C, w_O1, w_O2, w_OA, w_OU, w_ix, w_call, w_nil, w_cons, w_dnil, w_dcons, w_tup, w_lst, w_lstM, w_dct0, w_if, w_and, w_or, w_not, w_tAnd, w_tOr, w_tNot, w_tB, w_tTru, w_chain, w_goN, w_goS, w_sl, w_attr, w_meth, uBl_b, uInt_i, s_nil, s_seq, s_drop, s_ret, s_retN, s_if, s_asg, s_par2, s_par3, s_asgT, s_break, s_cont, t_name, t_sub, t_attr, t_tup, t_nil, t_cons, set0, setS, s_for, w_giE, w_gir1, w_gir2, w_gizip, w_gienum, w_lc, Option.bind_some, Option.map_some, mkU_f, mkU_i, mkU_b, mkU_s, mkU_t, mkU_n, w_OR, w_cmp, w_bin, w_truO, w_jn, w_js, w_spl, t_star, strU_s, vw_d, vw_ref, fr_d, fr_ref, f1_d, f2_d, f1_u, f2_u, fA_1, fA_u, vws_nil, vws_cons, ixU_d, ixU_ref, cIx_l, cV_l, g0, gS, st0, stS, ix_l, ix_t, add_ii, sub_ii, eq_ii, cmp_ii, int_i, len_l, len_t, len_s, noI_d, noI_r, ni_int, ni_str, ni_bl, ni_non, ni_tup, ni_lst, nc_lst, nc_lsu, cmp_eq, cmp_ne, cmp_in, cmp_ni, bin_no, tru_no, lenR_no, Option.elim_some]
    refine (hld _ c5 R9 false xs 5 hc5 (by show _ < (1000000000000 : Int); (try simp only [List.length_cons, List.length_nil, List.length_map]); omega) (by omega) hx (by decide)).use ?_
    rintro y c6 hc6 ⟨f, rfl, hokf, _⟩
    try simp only [w_asO, w_ok, w_bind, w_up, w_upU, w_V0, w_VS, w_C, w_O1, w_O2, w_OA, w_OU, w_ix, w_call, w_nil, w_cons, w_dnil, w_dcons, w_tup, w_lst, w_lstM, w_dct0, w_if, w_and, w_or, w_not, w_tAnd, w_tOr, w_tNot, w_tB, w_tTru, w_chain, w_goN, w_goS, w_sl, w_attr, w_meth, uBl_b, uInt_i, s_nil, s_seq, s_drop, s_ret, s_retN, s_if, s_asg, s_par2, s_par3, s_asgT, s_break, s_cont, t_name, t_sub, t_attr, t_tup, t_nil, t_cons, set0, setS, s_for, w_giE, w_gir1, w_gir2, w_gizip, w_gienum, w_lc, Option.bind_some, Option.map_some, mkU_f, mkU_i, mkU_b, mkU_s, mkU_t, mkU_n, w_OR, w_cmp, w_bin, w_truO, w_jn, w_js, w_spl, t_star, strU_s, vw_d, vw_ref, fr_d, fr_ref, f1_d, f2_d, f1_u, f2_u, fA_1, fA_u, vws_nil, vws_cons, ixU_d, ixU_ref, cIx_l, cV_l, g0, gS, st0, stS, ix_l, ix_t, add_ii, sub_ii, eq_ii, cmp_ii, int_i, len_l, len_t, len_s, noI_d, noI_r, ni_int, ni_str, ni_bl, ni_non, ni_tup, ni_lst, nc_lst, nc_lsu, cmp_eq, cmp_ne, cmp_in, cmp_ni, bin_no, tru_no, lenR_no, Option.elim_some]
    unfold B_law_v88_4
    simp only [w_asO, w_ok, w_bind, w_up, w_upU, w_V0, w_VS, w_C, w_O1, w_O2, w_OA, w_OU, w_ix, w_call, w_nil, w_cons, w_dnil, w_dcons, w_tup, w_lst, w_lstM, w_dct0, w_if, w_and, w_or, w_not, w_tAnd, w_tOr, w_tNot, w_tB, w_tTru, w_chain, w_goN, w_goS, w_sl, w_attr, w_meth, uBl_b, uInt_i, s_nil, s_seq, s_drop, s_ret, s_retN, s_if, s_asg, s_par2, s_par3, s_asgT, s_break, s_cont, t_name, t_sub, t_attr, t_tup, t_nil, t_cons, set0, setS, s_for, w_giE, w_gir1, w_gir2, w_gizip, w_gienum, w_lc, Option.bind_some, Option.map_some, mkU_f, mkU_i, mkU_b, mkU_s, mkU_t, mkU_n, w_OR, w_cmp, w_bin, w_truO, w_jn, w_js, w_spl, t_star, strU_s, vw_d, vw_ref, fr_d, fr_ref, f1_d, f2_d, f1_u, f2_u, fA_1, fA_u, vws_nil, vws_cons, ixU_d, ixU_ref, cIx_l, cV_l, g0, gS, st0, stS, ix_l, ix_t, add_ii, sub_ii, eq_ii, cmp_ii, int_i, len_l, len_t, len_s, noI_d, noI_r, ni_int, ni_str, ni_bl, ni_non, ni_tup, ni_lst, nc_lst, nc_lsu, cmp_eq, cmp_ne, cmp_in, cmp_ni, bin_no, tru_no, lenR_no, Option.elim_some, hdm _ f false hokf]
    unfold B_law_v88_3
    simp only [w_asO, w_ok, w_bind, w_up, w_upU, w_V0, w_VS, w_C, w_O1, w_O2, w_OA, w_OU, w_ix, w_call, w_nil, w_cons, w_dnil, w_dcons, w_tup, w_lst, w_lstM, w_dct0, w_if, w_and, w_or, w_not, w_tAnd, w_tOr, w_tNot, w_tB, w_tTru, w_chain, w_goN, w_goS, w_sl, w_attr, w_meth, uBl_b, uInt_i, s_nil, s_seq, s_drop, s_ret, s_retN, s_if, s_asg, s_par2, s_par3, s_asgT, s_break, s_cont, t_name, t_sub, t_attr, t_tup, t_nil, t_cons, set0, setS, s_for, w_giE, w_gir1, w_gir2, w_gizip, w_gienum, w_lc, Option.bind_some, Option.map_some, mkU_f, mkU_i, mkU_b, mkU_s, mkU_t, mkU_n, w_OR, w_cmp, w_bin, w_truO, w_jn, w_js, w_spl, t_star, strU_s, vw_d, vw_ref, fr_d, fr_ref, f1_d, f2_d, f1_u, f2_u, fA_1, fA_u, vws_nil, vws_cons, ixU_d, ixU_ref, cIx_l, cV_l, g0, gS, st0, stS, ix_l, ix_t, add_ii, sub_ii, eq_ii, cmp_ii, int_i, len_l, len_t, len_s, noI_d, noI_r, ni_int, ni_str, ni_bl, ni_non, ni_tup, ni_lst, nc_lst, nc_lsu, cmp_eq, cmp_ne, cmp_in, cmp_ni, bin_no, tru_no, lenR_no, Option.elim_some, hdm _ d false hok, c_eq hC, c_ne hC, c_law hC]
    unfold B_law_v88_2
    simp only [w_asO, w_ok, w_bind, w_up, w_upU, w_V0, w_VS, w_C, w_O1, w_O2, w_OA, w_OU, w_ix, w_call, w_nil, w_cons, w_dnil, w_dcons, w_tup, w_lst, w_lstM, w_dct0, w_if, w_and, w_or, w_not, w_tAnd, w_tOr, w_tNot, w_tB, w_tTru, w_chain, w_goN, w_goS, w_sl, w_attr, w_meth, uBl_b, uInt_i, s_nil, s_seq, s_drop, s_ret, s_retN, s_if, s_asg, s_par2, s_par3, s_asgT, s_break, s_cont, t_name, t_sub, t_attr, t_tup, t_nil, t_cons, set0, setS, s_for, w_giE, w_gir1, w_gir2, w_gizip, w_gienum, w_lc, Option.bind_some, Option.map_some, mkU_f, mkU_i, mkU_b, mkU_s, mkU_t, mkU_n, w_OR, w_cmp, w_bin, w_truO, w_jn, w_js, w_spl, t_star, strU_s, l_eq, l_ne, vw_d, vw_ref, fr_d, fr_ref, f1_d, f2_d, f1_u, f2_u, fA_1, fA_u, vws_nil, vws_cons, ixU_d, ixU_ref, cIx_l, cV_l, g0, gS, st0, stS, ix_l, ix_t, add_ii, sub_ii, eq_ii, cmp_ii, int_i, len_l, len_t, len_s, noI_d, noI_r, ni_int, ni_str, ni_bl, ni_non, ni_tup, ni_lst, nc_lst, nc_lsu, cmp_eq, cmp_ne, cmp_in, cmp_ni, bin_no, tru_no, lenR_no, Option.elim_some, eq_self, decide_true, hsm false (.lst [.bl true, .bl (decide (d = f)), .bl false, .bl (!decide (d = f))]) _ rfl, tru_bl, Bool.not_true, Bool.false_eq_true, if_false]
    exact hE _ _ _ _ _ _ _ _ _ _ c6 _ (hc6.mono (by rw [List.length_map]; omega))
def dIdle : Dd := ⟨[], [], "none"⟩
theorem idle_ok : dIdle.ok := ⟨⟨Nat.zero_le _, List.nodup_nil, fun x hx => absurd hx List.not_mem_nil⟩, rfl, Nat.zero_le _, fun x hx => absurd hx List.not_mem_nil, List.mem_cons_self⟩
theorem new_idle {C : Cs} (hi : InitOk C) (S : Store) : mkIns false "Deed" (C "Deed.__init__" false []) [.d (.lst [])] [] S = .ok (.d dIdle.own) S := new_deed (ds := []) (xs := []) hi (.inr ⟨rfl, rfl, rfl⟩) (.inl rfl) (.refl _) idle_ok (fun x hx => absurd hx List.not_mem_nil) rfl
def IdleOk (C : Cs) : Prop := ∀ (mu : Bool) (S : Store), C "Deed.idle" mu [] [] [] S = .ok (.d dIdle.own) S
theorem idle_B {T : Tab} (hi : InitOk T.call) (mu : Bool) (S : Store) : cutR mu S (endR (B_Deed_idle T mu [] S)) = .ok (.d dIdle.own) S := by
  refine cut_val ?_
  rw [w_end]
  unfold B_Deed_idle
  simp only [w_asO, w_ok, w_bind, w_up, w_upU, w_V0, w_VS, w_C, w_O1, w_O2, w_OA, w_OU, w_ix, w_call, w_nil, w_cons, w_dnil, w_dcons, w_tup, w_lst, w_lstM, w_dct0, w_if, w_and, w_or, w_not, w_tAnd, w_tOr, w_tNot, w_tB, w_tTru, w_chain, w_goN, w_goS, w_sl, w_attr, w_meth, uBl_b, uInt_i, s_nil, s_seq, s_drop, s_ret, s_retN, s_if, s_asg, s_par2, s_par3, s_asgT, s_break, s_cont, t_name, t_sub, t_attr, t_tup, t_nil, t_cons, set0, setS, s_for, w_giE, w_gir1, w_gir2, w_gizip, w_gienum, w_lc, Option.bind_some, Option.map_some, mkU_f, mkU_i, mkU_b, mkU_s, mkU_t, mkU_n, w_OR, w_cmp, w_bin, w_truO, w_jn, w_js, w_spl, t_star, strU_s, new_idle hi]
  exact ⟨trivial, [], by simp⟩
theorem law2_B {T : Tab} (hC : DeedC T) (hmost : T.ccon "Deed" "MOST" = some (.int 5)) (hid : IdleOk T.call) (hsrc : SourceOk T.call) (hd : DrawOk T.call) (hnm : NamesOk T.call) (hld : LawDeedOk T.call) (hmt : MixedTOk T.call) (hmx : MixedOk T.call) (hdc : DeedCallOk T.call) (hdm : DeedMadeOk T.call) (hso : DeedSoOk T.call) (hsm : SameOk 4 T.call) (ns : List Int) :
    (endR (B_law_v88 T false [some (.d (.fl (ns.map D.int))), none, none, none, none, none, none, none, none, none, none, none, none] [])).sat noX fun u _ => u = .d (.bl true) := by
  rw [w_end]
  unfold B_law_v88
  obtain ⟨c0, e0, hc0⟩ := hsrc ns
  simp only [w_asO, w_ok, w_bind, w_up, w_upU, w_V0, w_VS, w_C, w_O1, w_O2, w_OA, w_OU, w_ix, w_call, w_nil, w_cons, w_dnil, w_dcons, w_tup, w_lst, w_lstM, w_dct0, w_if, w_and, w_or, w_not, w_tAnd, w_tOr, w_tNot, w_tB, w_tTru, w_chain, w_goN, w_goS, w_sl, w_attr, w_meth, uBl_b, uInt_i, s_nil, s_seq, s_drop, s_ret, s_retN, s_if, s_asg, s_par2, s_par3, s_asgT, s_break, s_cont, t_name, t_sub, t_attr, t_tup, t_nil, t_cons, set0, setS, s_for, w_giE, w_gir1, w_gir2, w_gizip, w_gienum, w_lc, Option.bind_some, Option.map_some, mkU_f, mkU_i, mkU_b, mkU_s, mkU_t, mkU_n, w_OR, w_cmp, w_bin, w_truO, w_jn, w_js, w_spl, t_star, strU_s, e0]
  unfold B_law_v88_19
  have rg : rangeOf1 [U.d (.int 4)] = some (srcRange 0 4) := rfl
  simp only [w_asO, w_ok, w_bind, w_up, w_upU, w_V0, w_VS, w_C, w_O1, w_O2, w_OA, w_OU, w_ix, w_call, w_nil, w_cons, w_dnil, w_dcons, w_tup, w_lst, w_lstM, w_dct0, w_if, w_and, w_or, w_not, w_tAnd, w_tOr, w_tNot, w_tB, w_tTru, w_chain, w_goN, w_goS, w_sl, w_attr, w_meth, uBl_b, uInt_i, s_nil, s_seq, s_drop, s_ret, s_retN, s_if, s_asg, s_par2, s_par3, s_asgT, s_break, s_cont, t_name, t_sub, t_attr, t_tup, t_nil, t_cons, set0, setS, s_for, w_giE, w_gir1, w_gir2, w_gizip, w_gienum, w_lc, Option.bind_some, Option.map_some, mkU_f, mkU_i, mkU_b, mkU_s, mkU_t, mkU_n, w_OR, w_cmp, w_bin, w_truO, w_jn, w_js, w_spl, t_star, strU_s, rg]
  refine for_range (by decide) (fun i ρ S => ∃ (o2 o3 o4 o5 o6 o7 o8 o9 o10 o11 o12 : Option U) (c : Cell) (R : Store), ρ = [some (.d (.fl (ns.map D.int))), some (.ref 0), o2, o3, o4, o5, o6, o7, o8, o9, o10, o11, o12] ∧ S = c :: R ∧ SrcC (1000 * i) c) ⟨none, none, none, none, none, none, none, none, none, none, none, c0, [], rfl, rfl, by simpa using hc0⟩ ?_ ?_
  · rintro i ρ S hi ⟨o2, o3, o4, o5, o6, o7, o8, o9, o10, o11, o12, c, R, rfl, rfl, hc⟩
    rw [t_name, w_asO]
    exact turn2_B hC hd hnm hld hmt hmx hdc hdm hso hsm (1000 * i) c R _ _ _ _ _ _ _ _ _ _ _ _ _ hc (by omega) fun o3 o4 o5 o6 o7 o8 o9 o10 o11 o12 c' R' hc' => ⟨_, o3, o4, o5, o6, o7, o8, o9, o10, o11, o12, c', R', rfl, rfl, hc'.mono (by omega)⟩
  · rintro ρ S ⟨o2, o3, o4, o5, o6, o7, o8, o9, o10, o11, o12, c, R, rfl, rfl, hc⟩
    unfold B_law_v88_1
    have a1 : ∀ (S : Store) (X : XQ) (Q : U → Store → Prop), (attrR T "MOST" (.d (.gl "Deed")) S).sat X Q = Q (.d (.int 5)) S := fun S X Q => attr_con hmost
    have q1 : dIdle.quiet = true := by decide
    have q2 : dIdle.steps.map Stp.d = [] := rfl
    have q3 : dIdle.ask = "none" := rfl
    simp only [w_asO, w_ok, w_bind, w_up, w_upU, w_V0, w_VS, w_C, w_O1, w_O2, w_OA, w_OU, w_ix, w_call, w_nil, w_cons, w_dnil, w_dcons, w_tup, w_lst, w_lstM, w_dct0, w_if, w_and, w_or, w_not, w_tAnd, w_tOr, w_tNot, w_tB, w_tTru, w_chain, w_goN, w_goS, w_sl, w_attr, w_meth, uBl_b, uInt_i, s_nil, s_seq, s_drop, s_ret, s_retN, s_if, s_asg, s_par2, s_par3, s_asgT, s_break, s_cont, t_name, t_sub, t_attr, t_tup, t_nil, t_cons, set0, setS, s_for, w_giE, w_gir1, w_gir2, w_gizip, w_gienum, w_lc, Option.bind_some, Option.map_some, mkU_f, mkU_i, mkU_b, mkU_s, mkU_t, mkU_n, w_OR, w_cmp, w_bin, w_truO, w_jn, w_js, w_spl, t_star, strU_s, a1, hid false, new_idle hC.i, c_eq hC, m_ask hC.t hC.m, m_quiet hC.t hC.m, m_steps hC.t hC.m, vw_d, vw_ref, fr_d, fr_ref, f1_d, f2_d, f1_u, f2_u, fA_1, fA_u, vws_nil, vws_cons, ixU_d, ixU_ref, cIx_l, cV_l, g0, gS, st0, stS, ix_l, ix_t, add_ii, sub_ii, eq_ii, cmp_ii, int_i, len_l, len_t, len_s, noI_d, noI_r, ni_int, ni_str, ni_bl, ni_non, ni_tup, ni_lst, nc_lst, nc_lsu, cmp_eq, cmp_ne, cmp_in, cmp_ni, bin_no, tru_no, lenR_no, Option.elim_some, q1, q2, q3, eq_self, decide_true, hsm false (.lst [.int 5, .bl true, .str "none", .bl true, .lst []]) _ rfl]
end
end Dv
namespace Lk02
open PySem PySem.Spec PyProof.Rows L2 Dv
theorem kit_ok (k : Nat) : KitB (TK k).kit := ⟨by
  intro t ht n hn
  simp only [tysA, asksA, List.mem_cons, List.not_mem_nil, or_false] at ht hn
  rcases ht with rfl | rfl | rfl | rfl | rfl | rfl | rfl <;> rcases hn with rfl | rfl | rfl | rfl | rfl | rfl <;> rfl⟩
theorem deed_tab (k : Nat) : DeedTab (TK k) where
  when := rfl
  steps := rfl
  words := rfl
  len := rfl
  eq := rfl
  repr := rfl
  ask := rfl
  takes := rfl
  quiet := rfl
  p1 := rfl
  p2 := rfl
  p3 := rfl
  f1 := rfl
  f2 := rfl
  f3 := rfl
  kd := rfl
  kb := by
    intro t ht
    simp only [tysA, List.mem_cons, List.not_mem_nil, or_false] at ht
    rcases ht with rfl | rfl | rfl | rfl | rfl | rfl | rfl <;> rfl
theorem a_draw (k : Nat) : DrawOk (CC (k + 1)) := by intros M m c R mu _ _ _ _; rw [ck__law_draw]; apply draw_cut <;> assumption
theorem a_of (k : Nat) : OfOk (CC (k + 2)) := by intros M c R mu x ds _ _ _ _ _; rw [ck__law_of]; apply of_B (T := TK (k + 1)) (a_draw k) <;> assumption
theorem a_some (k : Nat) : SomeOk (CC (k + 2)) := by intros M c R x ds _ _ _ _; rw [ck__law_some]; apply some_B (T := TK (k + 1)) (a_draw k) <;> assumption
theorem a_mixed (k : Nat) : MixedOk (CC (k + 2)) := by intros M c R x ds _ _ _ _; rw [ck__law_mixed]; apply mixed_B (T := TK (k + 1)) (a_draw k) <;> assumption
theorem a_mixedT (k : Nat) : MixedTOk (CC (k + 2)) := by intros M c R x ds _ _ _ _; rw [ck__law_mixed]; apply mixedT_B (T := TK (k + 1)) (a_draw k) <;> assumption
theorem a_word (k : Nat) : WordOk (CC (k + 2)) := by intros M c R _ _; rw [ck__law_word]; apply word_B (T := TK (k + 1)) (a_draw k) <;> assumption
theorem a_names (k : Nat) : NamesOk (CC (k + 3)) := by intros M c R n _ _ _ _; rw [ck__law_names]; apply names_B (T := TK (k + 2)) (a_word k) <;> assumption
theorem a_stepT (k : Nat) : StepTOk (CC (k + 3)) := by intros M c R mu xs _ _ _ _; rw [ck__law_step]; apply law_stepT_B (T := TK (k + 2)) (a_draw (k + 1)) (a_of k) (a_some k) <;> assumption
theorem a_law_deed (k : Nat) : LawDeedOk (CC (k + 4)) := by intros M c R mu xs n _ _ _ _ _; rw [ck__law_deed]; apply law_deed_B (T := TK (k + 3)) (a_draw (k + 2)) (a_of (k + 1)) (a_stepT k) <;> assumption
theorem a_is_name (k : Nat) : IsNameOk (CC (k + 1)) := by intros mu d S _; rw [ck_is_name]; apply is_name_B (T := TK k) (kit_ok k) <;> assumption
theorem a_is_listed (k : Nat) : IsListedOk (CC (k + 1)) := by intros mu d S _; rw [ck_is_listed]; apply is_listed_B (T := TK k) (kit_ok k) <;> assumption
theorem a_are_words (k : Nat) : AreWordsOk (CC (k + 2)) := by intros mu d S _ _ _; rw [ck_are_words]; apply are_words_B (T := TK (k + 1)) (kit_ok _) (a_is_listed k) (a_is_name k) <;> assumption
theorem a_step_of (k : Nat) : StepOfOk (CC (k + 3)) := by intros mu d S _ _ _; rw [ck_step_of]; apply step_of_B (T := TK (k + 2)) (kit_ok _) (a_is_name (k + 1)) (a_are_words k) <;> assumption
theorem a_need (k : Nat) : NeedOk (CC (k + 2)) := by intros u xs S _ _; rw [ck_need_words]; apply need_B (T := TK (k + 1)) (a_is_name k) <;> assumption
theorem ck_init (k : Nat) (ks : List Str) (ws : List U) (ua u0 u1 : U) (ds : List D) (S : Store) (hk : koU (some ("ask", .str "none")) ks ws = some [ua]) (hl : ds.length ≤ 500) : CC (k + 1) "Deed.__init__" false ks (u0 :: u1 :: ds.map U.d) ws S = cutR false S (endR (B_Deed___init__ (TK k) false [some u0, some u1, some ua, some (.d (.tup ds)), none, none, none] S)) := by
  have h := ck_va (T := T0) (gk := fun x => gkL.lookup x) (muA := muA) (tab := tabF fnL) (k := k) (q := "Deed.__init__") (v := "steps") (mu := false) (ks := ks) (d := d_Deed___init__) (us := [u0, u1]) (ws := ws) (kv := [ua]) (ds := ds) (S := S) rfl hk rfl rfl (by simp; omega)
  refine Eq.trans h ?_
  kernel_rfl
theorem a_init (k : Nat) : InitOk (CC (k + 4)) := by
  intro S u xs ds d ks ws hk hu hp hd hg hs
  have hl : ds.length ≤ 5 := by have := congrArg List.length hs; simp at this; have := hd.le; omega
  rw [ck_init (k + 3) ks ws (.d (.str d.ask)) (.ref S.length) u ds _ (by rcases hk with ⟨rfl, rfl⟩ | ⟨rfl, rfl, e⟩
                                                                         · rfl
                                                                         · rw [e]; rfl) (by omega)]
  exact init_B (T := TK (k + 3)) (deed_tab _) (kit_ok _) (a_need (k + 1)) (a_step_of k) S u xs ds d hu hp hd hg hs
theorem a_deedM (k : Nat) : DeedM (CC (k + 1)) where
  when d mu S := by rw [ck_Deed_when]; exact when_B (deed_tab k) d mu S
  steps d mu S := by rw [ck_Deed_steps]; exact steps_B (deed_tab k) d mu S
  words d hd mu S := by rw [ck_Deed_words]; exact words_B (deed_tab k) d hd mu S
  ask d mu S := by rw [ck_Deed_ask]; exact ask_B (deed_tab k) d mu S
  takes d mu S := by rw [ck_Deed_takes]; exact takes_B (deed_tab k) d mu S
  quiet d mu S := by rw [ck_Deed_quiet]; exact quiet_B (deed_tab k) d mu S
  len d mu S := by rw [ck_Deed___len__]; exact len_B (deed_tab k) d mu S
  repr d hd mu S := by rw [ck_Deed___repr__]; exact repr_B (deed_tab k) d hd mu S
  eq d e mu S := by rw [ck_Deed___eq__]; exact eq_B (deed_tab k) d e mu S
  eqn d y mu S hy := by rw [ck_Deed___eq__]; exact eq_no_B (deed_tab k) d y hy mu S
theorem a_deedC (k : Nat) : DeedC (TK (k + 4)) := ⟨deed_tab _, a_deedM (k + 3), a_init k, rfl, rfl, rfl⟩
theorem a_call (k : Nat) : DeedCallOk (CC (k + 5)) := by intros S u v xs ds d mu _ _ _ _ _ _; rw [ck__law_deed_call]; apply deed_call_B (T := TK (k + 4)) (a_init k) <;> assumption
theorem a_made (k : Nat) : DeedMadeOk (CC (k + 6)) := by intros S d mu _; rw [ck__law_deed_made]; apply deed_made_B (T := TK (k + 5)) (a_call k); assumption
theorem a_words_of (k : Nat) : WordsOfOk (CC (k + 1)) := by intros S d mu hd; rw [ck__law_words_of]; exact words_of_B d hd mu S
theorem a_same : ∀ n k : Nat, SameOk n (CC (k + n + 1))
  | 0, k => by intros mu x S h; rw [ck__law_same]; exact same_B (T := TK k) (kit_ok k) (fun n e => by cases e) mu x S h
  | n + 1, k => by
    intros mu x S h
    rw [ck__law_same]
    exact same_B (T := TK (k + (n + 1))) (kit_ok _) (fun m e => by cases e; exact a_same n k) mu x S h
theorem a_so (k : Nat) : DeedSoOk (CC (k + 6)) := by intros S d mu hd; rw [ck__law_deed_so_v2]; exact deed_so_B (T := TK (k + 5)) (deed_tab _) (a_deedM (k + 4)) (a_words_of (k + 4)) (a_same 4 k) d hd
theorem a_idle (k : Nat) : IdleOk (CC (k + 5)) := by intros mu S; rw [ck_Deed_idle]; exact idle_B (T := TK (k + 4)) (a_init k) mu S
theorem a_source (k : Nat) : SourceOk (CC (k + 1)) := fun ns => by rw [ck__law_source]; exact source_ok ns (TK k)
theorem pure_law (ns : List Int) (h : ns.length ≤ 63) : isTru (CK T0 (fun x => gkL.lookup x) muA (tabF fnL) (60 + 1) "law" false [] [.d (.fl (ns.map D.int))] [] []) := by
  have e := ck_law_v88 60 false (.d (.fl (ns.map D.int))) []
  have hl := law2_B (T := TK 60) (a_deedC 56) rfl (a_idle 55) (a_source 59) (a_draw 59) (a_names 57) (a_law_deed 56) (a_mixedT 58) (a_mixed 58) (a_call 55) (a_made 54) (a_so 54) (a_same 4 55) ns
  obtain ⟨u, S', e2, rfl⟩ := hl.ex
  show isTru (CC (60 + 1) "law" false [] [.d (.fl (ns.map D.int))] [] [])
  rw [e, e2, cut_d ⟨Nat.zero_le _, fun j c h _ => by simp at h⟩]
  trivial
end Lk02
set_option maxRecDepth 100000
set_option maxHeartbeats 0
namespace Lk02
open PySem PySem.Spec PyProof.Rows L2 Dv
theorem ok__wall : StatOk "_wall" d__wall := ⟨⟨rfl, rfl, rfl, by decide +kernel, by rfl, by decide +kernel, by decide +kernel⟩, bindF_plain rfl rfl fun _ _ _ _ _ _ us hl => match us, hl with | [_], _ => by kernel_rfl⟩
theorem ok_is_name : StatOk "is_name" d_is_name := ⟨⟨rfl, rfl, rfl, by decide +kernel, by rfl, by decide +kernel, by decide +kernel⟩, bindF_plain rfl rfl fun _ _ _ _ _ _ us hl => match us, hl with | [_], _ => by kernel_rfl⟩
theorem ok_is_listed : StatOk "is_listed" d_is_listed := ⟨⟨rfl, rfl, rfl, by decide +kernel, by rfl, by decide +kernel, by decide +kernel⟩, bindF_plain rfl rfl fun _ _ _ _ _ _ us hl => match us, hl with | [_], _ => by kernel_rfl⟩
theorem ok_need_words : StatOk "need_words" d_need_words := ⟨⟨rfl, rfl, rfl, by decide +kernel, by rfl, by decide +kernel, by decide +kernel⟩, bindF_plain rfl rfl fun _ _ _ _ _ _ us hl => match us, hl with | [_], _ => by kernel_rfl⟩
theorem ok_are_words : StatOk "are_words" d_are_words := ⟨⟨rfl, rfl, rfl, by decide +kernel, by rfl, by decide +kernel, by decide +kernel⟩, bindF_plain rfl rfl fun _ _ _ _ _ _ us hl => match us, hl with | [_], _ => by kernel_rfl⟩
theorem ok_step_of : StatOk "step_of" d_step_of := ⟨⟨rfl, rfl, rfl, by decide +kernel, by rfl, by decide +kernel, by decide +kernel⟩, bindF_plain rfl rfl fun _ _ _ _ _ _ us hl => match us, hl with | [_], _ => by kernel_rfl⟩
theorem ok_Deed___init__ : StatOk "Deed.__init__" d_Deed___init__ := ⟨⟨rfl, rfl, rfl, by decide +kernel, by rfl, by decide +kernel, by decide +kernel⟩, bindF_both rfl rfl (fun _ _ _ _ _ _ _ us hl => match us, hl with | [_, _], _ => ⟨_, _, _, _, _, _, rfl, rfl, rfl⟩) (fun _ _ _ _ _ _ _ us r rs hl => match us, hl with | [_, _], _ => ⟨_, _, _, _, _, _, rfl, rfl, rfl⟩) (fun _ _ _ _ _ _ _ us hl => match us, hl with | [_, _], _ => by kernel_rfl) (fun _ _ _ _ _ _ _ us r rs hl => match us, hl with | [_, _], _ => by kernel_rfl)⟩
theorem ok_Deed_idle : StatOk "Deed.idle" d_Deed_idle := ⟨⟨rfl, rfl, rfl, by decide +kernel, by rfl, by decide +kernel, by decide +kernel⟩, bindF_plain rfl rfl fun _ _ _ _ _ _ us hl => match us, hl with | [], _ => by kernel_rfl⟩
theorem ok_Deed_ask : StatOk "Deed.ask" d_Deed_ask := ⟨⟨rfl, rfl, rfl, by decide +kernel, by rfl, by decide +kernel, by decide +kernel⟩, bindF_plain rfl rfl fun _ _ _ _ _ _ us hl => match us, hl with | [_], _ => by kernel_rfl⟩
theorem ok_Deed_takes : StatOk "Deed.takes" d_Deed_takes := ⟨⟨rfl, rfl, rfl, by decide +kernel, by rfl, by decide +kernel, by decide +kernel⟩, bindF_plain rfl rfl fun _ _ _ _ _ _ us hl => match us, hl with | [_], _ => by kernel_rfl⟩
theorem ok_Deed_quiet : StatOk "Deed.quiet" d_Deed_quiet := ⟨⟨rfl, rfl, rfl, by decide +kernel, by rfl, by decide +kernel, by decide +kernel⟩, bindF_plain rfl rfl fun _ _ _ _ _ _ us hl => match us, hl with | [_], _ => by kernel_rfl⟩
theorem ok_Deed_when : StatOk "Deed.when" d_Deed_when := ⟨⟨rfl, rfl, rfl, by decide +kernel, by rfl, by decide +kernel, by decide +kernel⟩, bindF_plain rfl rfl fun _ _ _ _ _ _ us hl => match us, hl with | [_], _ => by kernel_rfl⟩
theorem ok_Deed_steps : StatOk "Deed.steps" d_Deed_steps := ⟨⟨rfl, rfl, rfl, by decide +kernel, by rfl, by decide +kernel, by decide +kernel⟩, bindF_plain rfl rfl fun _ _ _ _ _ _ us hl => match us, hl with | [_], _ => by kernel_rfl⟩
theorem ok_Deed_words : StatOk "Deed.words" d_Deed_words := ⟨⟨rfl, rfl, rfl, by decide +kernel, by rfl, by decide +kernel, by decide +kernel⟩, bindF_plain rfl rfl fun _ _ _ _ _ _ us hl => match us, hl with | [_], _ => by kernel_rfl⟩
theorem ok_Deed_with_ask : StatOk "Deed.with_ask" d_Deed_with_ask := ⟨⟨rfl, rfl, rfl, by decide +kernel, by rfl, by decide +kernel, by decide +kernel⟩, bindF_plain rfl rfl fun _ _ _ _ _ _ us hl => match us, hl with | [_, _], _ => by kernel_rfl⟩
theorem ok_Deed_without : StatOk "Deed.without" d_Deed_without := ⟨⟨rfl, rfl, rfl, by decide +kernel, by rfl, by decide +kernel, by decide +kernel⟩, bindF_plain rfl rfl fun _ _ _ _ _ _ us hl => match us, hl with | [_, _], _ => by kernel_rfl⟩
theorem ok_Deed___add__ : StatOk "Deed.__add__" d_Deed___add__ := ⟨⟨rfl, rfl, rfl, by decide +kernel, by rfl, by decide +kernel, by decide +kernel⟩, bindF_plain rfl rfl fun _ _ _ _ _ _ us hl => match us, hl with | [_, _], _ => by kernel_rfl⟩
theorem ok_Deed___len__ : StatOk "Deed.__len__" d_Deed___len__ := ⟨⟨rfl, rfl, rfl, by decide +kernel, by rfl, by decide +kernel, by decide +kernel⟩, bindF_plain rfl rfl fun _ _ _ _ _ _ us hl => match us, hl with | [_], _ => by kernel_rfl⟩
theorem ok_Deed___eq__ : StatOk "Deed.__eq__" d_Deed___eq__ := ⟨⟨rfl, rfl, rfl, by decide +kernel, by rfl, by decide +kernel, by decide +kernel⟩, bindF_plain rfl rfl fun _ _ _ _ _ _ us hl => match us, hl with | [_, _], _ => by kernel_rfl⟩
theorem ok_Deed___repr__ : StatOk "Deed.__repr__" d_Deed___repr__ := ⟨⟨rfl, rfl, rfl, by decide +kernel, by rfl, by decide +kernel, by decide +kernel⟩, bindF_plain rfl rfl fun _ _ _ _ _ _ us hl => match us, hl with | [_], _ => by kernel_rfl⟩
theorem ok__law_source : StatOk "_law_source" d__law_source := ⟨⟨rfl, rfl, rfl, by decide +kernel, by rfl, by decide +kernel, by decide +kernel⟩, bindF_plain rfl rfl fun _ _ _ _ _ _ us hl => match us, hl with | [_], _ => by kernel_rfl⟩
theorem ok__law_draw : StatOk "_law_draw" d__law_draw := ⟨⟨rfl, rfl, rfl, by decide +kernel, by rfl, by decide +kernel, by decide +kernel⟩, bindF_plain rfl rfl fun _ _ _ _ _ _ us hl => match us, hl with | [_, _], _ => by kernel_rfl⟩
theorem ok__law_of : StatOk "_law_of" d__law_of := ⟨⟨rfl, rfl, rfl, by decide +kernel, by rfl, by decide +kernel, by decide +kernel⟩, bindF_plain rfl rfl fun _ _ _ _ _ _ us hl => match us, hl with | [_, _], _ => by kernel_rfl⟩
theorem ok__law_some : StatOk "_law_some" d__law_some := ⟨⟨rfl, rfl, rfl, by decide +kernel, by rfl, by decide +kernel, by decide +kernel⟩, bindF_plain rfl rfl fun _ _ _ _ _ _ us hl => match us, hl with | [_, _], _ => by kernel_rfl⟩
theorem ok__law_mixed : StatOk "_law_mixed" d__law_mixed := ⟨⟨rfl, rfl, rfl, by decide +kernel, by rfl, by decide +kernel, by decide +kernel⟩, bindF_plain rfl rfl fun _ _ _ _ _ _ us hl => match us, hl with | [_, _], _ => by kernel_rfl⟩
theorem ok__law_word : StatOk "_law_word" d__law_word := ⟨⟨rfl, rfl, rfl, by decide +kernel, by rfl, by decide +kernel, by decide +kernel⟩, bindF_plain rfl rfl fun _ _ _ _ _ _ us hl => match us, hl with | [_], _ => by kernel_rfl⟩
theorem ok__law_names : StatOk "_law_names" d__law_names := ⟨⟨rfl, rfl, rfl, by decide +kernel, by rfl, by decide +kernel, by decide +kernel⟩, bindF_plain rfl rfl fun _ _ _ _ _ _ us hl => match us, hl with | [_, _], _ => by kernel_rfl⟩
theorem ok__law_same : StatOk "_law_same" d__law_same := ⟨⟨rfl, rfl, rfl, by decide +kernel, by rfl, by decide +kernel, by decide +kernel⟩, bindF_plain rfl rfl fun _ _ _ _ _ _ us hl => match us, hl with | [_, _], _ => by kernel_rfl⟩
theorem ok__law_step : StatOk "_law_step" d__law_step := ⟨⟨rfl, rfl, rfl, by decide +kernel, by rfl, by decide +kernel, by decide +kernel⟩, bindF_plain rfl rfl fun _ _ _ _ _ _ us hl => match us, hl with | [_, _], _ => by kernel_rfl⟩
theorem ok__law_deed : StatOk "_law_deed" d__law_deed := ⟨⟨rfl, rfl, rfl, by decide +kernel, by rfl, by decide +kernel, by decide +kernel⟩, bindF_plain rfl rfl fun _ _ _ _ _ _ us hl => match us, hl with | [_, _, _], _ => by kernel_rfl⟩
theorem ok__law_deed_call : StatOk "_law_deed_call" d__law_deed_call := ⟨⟨rfl, rfl, rfl, by decide +kernel, by rfl, by decide +kernel, by decide +kernel⟩, bindF_plain rfl rfl fun _ _ _ _ _ _ us hl => match us, hl with | [_, _, _], _ => by kernel_rfl⟩
theorem ok__law_deed_made : StatOk "_law_deed_made" d__law_deed_made := ⟨⟨rfl, rfl, rfl, by decide +kernel, by rfl, by decide +kernel, by decide +kernel⟩, bindF_plain rfl rfl fun _ _ _ _ _ _ us hl => match us, hl with | [_], _ => by kernel_rfl⟩
theorem ok__law_words_of : StatOk "_law_words_of" d__law_words_of := ⟨⟨rfl, rfl, rfl, by decide +kernel, by rfl, by decide +kernel, by decide +kernel⟩, bindF_plain rfl rfl fun _ _ _ _ _ _ us hl => match us, hl with | [_], _ => by kernel_rfl⟩
theorem ok__law_deed_so_v2 : StatOk "_law_deed_so" d__law_deed_so_v2 := ⟨⟨rfl, rfl, rfl, by decide +kernel, by rfl, by decide +kernel, by decide +kernel⟩, bindF_plain rfl rfl fun _ _ _ _ _ _ us hl => match us, hl with | [_, _], _ => by kernel_rfl⟩
theorem ok_law_v88 : StatOk "law" d_law_v88 := ⟨⟨rfl, rfl, rfl, by decide +kernel, by rfl, by decide +kernel, by decide +kernel⟩, bindF_plain rfl rfl fun _ _ _ _ _ _ us hl => match us, hl with | [_], _ => by kernel_rfl⟩
theorem ok_all : ∀ p ∈ fnL, StatOk p.1 p.2.2 := fun p hp => by
  simp only [fnL, List.cons_append, List.nil_append, List.mem_cons, List.not_mem_nil, or_false] at hp
  rcases hp with rfl | rfl | rfl | rfl | rfl | rfl | rfl | rfl | rfl | rfl | rfl | rfl | rfl | rfl | rfl | rfl | rfl | rfl | rfl | rfl | rfl | rfl | rfl | rfl | rfl | rfl | rfl | rfl | rfl | rfl | rfl | rfl | rfl | rfl | rfl
  · exact ok__wall
  · exact ok_is_name
  · exact ok_is_listed
  · exact ok_need_words
  · exact ok_are_words
  · exact ok_step_of
  · exact ok_Deed___init__
  · exact ok_Deed_idle
  · exact ok_Deed_ask
  · exact ok_Deed_takes
  · exact ok_Deed_quiet
  · exact ok_Deed_when
  · exact ok_Deed_steps
  · exact ok_Deed_words
  · exact ok_Deed_with_ask
  · exact ok_Deed_without
  · exact ok_Deed___add__
  · exact ok_Deed___len__
  · exact ok_Deed___eq__
  · exact ok_Deed___repr__
  · exact ok__law_source
  · exact ok__law_draw
  · exact ok__law_of
  · exact ok__law_some
  · exact ok__law_mixed
  · exact ok__law_word
  · exact ok__law_names
  · exact ok__law_same
  · exact ok__law_step
  · exact ok__law_deed
  · exact ok__law_deed_call
  · exact ok__law_deed_made
  · exact ok__law_words_of
  · exact ok__law_deed_so_v2
  · exact ok_law_v88
abbrev Rw : PySem.W.OpenRow := PySem.W.OpenLaw.row PySem.Challenge.rw_cartholds_k02_deeds_made
abbrev hk : PySem.W.Hook := hookX 7 fnL gkL clL kiL
def ob (s : PySem.W.SharedT) : He.AlD := obsXG 7 fnL gkL clL kiL (HandSHeadRun.getT s)
theorem ob_eq (s : PySem.W.SharedT) : ob s = hk.obs s.abs := obsXG_eq (HandSHeadRun.getT_eq s)
def loose0 : List Str := ["_wall", "HoldError", "InvalidName", "DuplicateName", "TooMany", "InvalidStep", "InvalidAsk", "SMALL", "ASKS", "SINGLE_STEPS", "MOST_SIGNS", "MOST_WORDS", "MOST_STEPS", "is_name", "is_listed", "need_words", "are_words", "step_of", "Deed", "_law_source"]
def loose1 : List Str := ["_law_draw", "_law_of", "_law_some", "_law_mixed", "_law_word", "_law_names", "_law_same", "_law_step", "_law_deed", "_law_deed_call", "_law_deed_made", "_law_words_of", "_law_deed_so"]
abbrev loose : List Str := loose0 ++ loose1
theorem run (w : World) : HandSHeadRun.RunEq Rw (PySem.W.view Rw.prog [36]) hk ob 4000 loose w := by
  intro os
  kernel_rfl
end Lk02
open PySem PySem.W PySem.Calls PyProof.Rows
theorem PySem.Challenge.cw_cartholds_k02_deeds_made_holds : PySem.Challenge.rw_cartholds_k02_deeds_made.Holds := by
  w_on; o_law
  refine HandSHeadRun.head_any (r := OpenLaw.row PySem.Challenge.rw_cartholds_k02_deeds_made) (q := view (OpenLaw.row PySem.Challenge.rw_cartholds_k02_deeds_made).prog [36]) (H := Lk02.hk) (ob := Lk02.ob) (M := 4000) (loose := Lk02.loose) (d := HandSHeadRun.topDef (OpenLaw.row PySem.Challenge.rw_cartholds_k02_deeds_made).prog 36) (kwd := []) Lk02.ob_eq
    (by kernel_rfl) (fun s => by kernel_rfl) Lk02.run (by kernel_rfl) (by kernel_rfl) (by kernel_rfl) (by rfl) (by first | assumption | decide +kernel) (by decide +kernel) ⟨rfl, rfl, rfl, rfl, rfl, by decide +kernel⟩ ?hw ?hc
  case hw => w_witness2
  case hc =>
    refine Dv.walkX (lw := PySem.Challenge.rw_cartholds_k02_deeds_made) (n := 63) (k := 122) (x := "_law_script") rfl (by decide) (by kernel_rfl) ⟨rfl, by decide, by decide⟩ ?F
    intro w mg fa h Y G hmg0
    obtain ⟨K, KX, c⟩ := Y
    have hmg : mg ("law" : PySem.Str) = some (.ref fa) := by
      have e : (HandSHeadRun.topDef (OpenLaw.row PySem.Challenge.rw_cartholds_k02_deeds_made).prog 36).name = ("law" : PySem.Str) := by kernel_rfl
      rw [← e]
      exact hmg0
    obtain ⟨fd, hb, hF⟩ := Dv.law_head (fnL := Lk02.fnL) (gkL := Lk02.gkL) (cl := Lk02.clL) (ki := Lk02.kiL) (muA := Lk02.muA) (k := 60) (n := 63) (q := "law") (y := "_law_script") (d := Lk02.d_law_v88) (P := (PySem.Challenge.rw_cartholds_k02_deeds_made).prog) (w := w) KX G c Lk02.ok_all (by rfl) rfl rfl rfl hmg (by rfl) fun ns hn => Lk02.pure_law ns hn
    exact ⟨K, fd, KX, hb, hF⟩
