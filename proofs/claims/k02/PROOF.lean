import PyProof.Rows.All
import Wide.All
import OpenK.AllK
import Wide.FinOn
import HandS.ForMost
import HandS.ForExc
import HandS.IsInst
import HandS.Wide
import HandS.Style
import HandS.Flow
import HandS.Defaults
import HandS.TupAny
import HandS.TupLe
import HandS.SortInts
import HandS.Flt
import HandS.More
import HandS.Gcd
import HandS.WordsExc
import HandS.Head0
import HandS.Head1
import HandS.Head2
import HandS.Head3
import HandS.HeadEnd
import HandS.HeadHook1
import HandS.HeadHook2
import HandS.DictComp
import KE.BitLaws
import PySem.Challenge.RW_keytellers_k02_whole_sums_of_words
set_option Elab.async false
set_option linter.all false
set_option maxRecDepth 100000
set_option maxHeartbeats 5000000
namespace Q
open PySem
open Spec PyProof.Rows L2

/-! ### data, objects -/
inductive D where
  | non | bl (b : Bool) | int (i : Int) | str (x : Str) | tup (ds : List D) | ref (n : Nat)
inductive O where
  | lst (ds : List D) | ro (ds : List D) | dic (kvs : List (Key × D)) | oth
def O.mu : O → Bool
  | .lst _ => true
  | .dic _ => true
  | _ => false
abbrev Sto := List O
abbrev ExD := Str × D
abbrev Sl := List (Option D)
abbrev KD := D → Sto → Prop
abbrev XD := ExD → Sto → Prop
abbrev TED := Sl → Sto → KD → XD → Prop
abbrev TTD := Sl → Sto → (Bool → Sto → Prop) → XD → Prop
abbrev TAD := Sl → Sto → (List D → Sto → Prop) → XD → Prop
structure EndsD where
  nx : Sl → Sto → Prop
  rt : KD
  bk : Sl → Sto → Prop
  ct : Sl → Sto → Prop
  ex : XD
abbrev TSD := EndsD → Sl → Sto → Prop
abbrev SpD := List D → Sto → KD → XD → Prop

/-! ### how data lie in the heap -/
section
variable (K : PySem.W.Frag) (H : Hp) (al : List Addr)
mutual
def RD : D → V → Prop
  | .non, v => v = .non
  | .bl b, v => v = .bl b
  | .int i, v => v = .int i
  | .str x, v => v = .str x
  | .tup ds, v => ∃ a vs, v = .ref a ∧ SqT K H a vs ∧ RDs ds vs
  | .ref n, v => ∃ a, v = .ref a ∧ al[n]? = some a
def RDs : List D → List V → Prop
  | [], vs => vs = []
  | d :: ds, vs => ∃ v r, vs = v :: r ∧ RD d v ∧ RDs ds r
end
/-- a list that is only read -/
def RoL (a : Addr) (vs : List V) : Prop := (∃ o, H a = some (.frz o (.lst vs))) ∨
    ∃ (o : Obj) (its : Array Value) (n : Nat), K.lookup a = some o ∧ o.cls = .type "list" ∧ o.dict = none ∧ o.data = .seq its n ∧ its.size ≤ sizeLine ∧ Vals vs its.toList
def RKs : List (Key × D) → List (Key × V) → Prop
  | [], vs => vs = []
  | d :: ds, vs => ∃ v r, vs = (d.1, v) :: r ∧ RD K H al d.2 v ∧ RKs ds r
def RO : O → Addr → Prop
  | .lst ds, a => ∃ vs, H a = some (.lst vs) ∧ RDs K H al ds vs
  | .ro ds, a => ∃ vs, RoL K H a vs ∧ RDs K H al ds vs
  | .dic kvs, a => ∃ vs, H a = some (.dK vs) ∧ RKs K H al kvs vs
  | .oth, _ => True
structure RS (S : Sto) : Prop where
  len : al.length = S.length
  nd : ∀ (n m : Nat) (o u : O) (a : Addr), S[n]? = some o → S[m]? = some u → o.mu = true → u.mu = true → al[n]? = some a → al[m]? = some a → n = m
  ob : ∀ (n : Nat) (o : O) (a : Addr), S[n]? = some o → al[n]? = some a → RO K H al o a
structure RSl (sg : Sl) (sv : L2.St) : Prop where
  len : sg.length = sv.length
  at_ : ∀ (i : Nat) (d : D), sg[i]? = some (some d) → ∃ v, sv[i]? = some (some v) ∧ RD K H al d v
end

def Keep (H H' : Hp) : Prop := (∀ a xs, H a = some (.tup xs) → H' a = some (.tup xs)) ∧ ∀ a o u, H a = some (.frz o u) → H' a = some (.frz o u)
theorem Keep.refl (H : Hp) : Keep H H := ⟨fun _ _ h => h, fun _ _ _ h => h⟩
theorem Keep.trans {H H1 H2 : Hp} (a : Keep H H1) (b : Keep H1 H2) : Keep H H2 := ⟨fun c xs h => b.1 c xs (a.1 c xs h), fun c o u h => b.2 c o u (a.2 c o u h)⟩
theorem Keep.laid {H : Hp} {p : Addr} {o : HO} (h : H p = none) : Keep H (upd H p o) :=
  ⟨fun a xs e => by rw [upd_ne (ne_of_none e h)]; exact e, fun a ob u e => by rw [upd_ne (ne_of_none e h)]; exact e⟩
theorem Keep.write {H : Hp} {p : Addr} {o u : HO} (h : H p = some u) (h1 : ∀ xs, u ≠ .tup xs) (h2 : ∀ ob z, u ≠ .frz ob z) : Keep H (upd H p o) :=
  ⟨fun a xs e => by rw [upd_ne (ne_of e h (fun z => h1 xs z.symm))]; exact e, fun a ob z e => by rw [upd_ne (ne_of e h (fun y => h2 ob z y.symm))]; exact e⟩
theorem sqt_keep {K : PySem.W.Frag} {H H' : Hp} {a : Addr} {xs : List V} (k : Keep H H') (h : SqT K H a xs) : SqT K H' a xs := by
  rcases h with (h | ⟨o, h⟩) | h
  · exact .inl (.inl (k.1 _ _ h))
  · exact .inl (.inr ⟨o, k.2 _ _ _ h⟩)
  · exact .inr h
theorem rol_keep {K : PySem.W.Frag} {H H' : Hp} {a : Addr} {xs : List V} (k : Keep H H') (h : RoL K H a xs) : RoL K H' a xs := by
  rcases h with ⟨o, h⟩ | h
  · exact .inl ⟨o, k.2 _ _ _ h⟩
  · exact .inr h
theorem rol_sq {K : PySem.W.Frag} {H : Hp} {a : Addr} {xs : List V} (h : RoL K H a xs) : SqL K H a xs := by
  rcases h with ⟨o, h⟩ | h
  · exact .inl (.inr ⟨o, h⟩)
  · exact .inr h

section
variable {K : PySem.W.Frag} {H H' : Hp} {al t : List Addr}
theorem getE {al t : List Addr} {n : Nat} {a : Addr} (h : al[n]? = some a) : (al ++ t)[n]? = some a := by
  rw [List.getElem?_append_left (by
    have := (List.getElem?_eq_some_iff.mp h).1
    exact this)]
  exact h
mutual
theorem RD.mono (k : Keep H H') : ∀ (d : D) (v : V), RD K H al d v → RD K H' (al ++ t) d v
  | .non, _, h => h
  | .bl _, _, h => h
  | .int _, _, h => h
  | .str _, _, h => h
  | .tup ds, _, ⟨a, vs, e, hs, hr⟩ => ⟨a, vs, e, sqt_keep k hs, RDs.mono k ds vs hr⟩
  | .ref n, _, ⟨a, e, h⟩ => ⟨a, e, getE h⟩
theorem RDs.mono (k : Keep H H') : ∀ (ds : List D) (vs : List V), RDs K H al ds vs → RDs K H' (al ++ t) ds vs
  | [], _, h => h
  | d :: ds, _, ⟨v, r, e, h1, h2⟩ => ⟨v, r, e, RD.mono k d v h1, RDs.mono k ds r h2⟩
end
theorem RKs.mono (k : Keep H H') : ∀ (ds : List (Key × D)) (vs : List (Key × V)), RKs K H al ds vs → RKs K H' (al ++ t) ds vs
  | [], _, h => h
  | d :: ds, _, ⟨v, r, e, h1, h2⟩ => ⟨v, r, e, RD.mono k d.2 v h1, RKs.mono k ds r h2⟩
theorem RSl.mono {sg : Sl} {sv : L2.St} (h : RSl K H al sg sv) (k : Keep H H') : RSl K H' (al ++ t) sg sv := ⟨h.len, fun i d e => by
  obtain ⟨v, e1, r⟩ := h.at_ i d e
  exact ⟨v, e1, RD.mono k _ _ r⟩⟩
theorem RDs.length : ∀ {ds : List D} {vs : List V}, RDs K H al ds vs → vs.length = ds.length
  | [], _, h => by cases (show _ = [] from h); rfl
  | d :: ds, _, ⟨v, r, e, _, h2⟩ => by rw [e, List.length_cons, List.length_cons, RDs.length h2]
theorem RDs.get : ∀ {ds : List D} {vs : List V} {i : Nat} {d : D}, RDs K H al ds vs → ds[i]? = some d → ∃ v, vs[i]? = some v ∧ RD K H al d v
  | [], _, _, _, _, e => by simp at e
  | x :: ds, _, 0, d, ⟨v, r, e, h1, h2⟩, q => by
    have q' : x = d := by simpa using q
    subst q'
    exact ⟨v, by rw [e]; rfl, h1⟩
  | x :: ds, _, i + 1, d, ⟨v, r, e, h1, h2⟩, q => by
    obtain ⟨u, e1, r1⟩ := RDs.get (i := i) (d := d) h2 (by simpa using q)
    exact ⟨u, by rw [e]; simpa using e1, r1⟩
theorem RDs.append : ∀ {ds es : List D} {vs us : List V}, RDs K H al ds vs → RDs K H al es us → RDs K H al (ds ++ es) (vs ++ us)
  | [], _, _, _, h, h' => by cases (show _ = [] from h); exact h'
  | d :: ds, _, _, _, ⟨v, r, e, h1, h2⟩, h' => ⟨v, _, by rw [e]; rfl, h1, RDs.append h2 h'⟩
theorem RDs.one {d : D} {v : V} (h : RD K H al d v) : RDs K H al [d] [v] := ⟨v, [], rfl, h, rfl⟩
theorem RDs.take : ∀ (n : Nat) {ds : List D} {vs : List V}, RDs K H al ds vs → RDs K H al (ds.take n) (vs.take n)
  | 0, _, _, _ => by simp [RDs]
  | n + 1, [], _, h => by cases (show _ = [] from h); rfl
  | n + 1, d :: ds, _, ⟨v, r, e, h1, h2⟩ => ⟨v, r.take n, by rw [e]; rfl, h1, RDs.take n h2⟩
theorem RDs.drop : ∀ (n : Nat) {ds : List D} {vs : List V}, RDs K H al ds vs → RDs K H al (ds.drop n) (vs.drop n)
  | 0, _, _, h => h
  | n + 1, [], _, h => by cases (show _ = [] from h); rfl
  | n + 1, d :: ds, _, ⟨v, r, e, h1, h2⟩ => by rw [e]; exact RDs.drop n h2
theorem RDs.set : ∀ (n : Nat) {ds : List D} {vs : List V} {d : D} {v : V}, RDs K H al ds vs → RD K H al d v → RDs K H al (ds.set n d) (vs.set n v)
  | _, [], _, _, _, h, _ => by cases (show _ = [] from h); exact rfl
  | 0, x :: ds, _, d, v, ⟨u, r, e, h1, h2⟩, q => ⟨v, r, by rw [e]; rfl, q, h2⟩
  | n + 1, x :: ds, _, d, v, ⟨u, r, e, h1, h2⟩, q => ⟨u, r.set n v, by rw [e]; rfl, h1, RDs.set n h2 q⟩
theorem RDs.reverse : ∀ {ds : List D} {vs : List V}, RDs K H al ds vs → RDs K H al ds.reverse vs.reverse
  | [], _, h => by cases (show _ = [] from h); exact rfl
  | d :: ds, _, ⟨v, r, e, h1, h2⟩ => by
    rw [e, List.reverse_cons, List.reverse_cons]
    exact RDs.append (RDs.reverse h2) (RDs.one h1)
/-- the future of a heap, an assignment of addresses -/
structure Fut (K : PySem.W.Frag) (H : Hp) (al : List Addr) (H' : Hp) (al' : List Addr) (S' : Sto) : Prop where
  ext : ∃ t, al' = al ++ t
  keep : Keep H H'
  rs : RS K H' al' S'
theorem Fut.trans {H1 H2 : Hp} {al al1 al2 : List Addr} {S1 S2 : Sto} (a : Fut K H al H1 al1 S1) (b : Fut K H1 al1 H2 al2 S2) : Fut K H al H2 al2 S2 := by
  obtain ⟨t, e⟩ := a.ext
  obtain ⟨u, e'⟩ := b.ext
  exact ⟨⟨t ++ u, by rw [e', e, List.append_assoc]⟩, a.keep.trans b.keep, b.rs⟩
theorem Fut.now {S : Sto} (r : RS K H al S) : Fut K H al H al S := ⟨⟨[], by simp⟩, .refl H, r⟩
theorem Fut.rd {al' : List Addr} {S' : Sto} (f : Fut K H al H' al' S') {d : D} {v : V} (h : RD K H al d v) : RD K H' al' d v := by
  obtain ⟨t, e⟩ := f.ext
  subst e
  exact RD.mono f.keep _ _ h
theorem Fut.rds {al' : List Addr} {S' : Sto} (f : Fut K H al H' al' S') {d : List D} {v : List V} (h : RDs K H al d v) : RDs K H' al' d v := by
  obtain ⟨t, e⟩ := f.ext
  subst e
  exact RDs.mono f.keep _ _ h
theorem Fut.rsl {al' : List Addr} {S' : Sto} (f : Fut K H al H' al' S') {d : Sl} {v : L2.St} (h : RSl K H al d v) : RSl K H' al' d v := by
  obtain ⟨t, e⟩ := f.ext
  subst e
  exact h.mono f.keep

/-! ### the store written -/
theorem RO.mono {o : O} {a : Addr} (k : Keep H H') (h : RO K H al o a) (hl : ∀ vs, H a = some (.lst vs) → H' a = some (.lst vs)) (hd : ∀ vs, H a = some (.dK vs) → H' a = some (.dK vs)) : RO K H' (al ++ t) o a := by
  cases o with
  | lst ds => obtain ⟨vs, e, r⟩ := h; exact ⟨vs, hl vs e, RDs.mono k _ _ r⟩
  | ro ds => obtain ⟨vs, e, r⟩ := h; exact ⟨vs, rol_keep k e, RDs.mono k _ _ r⟩
  | dic ds => obtain ⟨vs, e, r⟩ := h; exact ⟨vs, hd vs e, RKs.mono k _ _ r⟩
  | oth => trivial
/-- something is laid that the store does not have -/
theorem Fut.lay {S : Sto} {p : Addr} {o : HO} (r : RS K H al S) (h : H p = none) : Fut K H al (upd H p o) al S := by
  refine ⟨⟨[], by simp⟩, Keep.laid h, r.len, r.nd, fun n ob a e1 e2 => ?_⟩
  have q := RO.mono (t := []) (Keep.laid (o := o) h) (r.ob n ob a e1 e2) (fun vs e => by rw [upd_ne (ne_of_none e h)]; exact e) (fun vs e => by rw [upd_ne (ne_of_none e h)]; exact e)
  rwa [List.append_nil] at q
theorem RO.there {o : O} {a : Addr} (h : RO K H al o a) (m : o.mu = true) : H a ≠ none := by
  intro z
  cases o with
  | lst ds => obtain ⟨vs, e, _⟩ := h; rw [z] at e; cases e
  | ro ds => cases m
  | dic ds => obtain ⟨vs, e, _⟩ := h; rw [z] at e; cases e
  | oth => cases m
theorem getPush {S : Sto} {o : O} : (S ++ [o])[S.length]? = some o := by simp
theorem get_push_cases {α : Type} {l : List α} {x y : α} {n : Nat} (h : (l ++ [x])[n]? = some y) : l[n]? = some y ∨ (n = l.length ∧ y = x) := by
  by_cases hn : n < l.length
  · rw [List.getElem?_append_left hn] at h
    exact .inl h
  · by_cases e : n = l.length
    · subst e
      simp at h
      exact .inr ⟨rfl, h.symm⟩
    · rw [List.getElem?_append_right (by omega)] at h
      have : n - l.length ≠ 0 := by omega
      obtain ⟨k, hk⟩ : ∃ k, n - l.length = k + 1 := ⟨n - l.length - 1, by omega⟩
      rw [hk] at h
      simp at h
/-- a new object of the store -/
theorem Fut.push {S : Sto} {p : Addr} {ho : HO} {o : O} (r : RS K H al S) (h : H p = none) (q : RO K (upd H p ho) (al ++ [p]) o p) : Fut K H al (upd H p ho) (al ++ [p]) (S ++ [o]) := by
  refine ⟨⟨[p], rfl⟩, Keep.laid h, by simp [r.len], fun n m o1 o2 a e1 e2 m1 m2 a1 a2 => ?_, fun n ob a e1 e2 => ?_⟩
  · have key : ∀ (k : Nat) (ob : O), S[k]? = some ob → ob.mu = true → al[k]? ≠ some p := fun k ob e mu z => (r.ob k ob p e z).there mu h
    rcases get_push_cases e1 with f1 | ⟨rfl, rfl⟩
    · have n1 : n < S.length := (List.getElem?_eq_some_iff.mp f1).1
      rw [List.getElem?_append_left (by rw [r.len]; exact n1)] at a1
      rcases get_push_cases e2 with f2 | ⟨rfl, rfl⟩
      · have n2 : m < S.length := (List.getElem?_eq_some_iff.mp f2).1
        rw [List.getElem?_append_left (by rw [r.len]; exact n2)] at a2
        exact r.nd n m o1 o2 a f1 f2 m1 m2 a1 a2
      · rw [← r.len] at a2
        have : p = a := by simpa using a2
        subst this
        exact absurd a1 (key n o1 f1 m1)
    · rw [← r.len] at a1
      have : p = a := by simpa using a1
      subst this
      rcases get_push_cases e2 with f2 | ⟨rfl, rfl⟩
      · have n2 : m < S.length := (List.getElem?_eq_some_iff.mp f2).1
        rw [List.getElem?_append_left (by rw [r.len]; exact n2)] at a2
        exact absurd a2 (key m o2 f2 m2)
      · rfl
  · rcases get_push_cases e1 with e1 | ⟨rfl, rfl⟩
    · have n1 : n < S.length := (List.getElem?_eq_some_iff.mp e1).1
      rw [List.getElem?_append_left (by rw [r.len]; exact n1)] at e2
      exact RO.mono (Keep.laid h) (r.ob n ob a e1 e2) (fun vs e => by rw [upd_ne (ne_of_none e h)]; exact e) (fun vs e => by rw [upd_ne (ne_of_none e h)]; exact e)
    · rw [← r.len] at e2
      have : p = a := by simpa using e2
      subst this
      exact q
/-- an object of the store is written -/
theorem Fut.set {S : Sto} {n : Nat} {p : Addr} {ho : HO} {o u : O} (r : RS K H al S) (hu : S[n]? = some u) (mu : u.mu = true) (hp : al[n]? = some p) (q : RO K (upd H p ho) al o p) (mo : o.mu = true) : Fut K H al (upd H p ho) al (S.set n o) := by
  have hr := r.ob n u p hu hp
  have kp : Keep H (upd H p ho) := by
    cases u with
    | lst ds => obtain ⟨vs, e, _⟩ := hr; exact Keep.write e (fun _ z => by cases z) (fun _ _ z => by cases z)
    | dic ds => obtain ⟨vs, e, _⟩ := hr; exact Keep.write e (fun _ z => by cases z) (fun _ _ z => by cases z)
    | ro ds => cases mu
    | oth => cases mu
  have hn : n < S.length := (List.getElem?_eq_some_iff.mp hu).1
  have key : ∀ k ob, (S.set n o)[k]? = some ob → (k = n ∧ ob = o) ∨ (k ≠ n ∧ S[k]? = some ob) := fun k ob e => by
    by_cases hk : k = n
    · subst hk
      rw [List.getElem?_set_self hn] at e
      exact .inl ⟨rfl, (Option.some.inj e).symm⟩
    · rw [List.getElem?_set_ne (Ne.symm hk)] at e
      exact .inr ⟨hk, e⟩
  refine ⟨⟨[], by simp⟩, kp, by simp [r.len], fun k m o1 o2 a e1 e2 m1 m2 a1 a2 => ?_, fun k ob a e1 e2 => ?_⟩
  · rcases key k o1 e1 with ⟨rfl, rfl⟩ | ⟨k1, f1⟩
    · rcases key m o2 e2 with ⟨rfl, rfl⟩ | ⟨k2, f2⟩
      · rfl
      · exact r.nd k m u o2 a hu f2 mu m2 a1 a2
    · rcases key m o2 e2 with ⟨rfl, rfl⟩ | ⟨k2, f2⟩
      · exact r.nd k m o1 u a f1 hu m1 mu a1 a2
      · exact r.nd k m o1 o2 a f1 f2 m1 m2 a1 a2
  · rcases key k ob e1 with ⟨rfl, rfl⟩ | ⟨k1, e1⟩
    · rw [hp] at e2
      cases e2
      exact q
    · have ra := r.ob k ob a e1 e2
      by_cases hm : ob.mu = true
      · have ne : a ≠ p := fun z => by
          subst z
          exact k1 (r.nd k n ob u a e1 hu hm mu e2 hp)
        have q2 := RO.mono (t := []) kp ra (fun vs e => by rw [upd_ne ne]; exact e) (fun vs e => by rw [upd_ne ne]; exact e)
        rwa [List.append_nil] at q2
      · cases ob with
        | lst ds => exact absurd rfl hm
        | dic ds => exact absurd rfl hm
        | ro ds =>
          obtain ⟨vs, e, rr⟩ := ra
          refine ⟨vs, rol_keep kp e, ?_⟩
          have := RDs.mono (t := []) kp _ _ rr
          rwa [List.append_nil] at this
        | oth => trivial
end
end Q
namespace Q
open PySem
open Spec PyProof.Rows L2

/-! ### judgements over data -/
structure Cy where
  K : PySem.W.Frag
  mg : Str → Option Value
  E : XK
abbrev cy (X : Cx) (E : XK) : Cy := ⟨X.K, X.mg, E⟩
/-- an exception: its class by name, its one value -/
def ExAt (Y : Cy) (H : Hp) (al : List Addr) (ex : ExD) (cls : Value) (d : Option Addr) : Prop :=
  ∃ (C dx : Addr) (v : V), cls = .ref C ∧ Y.mg ex.1 = some (.ref C) ∧ d = some dx ∧ H dx = some (.xd [("value", v)]) ∧ RD Y.K H al ex.2 v
def Up (K : PySem.W.Frag) (H : Hp) (al : List Addr) (kd : KD) (Q : VK) : Prop := ∀ d S' al' H' v, Fut K H al H' al' S' → RD K H' al' d v → kd d S' → Q v H'
def UpB (K : PySem.W.Frag) (H : Hp) (al : List Addr) (kd : Bool → Sto → Prop) (Q : Bool → Hp → Prop) : Prop := ∀ b S' al' H', Fut K H al H' al' S' → kd b S' → Q b H'
def UpA (K : PySem.W.Frag) (H : Hp) (al : List Addr) (kd : List D → Sto → Prop) (Q : List V → Hp → Prop) : Prop := ∀ ds S' al' H' vs, Fut K H al H' al' S' → RDs K H' al' ds vs → kd ds S' → Q vs H'
def UpX (Y : Cy) (H : Hp) (al : List Addr) (xd : XD) : Prop := ∀ ex S' al' H' cls d, Fut Y.K H al H' al' S' → ExAt Y H' al' ex cls d → xd ex S' → Y.E cls d H'
def UpS (K : PySem.W.Frag) (H : Hp) (al : List Addr) (nd : Sl → Sto → Prop) (n : L2.St → Hp → Prop) : Prop := ∀ sg S' al' H' sv, Fut K H al H' al' S' → RSl K H' al' sg sv → nd sg S' → n sv H'
structure UpE (Y : Cy) (H : Hp) (al : List Addr) (Dd : EndsD) (De : Ends) : Prop where
  nx : UpS Y.K H al Dd.nx De.nx
  rt : Up Y.K H al Dd.rt De.rt
  bk : UpS Y.K H al Dd.bk De.bk
  ct : UpS Y.K H al Dd.ct De.ct
  ex : UpX Y H al Dd.ex
section
variable {K : PySem.W.Frag} {Y : Cy} {H H1 : Hp} {al al1 : List Addr} {S1 : Sto}
theorem Up.mono {kd : KD} {Q : VK} (u : Up K H al kd Q) (f : Fut K H al H1 al1 S1) : Up K H1 al1 kd Q := fun d S' al' H' v g r h => u d S' al' H' v (f.trans g) r h
theorem UpB.mono {kd : Bool → Sto → Prop} {Q : Bool → Hp → Prop} (u : UpB K H al kd Q) (f : Fut K H al H1 al1 S1) : UpB K H1 al1 kd Q := fun d S' al' H' g h => u d S' al' H' (f.trans g) h
theorem UpA.mono {kd : List D → Sto → Prop} {Q : List V → Hp → Prop} (u : UpA K H al kd Q) (f : Fut K H al H1 al1 S1) : UpA K H1 al1 kd Q := fun d S' al' H' v g r h => u d S' al' H' v (f.trans g) r h
theorem UpX.mono {xd : XD} (u : UpX Y H al xd) (f : Fut Y.K H al H1 al1 S1) : UpX Y H1 al1 xd := fun ex S' al' H' cls d g r h => u ex S' al' H' cls d (f.trans g) r h
theorem UpS.mono {nd : Sl → Sto → Prop} {n : L2.St → Hp → Prop} (u : UpS K H al nd n) (f : Fut K H al H1 al1 S1) : UpS K H1 al1 nd n := fun sg S' al' H' sv g r h => u sg S' al' H' sv (f.trans g) r h
theorem UpE.mono {Dd : EndsD} {De : Ends} (u : UpE Y H al Dd De) (f : Fut Y.K H al H1 al1 S1) : UpE Y H1 al1 Dd De := ⟨u.nx.mono f, u.rt.mono f, u.bk.mono f, u.ct.mono f, u.ex.mono f⟩
end
def LE (Y : Cy) (t : TED) : TE := fun sv H Q => ∃ sg al S kd xd, RS Y.K H al S ∧ RSl Y.K H al sg sv ∧ t sg S kd xd ∧ Up Y.K H al kd Q ∧ UpX Y H al xd
def LT (Y : Cy) (t : TTD) : TT := fun sv H Q => ∃ sg al S kd xd, RS Y.K H al S ∧ RSl Y.K H al sg sv ∧ t sg S kd xd ∧ UpB Y.K H al kd Q ∧ UpX Y H al xd
def LA (Y : Cy) (t : TAD) : TA := fun sv H Q => ∃ sg al S kd xd, RS Y.K H al S ∧ RSl Y.K H al sg sv ∧ t sg S kd xd ∧ UpA Y.K H al kd Q ∧ UpX Y H al xd
def LS (Y : Cy) (t : TSD) : TS := fun De sv H => ∃ sg al S Dd, RS Y.K H al S ∧ RSl Y.K H al sg sv ∧ t Dd sg S ∧ UpE Y H al Dd De
/-- by values -/
def L1 (Y : Cy) (r : D → Sto → KD → XD → Prop) : V → Hp → VK → Prop := fun x H Q => ∃ d al S kd xd, RS Y.K H al S ∧ RD Y.K H al d x ∧ r d S kd xd ∧ Up Y.K H al kd Q ∧ UpX Y H al xd
def LL2 (Y : Cy) (r : D → D → Sto → KD → XD → Prop) : R2 := fun x y H Q => ∃ d e al S kd xd, RS Y.K H al S ∧ RD Y.K H al d x ∧ RD Y.K H al e y ∧ r d e S kd xd ∧ Up Y.K H al kd Q ∧ UpX Y H al xd
def LLs (Y : Cy) (r : SpD) : List V → Hp → VK → Prop := fun vs H Q => ∃ ds al S kd xd, RS Y.K H al S ∧ RDs Y.K H al ds vs ∧ r ds S kd xd ∧ Up Y.K H al kd Q ∧ UpX Y H al xd

theorem pe_imp {X : Cx} {e : Expr} {t t' : TE} (h : PE X e t) (f : ∀ s H Q, t' s H Q → t s H Q) : PE X e t' := ⟨fun pins s σ H Q I q => h.run pins s σ H Q I (f σ H Q q)⟩
theorem pt_imp {X : Cx} {e : Expr} {t t' : TT} (h : PT X e t) (f : ∀ s H Q, t' s H Q → t s H Q) : PT X e t' := ⟨fun pins s σ H Q I q => h.run pins s σ H Q I (f σ H Q q)⟩
theorem pw_imp {X : Cx} {e : Expr} {t t' : TT} (h : PW X e t) (f : ∀ s H Q, t' s H Q → t s H Q) : PW X e t' := ⟨fun wh pins s σ H Q I q => h.run wh pins s σ H Q I (f σ H Q q)⟩
theorem pa_imp {X : Cx} {e : List Expr} {t t' : TA} (h : PA X e t) (f : ∀ s H Q, t' s H Q → t s H Q) : PA X e t' := ⟨fun pos pins s σ H Q I q => h.run pos pins s σ H Q I (f σ H Q q)⟩
theorem ps_imp {X : Cx} {e : Stmt} {t t' : TS} (h : PS X e t) (f : ∀ De s H, t' De s H → t De s H) : PS X e t' := ⟨fun pins s σ H De I q => h.run pins s σ H De I (f De σ H q)⟩
theorem pss_imp {X : Cx} {e : List Stmt} {t t' : TS} (h : PSs X e t) (f : ∀ De s H, t' De s H → t De s H) : PSs X e t' := ⟨fun pins s σ H De I q => h.run pins s σ H De I (f De σ H q)⟩

abbrev QE (X : Cx) (E : XK) (e : Expr) (t : TED) : Prop := PE X e (LE (cy X E) t)
abbrev QT (X : Cx) (E : XK) (e : Expr) (t : TTD) : Prop := PT X e (LT (cy X E) t)
abbrev QW (X : Cx) (E : XK) (e : Expr) (t : TTD) : Prop := PW X e (LT (cy X E) t)
abbrev QA (X : Cx) (E : XK) (e : List Expr) (t : TAD) : Prop := PA X e (LA (cy X E) t)
abbrev QS (X : Cx) (E : XK) (e : Stmt) (t : TSD) : Prop := PS X e (LS (cy X E) t)
abbrev QSs (X : Cx) (E : XK) (e : List Stmt) (t : TSD) : Prop := PSs X e (LS (cy X E) t)

/-! ### readings -/
def dC (d : D) : TED := fun _ S k _ => k d S
def dVar (i : Nat) : TED := fun sg S k _ => match sg[i]? with
  | some (some d) => k d S
  | _ => False
abbrev R1D := D → Sto → KD → XD → Prop
abbrev R2D := D → D → Sto → KD → XD → Prop
def dUn (r : R1D) (ta : TED) : TED := fun sg S k x => ta sg S (fun d S' => r d S' k x) x
def kOp2 (r : R2D) (k : KD) (x : XD) (d : D) : KD := fun e S => r d e S k x
def kOp1 (r : R2D) (tb : TED) (sg : Sl) (k : KD) (x : XD) : KD := fun d S => tb sg S (kOp2 r k x d) x
def dOp (r : R2D) (ta tb : TED) : TED := fun sg S k x => ta sg S (kOp1 r tb sg k x) x
def kB (k : Bool → Sto → Prop) : KD := fun d S => match d with
  | .bl b => k b S
  | _ => False
def dTst (t : TED) : TTD := fun sg S k x => t sg S (kB k) x
def kAnd (u : TTD) (sg : Sl) (k : Bool → Sto → Prop) (x : XD) : Bool → Sto → Prop := fun b S => (b = true → u sg S k x) ∧ (b = false → k false S)
def dAnd (t u : TTD) : TTD := fun sg S k x => t sg S (kAnd u sg k x) x
def kOr (u : TTD) (sg : Sl) (k : Bool → Sto → Prop) (x : XD) : Bool → Sto → Prop := fun b S => (b = true → k true S) ∧ (b = false → u sg S k x)
def dOr (t u : TTD) : TTD := fun sg S k x => t sg S (kOr u sg k x) x
def kNot (k : Bool → Sto → Prop) : Bool → Sto → Prop := fun b S => k (!b) S
def dNot (t : TTD) : TTD := fun sg S k x => t sg S (kNot k) x
def kAndV (u : TED) (sg : Sl) (k : KD) (x : XD) : Bool → Sto → Prop := fun b S => (b = true → u sg S k x) ∧ (b = false → k (.bl false) S)
def dAndV (t u : TED) : TED := fun sg S k x => t sg S (kB (kAndV u sg k x)) x
def kOrV (u : TED) (sg : Sl) (k : KD) (x : XD) : Bool → Sto → Prop := fun b S => (b = true → k (.bl true) S) ∧ (b = false → u sg S k x)
def dOrV (t u : TED) : TED := fun sg S k x => t sg S (kB (kOrV u sg k x)) x
def kNotV (k : KD) : Bool → Sto → Prop := fun b S => k (.bl (!b)) S
def dNotV (t : TED) : TED := fun sg S k x => t sg S (kB (kNotV k)) x
def kIfE (u v : TED) (sg : Sl) (k : KD) (x : XD) : Bool → Sto → Prop := fun b S => (b = true → u sg S k x) ∧ (b = false → v sg S k x)
def dIfE (t : TTD) (u v : TED) : TED := fun sg S k x => t sg S (kIfE u v sg k x) x
def dNil : TAD := fun _ S k _ => k [] S
def kCons2 (k : List D → Sto → Prop) (d : D) : List D → Sto → Prop := fun ds S => k (d :: ds) S
def kCons1 (u : TAD) (sg : Sl) (k : List D → Sto → Prop) (x : XD) : KD := fun d S => u sg S (kCons2 k d) x
def dCons (t : TED) (u : TAD) : TAD := fun sg S k x => t sg S (kCons1 u sg k x) x
def kTup (k : KD) : List D → Sto → Prop := fun ds S => ds.length ≤ sizeLine ∧ k (.tup ds) S
def dTup (t : TAD) : TED := fun sg S k x => t sg S (kTup k) x
def kLst (k : KD) : List D → Sto → Prop := fun ds S => ds.length ≤ sizeLine ∧ k (.ref S.length) (S ++ [.lst ds])
def dLst (t : TAD) : TED := fun sg S k x => t sg S (kLst k) x
def kCall (r : SpD) (k : KD) (x : XD) : List D → Sto → Prop := fun ds S => r ds S k x
/-- a call of anything by values -/
def dCall (r : SpD) (t : TAD) : TED := fun sg S k x => t sg S (kCall r k x) x

section
variable {X : Cx} {E : XK} {a b : Expr} {ta tb : TED} {pos : Pos}
/-! ### names, constants -/
theorem q_val {e : Expr} {d : D} {v : V} (h : PE X e (tC v)) (r : ∀ H al, RD X.K H al d v) : QE X E e (dC d) := pe_imp h fun s H Q ⟨sg, al, S, kd, xd, rs, rl, q, up, ux⟩ => up d S al H v (.now rs) (r H al) q
theorem q_int {i j} : QE X E (.Constant (.int i) j pos) (dC (.int i)) := q_val pe_int fun _ _ => rfl
theorem q_bl {i j} : QE X E (.Constant (.bool i) j pos) (dC (.bl i)) := q_val pe_bl fun _ _ => rfl
theorem q_str {i j} : QE X E (.Constant (.str i) j pos) (dC (.str i)) := q_val pe_str fun _ _ => rfl
theorem q_non {j} : QE X E (.Constant .none j pos) (dC .non) := q_val pe_non fun _ _ => rfl
theorem q_var {x : Str} (i : Nat) (hN : X.N[i]? = some x := by rfl) (hv : Vis X.env.scope x := by first | exact Or.inl rfl | exact Or.inr (Or.inl rfl) | exact Or.inr (Or.inr rfl)) (hd : (x == ("__debug__" : Str)) = false := by decide)
    (hcd : (x == ("__classdict__" : Str)) = false := by decide) : QE X E (.Name x pos) (dVar i) := by
  refine pe_imp (pe_var hN hv hd hcd) fun s H Q ⟨sg, al, S, kd, xd, rs, rl, q, up, ux⟩ => ?_
  unfold dVar at q
  cases e : sg[i]? with
  | none => rw [e] at q; exact q.elim
  | some o =>
    cases o with
    | none => rw [e] at q; exact q.elim
    | some d =>
      rw [e] at q
      obtain ⟨v, e1, r⟩ := rl.at_ i d e
      exact ⟨v, e1, up d S al H v (.now rs) r q⟩

/-! ### operators -/
theorem q_op {op : Operator} {r : R2D} (ho : OpR X (binaryOp op) (LL2 (cy X E) r)) (ha : QE X E a ta) (hb : QE X E b tb) : QE X E (.BinOp a op b pos) (dOp r ta tb) :=
  pe_imp (pe_op ho ha hb) fun s H Q ⟨sg, al, S, kd, xd, rs, rl, q, up, ux⟩ => ⟨sg, al, S, kOp1 r tb sg kd xd, xd, rs, rl, q,
    fun d1 S1 al1 H1 v1 f1 r1 q1 => ⟨sg, al1, S1, kOp2 r kd xd d1, xd, f1.rs, f1.rsl rl, q1, fun d2 S2 al2 H2 v2 f2 r2 q2 =>
      ⟨d1, d2, al2, S2, kd, xd, f2.rs, f2.rd r1, r2, q2, up.mono (f1.trans f2), ux.mono (f1.trans f2)⟩, ux.mono f1⟩, ux⟩
theorem q_un {op : UnaryOp} {r : R1D} (ho : UnR X (unaryOp op) (L1 (cy X E) r)) (ha : QE X E a ta) : QE X E (.UnaryOp op a pos) (dUn r ta) :=
  pe_imp (pe_un ho ha) fun s H Q ⟨sg, al, S, kd, xd, rs, rl, q, up, ux⟩ => ⟨sg, al, S, fun d S' => r d S' kd xd, xd, rs, rl, q,
    fun d1 S1 al1 H1 v1 f1 r1 q1 => ⟨d1, al1, S1, kd, xd, f1.rs, r1, q1, up.mono f1, ux.mono f1⟩, ux⟩
theorem q_cmp {op : CmpOp} {r : R2D} (ho : OpR X (compareOp op) (LL2 (cy X E) r)) (ha : QE X E a ta) (hb : QE X E b tb) (hm : behindInMarks op b = false := by rfl) : QE X E (.Compare a [op] [b] pos) (dOp r ta tb) :=
  pe_imp (pe_cmpR ho ha hb hm) fun s H Q ⟨sg, al, S, kd, xd, rs, rl, q, up, ux⟩ => ⟨sg, al, S, kOp1 r tb sg kd xd, xd, rs, rl, q,
    fun d1 S1 al1 H1 v1 f1 r1 q1 => ⟨sg, al1, S1, kOp2 r kd xd d1, xd, f1.rs, f1.rsl rl, q1, fun d2 S2 al2 H2 v2 f2 r2 q2 =>
      ⟨d1, d2, al2, S2, kd, xd, f2.rs, f2.rd r1, r2, q2, up.mono (f1.trans f2), ux.mono (f1.trans f2)⟩, ux.mono f1⟩, ux⟩
theorem upB {H : Hp} {al : List Addr} {kd : Bool → Sto → Prop} {Q : Bool → Hp → Prop} {K : PySem.W.Frag} (u : UpB K H al kd Q) : Up K H al (kB kd) (fun x H' => ∃ c, x = .bl c ∧ Q c H') := fun d S' al' H' v f r h => by
  cases d with
  | bl c => exact ⟨c, r, u c S' al' H' f h⟩
  | _ => exact h.elim
theorem q_tcmp {op : CmpOp} {r : R2D} (ho : OpR X (compareOp op) (LL2 (cy X E) r)) (ha : QE X E a ta) (hb : QE X E b tb) (hm : behindInMarks op b = false := by rfl) : QT X E (.Compare a [op] [b] pos) (dTst (dOp r ta tb)) :=
  pt_imp (pt_cmpR ho ha hb hm) fun s H Q ⟨sg, al, S, kd, xd, rs, rl, q, up, ux⟩ => ⟨sg, al, S, kOp1 r tb sg (kB kd) xd, xd, rs, rl, q,
    fun d1 S1 al1 H1 v1 f1 r1 q1 => ⟨sg, al1, S1, kOp2 r (kB kd) xd d1, xd, f1.rs, f1.rsl rl, q1, fun d2 S2 al2 H2 v2 f2 r2 q2 =>
      ⟨d1, d2, al2, S2, kB kd, xd, f2.rs, f2.rd r1, r2, q2, (upB up).mono (f1.trans f2), ux.mono (f1.trans f2)⟩, ux.mono f1⟩, ux⟩
theorem le_tst {Y : Cy} {t : TED} {s : L2.St} {H : Hp} {Q : Bool → Hp → Prop} (h : LT Y (dTst t) s H Q) : LE Y t s H (fun x H' => ∃ c, x = .bl c ∧ Q c H') := by
  obtain ⟨sg, al, S, kd, xd, rs, rl, q, up, ux⟩ := h
  exact ⟨sg, al, S, kB kd, xd, rs, rl, q, upB up, ux⟩
/-- an expression whose value is a bool, as a test -/
theorem q_tval {e : Expr} {t : TED} (h : QE X E e t) (he : ∀ whole, isTrue e X.env whole = (do let v ← whole; standAt e.pos; holding [v] (truthy v)) := by intro _; rfl) : QT X E e (dTst t) :=
  pt_imp (pt_val h he) fun s H Q q => le_tst q
variable {t u : TTD} {rest : List Expr}
theorem q_and1 (ha : QT X E a t) : QW X E (.BoolOp .And [a] pos) t := pw_and1 ha
theorem q_or1 (ha : QT X E a t) : QW X E (.BoolOp .Or [a] pos) t := pw_or1 ha
theorem ite_of {c : Bool} {A B : Prop} (h : (c = true → A) ∧ (c = false → B)) : if c = true then A else B := by
  cases c with
  | true => exact h.1 rfl
  | false => exact h.2 rfl
theorem q_and (ha : QT X E a t) (hb : QW X E (.BoolOp .And (b :: rest) pos) u) : QW X E (.BoolOp .And (a :: b :: rest) pos) (dAnd t u) :=
  pw_imp (pw_and ha hb) fun s H Q ⟨sg, al, S, kd, xd, rs, rl, q, up, ux⟩ => ⟨sg, al, S, kAnd u sg kd xd, xd, rs, rl, q, fun c S1 al1 H1 f1 q1 =>
    ite_of ⟨fun e => ⟨sg, al1, S1, kd, xd, f1.rs, f1.rsl rl, q1.1 e, up.mono f1, ux.mono f1⟩, fun e => up false S1 al1 H1 f1 (q1.2 e)⟩, ux⟩
theorem q_or (ha : QT X E a t) (hb : QW X E (.BoolOp .Or (b :: rest) pos) u) : QW X E (.BoolOp .Or (a :: b :: rest) pos) (dOr t u) :=
  pw_imp (pw_or ha hb) fun s H Q ⟨sg, al, S, kd, xd, rs, rl, q, up, ux⟩ => ⟨sg, al, S, kOr u sg kd xd, xd, rs, rl, q, fun c S1 al1 H1 f1 q1 =>
    ite_of ⟨fun e => up true S1 al1 H1 f1 (q1.1 e), fun e => ⟨sg, al1, S1, kd, xd, f1.rs, f1.rsl rl, q1.2 e, up.mono f1, ux.mono f1⟩⟩, ux⟩
theorem q_w {e : Expr} (h : QW X E e t) : QT X E e t := h.pt
theorem q_not (ha : QT X E a t) : QT X E (.UnaryOp .Not a pos) (dNot t) :=
  pt_imp (pt_not ha) fun s H Q ⟨sg, al, S, kd, xd, rs, rl, q, up, ux⟩ => ⟨sg, al, S, kNot kd, xd, rs, rl, q, fun c S1 al1 H1 f1 q1 => up (!c) S1 al1 H1 f1 q1, ux⟩
theorem q_one {op} (ha : QE X E a ta) : QE X E (.BoolOp op [a] pos) ta := pe_one ha
theorem q_andV (ha : QE X E a ta) (hb : QE X E (.BoolOp .And (b :: rest) pos) tb) : QE X E (.BoolOp .And (a :: b :: rest) pos) (dAndV ta tb) :=
  pe_imp (pe_and ha hb) fun s H Q ⟨sg, al, S, kd, xd, rs, rl, q, up, ux⟩ => ⟨sg, al, S, kB (kAndV tb sg kd xd), xd, rs, rl, q, fun d S1 al1 H1 v f1 r1 q1 => by
    cases d with
    | bl c => exact ⟨c, r1, ite_of ⟨fun e => ⟨sg, al1, S1, kd, xd, f1.rs, f1.rsl rl, q1.1 e, up.mono f1, ux.mono f1⟩, fun e => up (.bl false) S1 al1 H1 _ f1 rfl (q1.2 e)⟩⟩
    | _ => exact q1.elim, ux⟩
theorem q_orV (ha : QE X E a ta) (hb : QE X E (.BoolOp .Or (b :: rest) pos) tb) : QE X E (.BoolOp .Or (a :: b :: rest) pos) (dOrV ta tb) :=
  pe_imp (pe_or ha hb) fun s H Q ⟨sg, al, S, kd, xd, rs, rl, q, up, ux⟩ => ⟨sg, al, S, kB (kOrV tb sg kd xd), xd, rs, rl, q, fun d S1 al1 H1 v f1 r1 q1 => by
    cases d with
    | bl c => exact ⟨c, r1, ite_of ⟨fun e => up (.bl true) S1 al1 H1 _ f1 rfl (q1.1 e), fun e => ⟨sg, al1, S1, kd, xd, f1.rs, f1.rsl rl, q1.2 e, up.mono f1, ux.mono f1⟩⟩⟩
    | _ => exact q1.elim, ux⟩
theorem q_notV (ha : QE X E a ta) : QE X E (.UnaryOp .Not a pos) (dNotV ta) :=
  pe_imp (pe_not ha) fun s H Q ⟨sg, al, S, kd, xd, rs, rl, q, up, ux⟩ => ⟨sg, al, S, kB (kNotV kd), xd, rs, rl, q, fun d S1 al1 H1 v f1 r1 q1 => by
    cases d with
    | bl c => exact ⟨c, r1, up (.bl (!c)) S1 al1 H1 _ f1 rfl q1⟩
    | _ => exact q1.elim, ux⟩
theorem q_ifE {c : Expr} (hc : QT X E c t) (ha : QE X E a ta) (hb : QE X E b tb) : QE X E (.IfExp c a b pos) (dIfE t ta tb) :=
  pe_imp (pe_ifExp hc ha hb) fun s H Q ⟨sg, al, S, kd, xd, rs, rl, q, up, ux⟩ => ⟨sg, al, S, kIfE ta tb sg kd xd, xd, rs, rl, q, fun d S1 al1 H1 f1 q1 =>
    ite_of ⟨fun e => ⟨sg, al1, S1, kd, xd, f1.rs, f1.rsl rl, q1.1 e, up.mono f1, ux.mono f1⟩, fun e => ⟨sg, al1, S1, kd, xd, f1.rs, f1.rsl rl, q1.2 e, up.mono f1, ux.mono f1⟩⟩, ux⟩

/-! ### arguments, displays -/
variable {e : Expr} {es : List Expr} {te : TED} {tr : TAD}
theorem q_nil : QA X E [] dNil := pa_imp pa_nil fun s H Q ⟨sg, al, S, kd, xd, rs, rl, q, up, ux⟩ => up [] S al H [] (.now rs) rfl q
theorem q_cons (ha : QE X E e te) (hr : QA X E es tr) (hs : starEach (e :: es) X.env = (false, eval e X.env) :: starEach es X.env := by rfl) : QA X E (e :: es) (dCons te tr) :=
  pa_imp (pa_cons ha hr hs) fun s H Q ⟨sg, al, S, kd, xd, rs, rl, q, up, ux⟩ => ⟨sg, al, S, kCons1 tr sg kd xd, xd, rs, rl, q, fun d S1 al1 H1 v f1 r1 q1 =>
    ⟨sg, al1, S1, kCons2 kd d, xd, f1.rs, f1.rsl rl, q1, fun ds S2 al2 H2 vs f2 r2 q2 => up (d :: ds) S2 al2 H2 (v :: vs) (f1.trans f2) ⟨v, vs, rfl, f2.rd r1, r2⟩ q2, ux.mono f1⟩, ux⟩
theorem q_tup {x1} (h : QA X E es tr) : QE X E (.Tuple es x1 pos) (dTup tr) :=
  pe_imp (pe_tup h) fun s H Q ⟨sg, al, S, kd, xd, rs, rl, q, up, ux⟩ => ⟨sg, al, S, kTup kd, xd, rs, rl, q, fun ds S1 al1 H1 vs f1 r1 q1 => ⟨by rw [RDs.length r1]; exact q1.1, fun p hp => by
    have f2 : Fut X.K H1 al1 (upd H1 p (.tup vs)) al1 S1 := Fut.lay f1.rs hp
    exact up (.tup ds) S1 al1 _ (.ref p) (f1.trans f2) ⟨p, vs, rfl, .inl (.inl upd_same), f2.rds r1⟩ q1.2⟩, ux⟩
theorem ref_new {H : Hp} {al : List Addr} {S : Sto} {p : Addr} {K : PySem.W.Frag} (r : RS K H al S) (H' : Hp) : RD K H' (al ++ [p]) (.ref S.length) (.ref p) := ⟨p, rfl, by rw [← r.len]; simp⟩
theorem new_lst {K : PySem.W.Frag} {H : Hp} {al : List Addr} {S : Sto} {p : Addr} {ds : List D} {vs : List V} (r : RS K H al S) (hp : H p = none) (rd : RDs K H al ds vs) : Fut K H al (upd H p (.lst vs)) (al ++ [p]) (S ++ [.lst ds]) :=
  Fut.push r hp ⟨vs, upd_same, RDs.mono (Keep.laid hp) _ _ rd⟩
theorem q_lst (h : QA X E es tr) : QE X E (.List es pos) (dLst tr) :=
  pe_imp (pe_lst h) fun s H Q ⟨sg, al, S, kd, xd, rs, rl, q, up, ux⟩ => ⟨sg, al, S, kLst kd, xd, rs, rl, q, fun ds S1 al1 H1 vs f1 r1 q1 => ⟨by rw [RDs.length r1]; exact q1.1, fun p hp =>
    up (.ref S1.length) _ _ _ (.ref p) (f1.trans (new_lst f1.rs hp r1)) (ref_new f1.rs _) q1.2⟩, ux⟩

/-! ### calls of built-ins -/
theorem lls {H : Hp} {r : SpD} {s : L2.St} {Q : VK} {Y : Cy} {t : TAD} (h : LE Y (dCall r t) s H Q) : LA Y t s H (fun vs H1 => LLs Y r vs H1 Q) := by
  obtain ⟨sg, al, S, kd, xd, rs, rl, q, up, ux⟩ := h
  exact ⟨sg, al, S, kCall r kd xd, xd, rs, rl, q, fun ds S1 al1 H1 vs f1 r1 q1 => ⟨ds, al1, S1, kd, xd, f1.rs, r1, q1, up.mono f1, ux.mono f1⟩, ux⟩
theorem q_callB {x : Str} {id : String} {r : SpD} {p : Pos} (hc : CallR X (.builtin id) (LLs (cy X E) r)) (hg : Gl X x) (hm : X.mg x = none) (hv : bootBuiltins x = some (.builtin id)) (ha : QA X E (e :: es) tr) (hn : x ≠ "__name__" := by decide) (hdb : (x == ("__debug__" : Str)) = false := by decide)
    (he : starEach (e :: es) X.env = (false, eval e X.env) :: starEach es X.env := by rfl) (hpl : (backTo pos (starEach es X.env)).any (·.1) = false := by rfl) : QE X E (.Call (.Name x p) (e :: es) [] pos) (dCall r tr) :=
  pe_imp (pe_callB hc hg hm hv ha hn hdb he hpl) fun s H Q q => lls q
theorem q_callTy {x : Str} {T : String} {r : SpD} {p : Pos} (hc : CallR X (.type T) (LLs (cy X E) r)) (hg : Gl X x) (hm : X.mg x = none) (hv : bootBuiltins x = some (.type T)) (ha : QA X E (e :: es) tr) (hn : x ≠ "__name__" := by decide) (hdb : (x == ("__debug__" : Str)) = false := by decide)
    (he : starEach (e :: es) X.env = (false, eval e X.env) :: starEach es X.env := by rfl) (hpl : (backTo pos (starEach es X.env)).any (·.1) = false := by rfl) : QE X E (.Call (.Name x p) (e :: es) [] pos) (dCall r tr) :=
  pe_imp (pe_callTy hc hg hm hv ha hn hdb he hpl) fun s H Q q => lls q
/-! ### calls of defs -/
/-- a def's promise over data -/
def LSp (Y : Cy) (n : Nat) (sp : SpD) : List V → Hp → VK → Prop := fun vs H Q => vs.length = n ∧ LLs Y sp vs H Q
def LP (K : PySem.W.Frag) (mg : Str → Option Value) (n : Nat) (sp : SpD) : Sp := fun vs H Q E => LSp ⟨K, mg, E⟩ n sp vs H Q
/-- with the number of arguments -/
def spN (n : Nat) (sp : SpD) : SpD := fun ds S k x => ds.length = n ∧ sp ds S k x
variable {k n : Nat} {f : Addr} {fd : FuncData} {ps : List Str} {sp : SpD} {x : Str} {p : Pos}
theorem q_call (F : FnOk X.prog X.w X.K X.mg X.base (L2.CX X.prog X.w) k f fd ps (LP X.K X.mg n sp)) (hr : Room k X.A) (hg : Gl X x) (hm : X.mg x = some (.ref f)) (hk : PySem.W.keepIn X.K (.ref f) = true) (hb : Binds X.K fd ps []) (hx : Passes (L2.CX X.prog X.w) X E)
    (ha : QA X E (e :: es) tr) (hdb : (x == ("__debug__" : Str)) = false := by decide) (he : starEach (e :: es) X.env = (false, eval e X.env) :: starEach es X.env := by rfl) (hpl : (backTo pos (starEach es X.env)).any (·.1) = false := by rfl) :
    QE X E (.Call (.Name x p) (e :: es) [] pos) (dCall (spN n sp) tr) :=
  pe_imp (pe_call (dvs := []) F hr hg hm hk hb .nil hx ha hdb he hpl) fun s H Q ⟨sg, al, S, kd, xd, rs, rl, q, up, ux⟩ => ⟨sg, al, S, kCall (spN n sp) kd xd, xd, rs, rl, q,
    fun ds S1 al1 H1 vs f1 r1 q1 => by
      show LP X.K X.mg n sp (vs ++ []) H1 Q E
      rw [List.append_nil]
      exact ⟨by rw [RDs.length r1]; exact q1.1, ds, al1, S1, kd, xd, f1.rs, r1, q1.2, up.mono f1, ux.mono f1⟩, ux⟩
end
end Q
namespace Q
open PySem
open Spec PyProof.Rows L2

/-! ### operators by value -/
/-- a list that is read -/
def isL (S : Sto) (n : Nat) (ds : List D) : Prop := S[n]? = some (.lst ds) ∨ S[n]? = some (.ro ds)
def rAdd : R2D := fun d e S k _ => match d, e with
  | .int i, .int j => k (.int (i + j)) S
  | .str i, .str j => i.length + j.length ≤ sizeLine ∧ k (.str (i ++ j)) S
  | .tup i, .tup j => i.length + j.length ≤ sizeLine ∧ k (.tup (i ++ j)) S
  | .ref n, .ref m => ∃ xs ys, S[n]? = some (.lst xs) ∧ S[m]? = some (.lst ys) ∧ xs.length + ys.length ≤ sizeLine ∧ k (.ref S.length) (S ++ [.lst (xs ++ ys)])
  | _, _ => False
def rSub : R2D := fun d e S k _ => match d, e with
  | .int i, .int j => k (.int (i - j)) S
  | _, _ => False
def MulOk (i j : Int) : Prop := CMul i j ∨ CMulW i j
def rMul : R2D := fun d e S k _ => match d, e with
  | .int i, .int j => MulOk i j ∧ k (.int (i * j)) S
  | .ref n, .int j => ∃ xs, S[n]? = some (.lst xs) ∧ j < 2 ^ 63 ∧ -(2 ^ 63) ≤ j ∧ xs.length * j.toNat ≤ sizeLine ∧ k (.ref S.length) (S ++ [.lst (List.replicate j.toNat xs).flatten])
  | _, _ => False
def rFdiv : R2D := fun d e S k _ => match d, e with
  | .int i, .int j => CDivW i j ∧ k (.int (i / j)) S
  | _, _ => False
def rMod : R2D := fun d e S k _ => match d, e with
  | .int i, .int j => 0 < j ∧ k (.int (i % j)) S
  | _, _ => False
/-- a power that is worked out: of a plain base, or of a wide base to a few -/
def PowOk (i j : Int) : Prop := CPow i j ∨ (0 ≤ j ∧ j ≤ 1000 ∧ i.natAbs < 2 ^ 10000)
def rPow : R2D := fun d e S k _ => match d, e with
  | .int i, .int j => PowOk i j ∧ k (.int (i ^ j.toNat)) S
  | _, _ => False
def rShl : R2D := fun d e S k _ => match d, e with
  | .int i, .int j => CPow i j ∧ k (.int (i * 2 ^ j.toNat)) S
  | _, _ => False
def rShr : R2D := fun d e S k _ => match d, e with
  | .int i, .int j => 0 ≤ j ∧ k (.int (i / 2 ^ j.toNat)) S
  | _, _ => False
def rAnd : R2D := fun d e S k _ => match d, e with
  | .int i, .int j => k (.int (Builtin.bitAnd i j)) S
  | _, _ => False
def rOr : R2D := fun d e S k _ => match d, e with
  | .int i, .int j => k (.int (Builtin.bitOr i j)) S
  | _, _ => False
def rXor : R2D := fun d e S k _ => match d, e with
  | .int i, .int j => k (.int (Builtin.bitXor i j)) S
  | _, _ => False
def rNeg : R1D := fun d S k _ => match d with
  | .int i => k (.int (-i)) S
  | _ => False
mutual
inductive DPy (S : Sto) : D → PyData → Prop
  | non : DPy S .non .none
  | bl (b : Bool) : DPy S (.bl b) (.bool b)
  | int (i : Int) : DPy S (.int i) (.int i)
  | str (x : Str) : DPy S (.str x) (.str x)
  | tup {ds : List D} {ps : List PyData} : DPys S ds ps → DPy S (.tup ds) (.tuple ps)
  | ref {n : Nat} {ds : List D} {ps : List PyData} : isL S n ds → DPys S ds ps → DPy S (.ref n) (.list ps)
inductive DPys (S : Sto) : List D → List PyData → Prop
  | nil : DPys S [] []
  | cons {d : D} {ds : List D} {p : PyData} {ps : List PyData} : DPy S d p → DPys S ds ps → DPys S (d :: ds) (p :: ps)
end
/-- == of data at any depth -/
def eqG (d e : D) (S : Sto) (k : Bool → Prop) : Prop := ∃ p q, DPy S d p ∧ DPy S e q ∧ SeqAt.shaped p = true ∧ SeqAt.shaped q = true ∧ k (PyData.eqv p q)
def rEq : R2D := fun d e S k _ => match d, e with
  | .int i, .int j => k (.bl (decide (i = j))) S
  | .str i, .str j => k (.bl (decide (i = j))) S
  | .bl i, .bl j => k (.bl (decide (i = j))) S
  | d, e => eqG d e S fun b => k (.bl b) S
def rNe : R2D := fun d e S k _ => match d, e with
  | .int i, .int j => k (.bl (!decide (i = j))) S
  | .str i, .str j => k (.bl (!decide (i = j))) S
  | .bl i, .bl j => k (.bl (!decide (i = j))) S
  | d, e => eqG d e S fun b => k (.bl (!b)) S
def rLt : R2D := fun d e S k _ => match d, e with
  | .int i, .int j => k (.bl (decide (i < j))) S
  | .str i, .str j => k (.bl (decide (i.cps.toList < j.cps.toList))) S
  | _, _ => False
def rLe : R2D := fun d e S k _ => match d, e with
  | .int i, .int j => k (.bl (decide (i ≤ j))) S
  | _, _ => False
def rGt : R2D := fun d e S k _ => match d, e with
  | .int i, .int j => k (.bl (decide (j < i))) S
  | _, _ => False
def rGe : R2D := fun d e S k _ => match d, e with
  | .int i, .int j => k (.bl (decide (j ≤ i))) S
  | _, _ => False
def isNon : D → Bool
  | .non => true
  | _ => false
/-- is None; is of two truths -/
def rIs : R2D := fun d e S k _ => match e with
  | .non => k (.bl (isNon d)) S
  | .bl j => match d with
    | .bl i => k (.bl (decide (i = j))) S
    | _ => False
  | _ => False
def rIsNot : R2D := fun d e S k _ => match e with
  | .non => k (.bl (!isNon d)) S
  | .bl j => match d with
    | .bl i => k (.bl (!decide (i = j))) S
    | _ => False
  | _ => False
def flatD : D → Bool
  | .non => true
  | .bl _ => true
  | .int _ => true
  | .str _ => true
  | _ => false
def eqF : D → D → Bool
  | .non, .non => true
  | .bl a, .bl b => a == b
  | .bl a, .int b => (if a then 1 else 0) == b
  | .int a, .bl b => a == (if b then 1 else 0)
  | .int a, .int b => a == b
  | .str a, .str b => a == b
  | _, _ => false
def inF (d : D) (ds : List D) : Bool := ds.any fun e => eqF e d
def rIn : R2D := fun d e S k _ => match e with
  | .tup ds => flatD d = true ∧ ds.all flatD = true ∧ k (.bl (inF d ds)) S
  | .ref n => ∃ ds, isL S n ds ∧ flatD d = true ∧ ds.all flatD = true ∧ k (.bl (inF d ds)) S
  | _ => False
def rNotIn : R2D := fun d e S k _ => match e with
  | .tup ds => flatD d = true ∧ ds.all flatD = true ∧ k (.bl (!inF d ds)) S
  | .ref n => ∃ ds, isL S n ds ∧ flatD d = true ∧ ds.all flatD = true ∧ k (.bl (!inF d ds)) S
  | _ => False

section
variable {X : Cx} {E : XK}
theorem up_at {K : PySem.W.Frag} {H : Hp} {al : List Addr} {S : Sto} {kd : KD} {Q : VK} {d : D} {v : V} (up : Up K H al kd Q) (rs : RS K H al S) (r : RD K H al d v) (h : kd d S) : Q v H := up d S al H v (.now rs) r h
theorem isL_at {K : PySem.W.Frag} {H : Hp} {al : List Addr} {S : Sto} {n : Nat} {ds : List D} {v : V} (rs : RS K H al S) (h : isL S n ds) (r : RD K H al (.ref n) v) : ∃ a vs, v = .ref a ∧ al[n]? = some a ∧ SqL K H a vs ∧ RDs K H al ds vs := by
  obtain ⟨a, e, ha⟩ := r
  rcases h with h | h
  · obtain ⟨vs, e1, r1⟩ := rs.ob n _ a h ha
    exact ⟨a, vs, e, ha, .inl (.inl e1), r1⟩
  · obtain ⟨vs, e1, r1⟩ := rs.ob n _ a h ha
    exact ⟨a, vs, e, ha, rol_sq e1, r1⟩
theorem lst_at {K : PySem.W.Frag} {H : Hp} {al : List Addr} {S : Sto} {n : Nat} {ds : List D} {v : V} (rs : RS K H al S) (h : S[n]? = some (.lst ds)) (r : RD K H al (.ref n) v) : ∃ a vs, v = .ref a ∧ al[n]? = some a ∧ H a = some (.lst vs) ∧ RDs K H al ds vs := by
  obtain ⟨a, e, ha⟩ := r
  obtain ⟨vs, e1, r1⟩ := rs.ob n _ a h ha
  exact ⟨a, vs, e, ha, e1, r1⟩
theorem up_new {K : PySem.W.Frag} {H : Hp} {al : List Addr} {S : Sto} {kd : KD} {Q : VK} {ds : List D} {vs : List V} {p : Addr} (up : Up K H al kd Q) (rs : RS K H al S) (hp : H p = none) (r : RDs K H al ds vs) (h : kd (.ref S.length) (S ++ [.lst ds])) : Q (.ref p) (upd H p (.lst vs)) :=
  up (.ref S.length) _ _ _ (.ref p) (new_lst rs hp r) (ref_new rs _) h
theorem up_tup {K : PySem.W.Frag} {H : Hp} {al : List Addr} {S : Sto} {kd : KD} {Q : VK} {ds : List D} {vs : List V} {p : Addr} (up : Up K H al kd Q) (rs : RS K H al S) (hp : H p = none) (r : RDs K H al ds vs) (h : kd (.tup ds) S) : Q (.ref p) (upd H p (.tup vs)) := by
  have f2 : Fut K H al (upd H p (.tup vs)) al S := Fut.lay rs hp
  exact up (.tup ds) S al _ (.ref p) f2 ⟨p, vs, rfl, .inl (.inl upd_same), f2.rds r⟩ h
/-- an operator of two ints -/
theorem o_int2 {f : Value → Value → Sem Value} {C : Int → Int → Prop} {g : Int → Int → V} {g' : Int → Int → D} (h : OpR X f (rI C g)) (hg : ∀ i j H al, RD X.K H al (g' i j) (g i j)) :
    OpR X f (LL2 (cy X E) fun d e S k _ => match d, e with | .int i, .int j => C i j ∧ k (g' i j) S | _, _ => False) := by
  intro pins s σ H x y v u Q I rx ry ⟨d, e, al, S, kd, xd, rs, rd, re, q, up, ux⟩
  cases d <;> cases e <;> try exact q.elim
  case int.int i j =>
    have rd : x = .int i := rd
    have re : y = .int j := re
    exact h pins s σ H x y v u Q I rx ry ⟨i, j, rd, re, q.1, up_at up rs (hg i j H al) q.2⟩
theorem o_int0 {f : Value → Value → Sem Value} {g : Int → Int → V} {g' : Int → Int → D} (h : OpR X f (rI0 g)) (hg : ∀ i j H al, RD X.K H al (g' i j) (g i j)) :
    OpR X f (LL2 (cy X E) fun d e S k _ => match d, e with | .int i, .int j => k (g' i j) S | _, _ => False) := by
  intro pins s σ H x y v u Q I rx ry ⟨d, e, al, S, kd, xd, rs, rd, re, q, up, ux⟩
  cases d <;> cases e <;> try exact q.elim
  case int.int i j =>
    have rd : x = .int i := rd
    have re : y = .int j := re
    exact h pins s σ H x y v u Q I rx ry ⟨i, j, rd, re, up_at up rs (hg i j H al) q⟩
theorem o_sub : OpR X (binaryOp .Sub) (LL2 (cy X E) rSub) := o_int0 op_sub fun _ _ _ _ => rfl
theorem o_fdiv : OpR X (binaryOp .FloorDiv) (LL2 (cy X E) rFdiv) := o_int2 op_fdivW fun _ _ _ _ => rfl
theorem o_mod : OpR X (binaryOp .Mod) (LL2 (cy X E) rMod) := o_int2 op_mod fun _ _ _ _ => rfl
theorem log_lt {a : Nat} {n : Nat} (h : a < 2 ^ n) (h0 : 0 < n) : a.log2 < n := by
  by_cases ha : a = 0
  · subst ha; simpa using h0
  · exact (Nat.log2_lt ha).mpr h
theorem bits_wide {a n : Int} (hn : 0 ≤ n) (hn2 : n ≤ 1000) (ha : a.natAbs < 2 ^ 10000) : (Builtin.Int.intBits a : Int) * n ≤ 2 ^ 27 := by
  have h : Builtin.Int.intBits a ≤ 10000 := by
    unfold Builtin.Int.intBits
    split
    · exact Nat.zero_le _
    · exact log_lt ha (by decide)
  have h1 : (Builtin.Int.intBits a : Int) * n ≤ 10000 * 1000 := by
    refine Int.le_trans (Int.mul_le_mul_of_nonneg_right (show (Builtin.Int.intBits a : Int) ≤ 10000 by omega) hn) ?_
    omega
  exact Int.le_trans h1 (by decide)
theorem op_powW : OpR X (binaryOp .Pow) (rI PowOk fun i j => .int (i ^ j.toNat)) := opI fun _ _ _ _ _ _ _ hc q => by
  rcases hc with hc | hc
  · exact pow_int_small hc.1 hc.2.1 hc.2.2 q
  · exact pow_int hc.1 (bits_wide hc.1 hc.2.1 hc.2.2) q
theorem o_pow : OpR X (binaryOp .Pow) (LL2 (cy X E) rPow) := o_int2 op_powW fun _ _ _ _ => rfl
theorem o_shl : OpR X (binaryOp .LShift) (LL2 (cy X E) rShl) := o_int2 op_shl fun _ _ _ _ => rfl
theorem o_shr : OpR X (binaryOp .RShift) (LL2 (cy X E) rShr) := o_int2 op_shr fun _ _ _ _ => rfl
theorem o_and : OpR X (binaryOp .BitAnd) (LL2 (cy X E) rAnd) := o_int0 op_and fun _ _ _ _ => rfl
theorem o_or : OpR X (binaryOp .BitOr) (LL2 (cy X E) rOr) := o_int0 op_or fun _ _ _ _ => rfl
theorem o_xor : OpR X (binaryOp .BitXor) (LL2 (cy X E) rXor) := o_int0 op_xor fun _ _ _ _ => rfl
theorem o_le : OpR X (compareOp .LtE) (LL2 (cy X E) rLe) := o_int0 op_le fun _ _ _ _ => rfl
theorem o_gt : OpR X (compareOp .Gt) (LL2 (cy X E) rGt) := o_int0 op_gt fun _ _ _ _ => rfl
theorem o_ge : OpR X (compareOp .GtE) (LL2 (cy X E) rGe) := o_int0 op_ge fun _ _ _ _ => rfl
theorem o_lt : OpR X (compareOp .Lt) (LL2 (cy X E) rLt) := by
  intro pins s σ H x y v u Q I rx ry ⟨d, e, al, S, kd, xd, rs, rd, re, q, up, ux⟩
  cases d <;> cases e <;> try exact q.elim
  case int.int i j =>
    have rd : x = .int i := rd
    have re : y = .int j := re
    exact op_lt pins s σ H x y v u Q I rx ry ⟨i, j, rd, re, up_at up rs (d := .bl (decide (i < j))) rfl q⟩
  case str.str i j =>
    have rd : x = .str i := rd
    have re : y = .str j := re
    exact op_lt_str pins s σ H x y v u Q I rx ry ⟨i, j, rd, re, up_at up rs (d := .bl (decide (i.cps.toList < j.cps.toList))) rfl q⟩
theorem o_neg : UnR X (unaryOp .USub) (L1 (cy X E) rNeg) := by
  intro pins s σ H x v Q I rx ⟨d, al, S, kd, xd, rs, rd, q, up, ux⟩
  cases d <;> try exact q.elim
  case int i =>
    have rd : x = .int i := rd
    exact un_neg pins s σ H x v Q I rx ⟨i, rd, up_at up rs (d := .int (-i)) rfl q⟩
theorem o_add : OpR X (binaryOp .Add) (LL2 (cy X E) rAdd) := by
  intro pins s σ H x y v u Q I rx ry ⟨d, e, al, S, kd, xd, rs, rd, re, q, up, ux⟩
  cases d <;> cases e <;> try exact q.elim
  case int.int i j =>
    have rd : x = .int i := rd
    have re : y = .int j := re
    exact op_add pins s σ H x y v u Q I rx ry ⟨i, j, rd, re, up_at up rs (d := .int (i + j)) rfl q⟩
  case str.str i j =>
    have rd : x = .str i := rd
    have re : y = .str j := re
    exact op_add_str pins s σ H x y v u Q I rx ry ⟨i, j, rd, re, q.1, up_at up rs (d := .str (i ++ j)) rfl q.2⟩
  case tup.tup i j =>
    obtain ⟨a, xs, ex, hx, r1⟩ := rd
    obtain ⟨b, ys, ey, hy, r2⟩ := re
    obtain ⟨hl, q⟩ := q
    refine op_catA pins s σ H x y v u Q I rx ry ⟨a, b, xs, ys, ex, ey, hx, hy, by rw [RDs.length r1, RDs.length r2]; exact hl, fun e => ?_, fun n e => ?_, fun n m p hp => ?_⟩
    · have ei : i = [] := by
        have := RDs.length r1
        rw [e] at this
        exact List.length_eq_zero_iff.mp this.symm
      subst ei
      exact up_at up rs (d := .tup j) ⟨b, ys, rfl, hy, r2⟩ q
    · have ei : j = [] := by
        have := RDs.length r2
        rw [e] at this
        exact List.length_eq_zero_iff.mp this.symm
      subst ei
      rw [List.append_nil] at q
      exact up_at up rs (d := .tup i) ⟨a, xs, rfl, hx, r1⟩ q
    · exact up_tup up rs hp (RDs.append r1 r2) q
  case ref.ref n m =>
    obtain ⟨xs, ys, h1, h2, hl, q⟩ := q
    obtain ⟨a, vs, ex, _, e1, r1⟩ := lst_at rs h1 rd
    obtain ⟨b, us, ey, _, e2, r2⟩ := lst_at rs h2 re
    exact op_cat pins s σ H x y v u Q I rx ry ⟨a, b, vs, us, ex, ey, e1, e2, by rw [RDs.length r1, RDs.length r2]; exact hl, fun p hp => up_new up rs hp (RDs.append r1 r2) q⟩
theorem rds_rep {K : PySem.W.Frag} {H : Hp} {al : List Addr} {ds : List D} {vs : List V} (r : RDs K H al ds vs) : ∀ n : Nat, RDs K H al (List.replicate n ds).flatten (List.replicate n vs).flatten
  | 0 => rfl
  | n + 1 => by
    rw [List.replicate_succ, List.replicate_succ, List.flatten_cons, List.flatten_cons]
    exact RDs.append r (rds_rep r n)
theorem o_mul : OpR X (binaryOp .Mult) (LL2 (cy X E) rMul) := by
  intro pins s σ H x y v u Q I rx ry ⟨d, e, al, S, kd, xd, rs, rd, re, q, up, ux⟩
  cases d <;> cases e <;> try exact q.elim
  case int.int i j =>
    have rd : x = .int i := rd
    have re : y = .int j := re
    rcases q.1 with h | h
    · exact op_mul pins s σ H x y v u Q I rx ry ⟨i, j, rd, re, h, up_at up rs (d := .int (i * j)) rfl q.2⟩
    · exact op_mulW pins s σ H x y v u Q I rx ry ⟨i, j, rd, re, h, up_at up rs (d := .int (i * j)) rfl q.2⟩
  case ref.int n j =>
    obtain ⟨xs, h1, hj, hj2, hl, q⟩ := q
    obtain ⟨a, vs, ex, _, e1, r1⟩ := lst_at rs h1 rd
    have re : y = .int j := re
    exact op_rep pins s σ H x y v u Q I rx ry ⟨a, j, vs, ex, re, e1, hj2, hj, by rw [RDs.length r1]; exact hl, fun p hp => up_new up rs hp (rds_rep r1 _) q⟩
mutual
theorem DPy.dp {K : PySem.W.Frag} {H : Hp} {al : List Addr} {S : Sto} (rs : RS K H al S) : ∀ (p : PyData) (d : D) (v : V), DPy S d p → RD K H al d v → Dp K H v p
  | .none, _, _, h, r => by cases h; cases (show _ = V.non from r); exact .non
  | .bool b, _, _, h, r => by cases h; cases (show _ = V.bl b from r); exact .bl b
  | .int b, _, _, h, r => by cases h; cases (show _ = V.int b from r); exact .int b
  | .str b, _, _, h, r => by cases h; cases (show _ = V.str b from r); exact .str b
  | .tuple ps, _, _, h, r => by
    cases h with
    | tup hs =>
      obtain ⟨a, vs, e, h1, r1⟩ := r
      subst e
      exact .tup h1 (DPys.dp rs ps _ vs hs r1)
  | .list ps, _, _, h, r => by
    cases h with
    | ref hl hs =>
      obtain ⟨a, vs, e, _, h1, r1⟩ := isL_at rs hl r
      subst e
      exact .lst h1 (DPys.dp rs ps _ vs hs r1)
  | .dict _, _, _, h, _ => by cases h
theorem DPys.dp {K : PySem.W.Frag} {H : Hp} {al : List Addr} {S : Sto} (rs : RS K H al S) : ∀ (p : List PyData) (d : List D) (v : List V), DPys S d p → RDs K H al d v → DpAll K H v p
  | [], _, _, h, r => by cases h; cases (show _ = [] from r); exact .nil
  | p :: ps, _, _, h, r => by
    cases h with
    | cons h1 h2 =>
      obtain ⟨v, u, e, r1, r2⟩ := r
      subst e
      exact .cons (DPy.dp rs p _ v h1 r1) (DPys.dp rs ps _ u h2 r2)
end
theorem o_eq (hu : X.A.units + 64 < cLine) : OpR X (compareOp .Eq) (LL2 (cy X E) rEq) := by
  intro pins s σ H x y v u Q I rx ry ⟨d, e, al, S, kd, xd, rs, rd, re, q, up, ux⟩
  have gen : (∃ p q, DPy S d p ∧ DPy S e q ∧ SeqAt.shaped p = true ∧ SeqAt.shaped q = true ∧ kd (.bl (PyData.eqv p q)) S) → wpAny (model X.prog X.w) X.A (compareOp .Eq v u) (EP X pins σ Q) X.xe s := fun ⟨p, p', h1, h2, s1, s2, q⟩ =>
    op_eqD hu pins s σ H x y v u Q I rx ry ⟨p, p', DPy.dp rs p d x h1 rd, DPy.dp rs p' e y h2 re, s1, s2, up_at up rs (d := .bl (PyData.eqv p p')) rfl q⟩
  cases d <;> cases e <;> try exact gen q
  case int.int i j =>
    have rd : x = .int i := rd
    have re : y = .int j := re
    subst rd re
    refine op_eq pins s σ H _ _ v u Q I rx ry ⟨rfl, ?_⟩
    have e : decide (V.int i = V.int j) = decide (i = j) := by simp
    rw [e]
    exact up_at up rs (d := .bl (decide (i = j))) rfl q
  case str.str i j =>
    have rd : x = .str i := rd
    have re : y = .str j := re
    subst rd re
    refine op_eq pins s σ H _ _ v u Q I rx ry ⟨rfl, ?_⟩
    have e : decide (V.str i = V.str j) = decide (i = j) := by simp
    rw [e]
    exact up_at up rs (d := .bl (decide (i = j))) rfl q
  case bl.bl i j =>
    have rd : x = .bl i := rd
    have re : y = .bl j := re
    subst rd re
    refine op_eq pins s σ H _ _ v u Q I rx ry ⟨rfl, ?_⟩
    have e : decide (V.bl i = V.bl j) = decide (i = j) := by simp
    rw [e]
    exact up_at up rs (d := .bl (decide (i = j))) rfl q
theorem o_ne (hu : X.A.units + 64 < cLine) : OpR X (compareOp .NotEq) (LL2 (cy X E) rNe) := by
  intro pins s σ H x y v u Q I rx ry ⟨d, e, al, S, kd, xd, rs, rd, re, q, up, ux⟩
  have gen : (∃ p q, DPy S d p ∧ DPy S e q ∧ SeqAt.shaped p = true ∧ SeqAt.shaped q = true ∧ kd (.bl (!PyData.eqv p q)) S) → wpAny (model X.prog X.w) X.A (compareOp .NotEq v u) (EP X pins σ Q) X.xe s := fun ⟨p, p', h1, h2, s1, s2, q⟩ =>
    op_neD hu pins s σ H x y v u Q I rx ry ⟨p, p', DPy.dp rs p d x h1 rd, DPy.dp rs p' e y h2 re, s1, s2, up_at up rs (d := .bl (!PyData.eqv p p')) rfl q⟩
  cases d <;> cases e <;> try exact gen q
  case int.int i j =>
    have rd : x = .int i := rd
    have re : y = .int j := re
    subst rd re
    refine op_ne pins s σ H _ _ v u Q I rx ry ⟨rfl, ?_⟩
    have e : decide (V.int i = V.int j) = decide (i = j) := by simp
    rw [e]
    exact up_at up rs (d := .bl (!decide (i = j))) rfl q
  case str.str i j =>
    have rd : x = .str i := rd
    have re : y = .str j := re
    subst rd re
    refine op_ne pins s σ H _ _ v u Q I rx ry ⟨rfl, ?_⟩
    have e : decide (V.str i = V.str j) = decide (i = j) := by simp
    rw [e]
    exact up_at up rs (d := .bl (!decide (i = j))) rfl q
  case bl.bl i j =>
    have rd : x = .bl i := rd
    have re : y = .bl j := re
    subst rd re
    refine op_ne pins s σ H _ _ v u Q I rx ry ⟨rfl, ?_⟩
    have e : decide (V.bl i = V.bl j) = decide (i = j) := by simp
    rw [e]
    exact up_at up rs (d := .bl (!decide (i = j))) rfl q
theorem non_iff {K : PySem.W.Frag} {H : Hp} {al : List Addr} {d : D} {x : V} (r : RD K H al d x) : decide (x = .non) = isNon d := by
  cases d with
  | non => cases (show x = .non from r); rfl
  | bl b => cases (show x = .bl b from r); rfl
  | int b => cases (show x = .int b from r); rfl
  | str b => cases (show x = .str b from r); simp [isNon]
  | tup ds => obtain ⟨a, vs, e, _⟩ := r; subst e; simp [isNon]
  | ref n => obtain ⟨a, e, _⟩ := r; subst e; simp [isNon]
theorem o_is : OpR X (compareOp .Is) (LL2 (cy X E) rIs) := by
  intro pins s σ H x y v u Q I rx ry ⟨d, e, al, S, kd, xd, rs, rd, re, q, up, ux⟩
  cases e <;> try exact q.elim
  case non =>
    refine op_isN pins s σ H x y v u Q I rx ry ⟨re, ?_⟩
    rw [non_iff rd]
    exact up_at up rs (d := .bl (isNon d)) rfl q
  case bl j =>
    cases d <;> try exact q.elim
    case bl i => exact op_is_bl pins s σ H x y v u Q I rx ry ⟨i, j, rd, re, up_at up rs (d := .bl (decide (i = j))) rfl q⟩
theorem o_isNot : OpR X (compareOp .IsNot) (LL2 (cy X E) rIsNot) := by
  intro pins s σ H x y v u Q I rx ry ⟨d, e, al, S, kd, xd, rs, rd, re, q, up, ux⟩
  cases e <;> try exact q.elim
  case non =>
    refine op_notN pins s σ H x y v u Q I rx ry ⟨re, ?_⟩
    rw [non_iff rd]
    exact up_at up rs (d := .bl (!isNon d)) rfl q
  case bl j =>
    cases d <;> try exact q.elim
    case bl i => exact op_isnot_bl pins s σ H x y v u Q I rx ry ⟨i, j, rd, re, up_at up rs (d := .bl (!decide (i = j))) rfl q⟩
theorem flat_v {K : PySem.W.Frag} {H : Hp} {al : List Addr} {d : D} {x : V} (r : RD K H al d x) (f : flatD d = true) : flatV x = true := by
  cases d with
  | non => cases (show x = .non from r); rfl
  | bl b => cases (show x = .bl b from r); rfl
  | int b => cases (show x = .int b from r); rfl
  | str b => cases (show x = .str b from r); rfl
  | tup ds => cases f
  | ref n => cases f
theorem eqF_v {K : PySem.W.Frag} {H : Hp} {al : List Addr} {d e : D} {x y : V} (r : RD K H al d x) (r' : RD K H al e y) (f : flatD d = true) (f' : flatD e = true) : eqV x y = eqF d e := by
  cases d <;> (try cases f) <;> cases e <;> (try cases f') <;> (have r1 : x = _ := r; have r2 : y = _ := r'; subst r1 r2; rfl)
theorem inF_v {K : PySem.W.Frag} {H : Hp} {al : List Addr} {d : D} {x : V} (r : RD K H al d x) (f : flatD d = true) : ∀ {ds : List D} {vs : List V}, RDs K H al ds vs → ds.all flatD = true → vs.all flatV = true ∧ inV x vs = inF d ds
  | [], _, h, _ => by cases (show _ = [] from h); exact ⟨rfl, rfl⟩
  | e :: ds, _, ⟨v, u, e1, h1, h2⟩, g => by
    rw [List.all_cons, Bool.and_eq_true] at g
    subst e1
    obtain ⟨q1, q2⟩ := inF_v r f h2 g.2
    refine ⟨by rw [List.all_cons, flat_v h1 g.1, q1]; rfl, ?_⟩
    show (eqV v x || inV x u) = (eqF e d || inF d ds)
    rw [eqF_v h1 r g.1 f, q2]
theorem o_in : OpR X (compareOp .In) (LL2 (cy X E) rIn) := by
  intro pins s σ H x y v u Q I rx ry ⟨d, e, al, S, kd, xd, rs, rd, re, q, up, ux⟩
  cases e <;> try exact q.elim
  case tup ds =>
    obtain ⟨a, vs, ey, hs, r1⟩ := re
    obtain ⟨f1, f2, q⟩ := q
    obtain ⟨g1, g2⟩ := inF_v rd f1 r1 f2
    refine op_in_seq pins s σ H x y v u Q I rx ry ⟨a, vs, ey, .inr hs, flat_v rd f1, g1, ?_⟩
    show Q (.bl (inV x vs)) H
    rw [g2]
    exact up_at up rs (d := .bl _) rfl q
  case ref n =>
    obtain ⟨ds, hl, f1, f2, q⟩ := q
    obtain ⟨a, vs, ey, _, hs, r1⟩ := isL_at rs hl re
    obtain ⟨g1, g2⟩ := inF_v rd f1 r1 f2
    refine op_in_seq pins s σ H x y v u Q I rx ry ⟨a, vs, ey, .inl hs, flat_v rd f1, g1, ?_⟩
    show Q (.bl (inV x vs)) H
    rw [g2]
    exact up_at up rs (d := .bl _) rfl q
theorem o_notIn : OpR X (compareOp .NotIn) (LL2 (cy X E) rNotIn) := by
  intro pins s σ H x y v u Q I rx ry ⟨d, e, al, S, kd, xd, rs, rd, re, q, up, ux⟩
  cases e <;> try exact q.elim
  case tup ds =>
    obtain ⟨a, vs, ey, hs, r1⟩ := re
    obtain ⟨f1, f2, q⟩ := q
    obtain ⟨g1, g2⟩ := inF_v rd f1 r1 f2
    refine op_notIn_seq pins s σ H x y v u Q I rx ry ⟨a, vs, ey, .inr hs, flat_v rd f1, g1, ?_⟩
    show Q (.bl (!inV x vs)) H
    rw [g2]
    exact up_at up rs (d := .bl _) rfl q
  case ref n =>
    obtain ⟨ds, hl, f1, f2, q⟩ := q
    obtain ⟨a, vs, ey, _, hs, r1⟩ := isL_at rs hl re
    obtain ⟨g1, g2⟩ := inF_v rd f1 r1 f2
    refine op_notIn_seq pins s σ H x y v u Q I rx ry ⟨a, vs, ey, .inl hs, flat_v rd f1, g1, ?_⟩
    show Q (.bl (!inV x vs)) H
    rw [g2]
    exact up_at up rs (d := .bl _) rfl q
end
end Q
namespace Q
open PySem
open Spec PyProof.Rows L2

/-! ### types -/
inductive Ty | non | bool | int | str | tuple | list | dict
  deriving DecidableEq
def Ty.name : Ty → String
  | .non => "NoneType" | .bool => "bool" | .int => "int" | .str => "str" | .tuple => "tuple" | .list => "list" | .dict => "dict"
/-- is a thing of the first type one of the second -/
def isTy : Ty → Ty → Bool
  | .bool, .int => true
  | .non, .non => true
  | .bool, .bool => true
  | .int, .int => true
  | .str, .str => true
  | .tuple, .tuple => true
  | .list, .list => true
  | .dict, .dict => true
  | _, _ => false
theorem kitB_ty : ∀ a b : Ty, b ≠ .non → kitB a.name b.name = some (isTy a b) := by
  intro a b h
  cases b <;> (first | exact absurd rfl h | (cases a <;> decide +kernel))
/-- the kind of an object of the store -/
def tyR (S : Sto) (n : Nat) : Option Ty := match S[n]? with
  | some (.lst _) => some .list
  | some (.ro _) => some .list
  | some (.dic _) => some .dict
  | _ => none
def rIsi (T : Ty) : R1D := fun d S k _ => match d with
  | .non => k (.bl (isTy .non T)) S
  | .bl _ => k (.bl (isTy .bool T)) S
  | .int _ => k (.bl (isTy .int T)) S
  | .str _ => k (.bl (isTy .str T)) S
  | .tup _ => k (.bl (isTy .tuple T)) S
  | .ref n => ∃ t, tyR S n = some t ∧ k (.bl (isTy t T)) S
def rIsi2 (T U : Ty) : R1D := fun d S k _ => match d with
  | .non => k (.bl (isTy .non T || isTy .non U)) S
  | .bl _ => k (.bl (isTy .bool T || isTy .bool U)) S
  | .int _ => k (.bl (isTy .int T || isTy .int U)) S
  | .str _ => k (.bl (isTy .str T || isTy .str U)) S
  | .tup _ => k (.bl (isTy .tuple T || isTy .tuple U)) S
  | .ref n => ∃ t, tyR S n = some t ∧ k (.bl (isTy t T || isTy t U)) S
section
variable {X : Cx} {E : XK} {e : Expr} {te : TED} {pos p p2 p3 : Pos}
theorem tyx_of {K : PySem.W.Frag} {H : Hp} {al : List Addr} {S : Sto} {d : D} {x : V} (rs : RS K H al S) (r : RD K H al d x) {R : Ty → Prop}
    (h : match d with | .non => R .non | .bl _ => R .bool | .int _ => R .int | .str _ => R .str | .tup _ => R .tuple | .ref n => ∃ t, tyR S n = some t ∧ R t) :
    ∃ t, TyX K H x (.type (Ty.name t)) ∧ R t := by
  cases d with
  | non => cases (show x = .non from r); exact ⟨.non, .base .non, h⟩
  | bl b => cases (show x = .bl b from r); exact ⟨.bool, .base (.bl b), h⟩
  | int b => cases (show x = .int b from r); exact ⟨.int, .base (.int b), h⟩
  | str b => cases (show x = .str b from r); exact ⟨.str, .base (.str b), h⟩
  | tup ds =>
    obtain ⟨a, vs, e, hs, _⟩ := r
    subst e
    refine ⟨.tuple, ?_, h⟩
    rcases hs with (hs | ⟨o, hs⟩) | ⟨o, its, n, lk, hc, _⟩
    · exact .base (.tup hs)
    · exact .fTuple hs
    · exact .kTuple lk hc
  | ref n =>
    obtain ⟨a, e, ha⟩ := r
    subst e
    obtain ⟨t, ht, h⟩ := h
    unfold tyR at ht
    cases eS : S[n]? with
    | none => rw [eS] at ht; cases ht
    | some o =>
      rw [eS] at ht
      have ro := rs.ob n o a eS ha
      cases o with
      | lst ds =>
        cases ht
        obtain ⟨vs, e1, _⟩ := ro
        exact ⟨.list, .base (.lst e1), h⟩
      | ro ds =>
        cases ht
        obtain ⟨vs, e1, _⟩ := ro
        rcases e1 with ⟨o, e1⟩ | ⟨o, its, m, lk, hc, _⟩
        · exact ⟨.list, .base (.frz e1), h⟩
        · exact ⟨.list, .kList lk hc, h⟩
      | dic ds =>
        cases ht
        obtain ⟨vs, e1, _⟩ := ro
        exact ⟨.dict, .base (.dK e1), h⟩
      | oth => cases ht
theorem q_isi {T : Str} (t : Ty) (ht : t ≠ .non) (he : QE X E e te) (hg : Gl X "isinstance") (hm : X.mg "isinstance" = none) (gT : Gl X T) (mT : X.mg T = none) (bT : bootBuiltins T = some (.type t.name)) (hn : T ≠ "__name__" := by decide) (hd : (T == ("__debug__" : Str)) = false := by decide)
    (hs1 : starEach [e, .Name T p2] X.env = (false, eval e X.env) :: starEach [.Name T p2] X.env := by rfl) (hs2 : starEach [.Name T p2] X.env = (false, eval (.Name T p2) X.env) :: starEach [] X.env := by rfl) (hpl : (backTo pos (starEach [.Name T p2] X.env)).any (·.1) = false := by rfl) :
    QE X E (.Call (.Name "isinstance" p) [e, .Name T p2] [] pos) (dUn (rIsi t) te) := by
  refine pe_imp (pe_callB call_isi hg hm boot_isinstance (pa_cons he (pa_cons (pe_bltn (v := .ty t.name) gT mT bT rfl hn hd) pa_nil hs2) hs1) (by decide) (by decide) hs1 hpl) fun s H Q ⟨sg, al, S, kd, xd, rs, rl, q, up, ux⟩ => ?_
  refine ⟨sg, al, S, _, xd, rs, rl, q, fun d S1 al1 H1 v f1 r1 q1 => ?_, ux⟩
  obtain ⟨t', h1, h2⟩ := tyx_of (R := fun t' => kd (.bl (isTy t' t)) S1) f1.rs r1 (by cases d <;> exact q1)
  exact ⟨v, .ty t.name, .type t'.name, .type t.name, isTy t' t, rfl, .ty _, h1, kit_ty (kitB_ty t' t ht), (up.mono f1) (.bl (isTy t' t)) S1 al1 H1 _ (.now f1.rs) rfl h2⟩
theorem q_isi2 {T U : Str} (t u : Ty) (ht : t ≠ .non) (hu : u ≠ .non) {k0 : Nat} (he : QE X E e te) (hg : Gl X "isinstance") (hm : X.mg "isinstance" = none) (gT : Gl X T) (mT : X.mg T = none) (bT : bootBuiltins T = some (.type t.name)) (gU : Gl X U) (mU : X.mg U = none) (bU : bootBuiltins U = some (.type u.name))
    (hn : T ≠ "__name__" := by decide) (hd : (T == ("__debug__" : Str)) = false := by decide) (hn' : U ≠ "__name__" := by decide) (hd' : (U == ("__debug__" : Str)) = false := by decide) {pt : Pos}
    (hs1 : starEach [e, .Tuple [.Name T p2, .Name U p3] k0 pt] X.env = (false, eval e X.env) :: starEach [.Tuple [.Name T p2, .Name U p3] k0 pt] X.env := by rfl) (hs2 : starEach [.Tuple [.Name T p2, .Name U p3] k0 pt] X.env = (false, eval (.Tuple [.Name T p2, .Name U p3] k0 pt) X.env) :: starEach [] X.env := by rfl)
    (hs3 : starEach [.Name T p2, .Name U p3] X.env = (false, eval (.Name T p2) X.env) :: starEach [.Name U p3] X.env := by rfl) (hs4 : starEach [.Name U p3] X.env = (false, eval (.Name U p3) X.env) :: starEach [] X.env := by rfl)
    (hpl : (backTo pos (starEach [.Tuple [.Name T p2, .Name U p3] k0 pt] X.env)).any (·.1) = false := by rfl) :
    QE X E (.Call (.Name "isinstance" p) [e, .Tuple [.Name T p2, .Name U p3] k0 pt] [] pos) (dUn (rIsi2 t u) te) := by
  refine pe_imp (pe_callB call_isiT hg hm boot_isinstance (pa_cons he (pa_cons (pe_tup (pa_cons (pe_bltn (v := .ty t.name) gT mT bT rfl hn hd) (pa_cons (pe_bltn (v := .ty u.name) gU mU bU rfl hn' hd') pa_nil hs4) hs3)) pa_nil hs2) hs1) (by decide) (by decide) hs1 hpl) fun s H Q ⟨sg, al, S, kd, xd, rs, rl, q, up, ux⟩ => ?_
  refine ⟨sg, al, S, _, xd, rs, rl, q, fun d S1 al1 H1 v f1 r1 q1 => ?_, ux⟩
  refine ⟨by show 2 ≤ sizeLine; decide, fun tp hp => ?_⟩
  have f2 : Fut X.K H1 al1 (upd H1 tp (.tup [V.ty t.name, V.ty u.name])) al1 S1 := Fut.lay f1.rs hp
  obtain ⟨t', h1, h2⟩ := tyx_of (R := fun t' => kd (.bl (isTy t' t || isTy t' u)) S1) f2.rs (f2.rd r1) (by cases d <;> exact q1)
  refine ⟨v, tp, [.ty t.name, .ty u.name], .type t'.name, [.type t.name, .type u.name], (isTy t' t || isTy t' u), rfl, upd_same, .cons (.ty _) (.cons (.ty _) .nil), h1, ?_, up (.bl (isTy t' t || isTy t' u)) S1 al1 _ _ (f1.trans f2) rfl h2⟩
  refine kitAny_cons (kit_ty (kitB_ty t' t ht)) (fun e0 => ?_) (fun e0 => by rw [e0]; rfl)
  rw [e0]
  exact kitAny_cons (kit_ty (kitB_ty t' u hu)) (fun e1 => by rw [e1]; rfl) (fun e1 => by rw [e1]; rfl)
end

/-! ### subscripts, slices -/
def rIx : R2D := fun d e S k _ => match d, e with
  | .tup ds, .int i => ∃ x, atI ds i = some x ∧ k x S
  | .ref n, .int i => ∃ ds x, isL S n ds ∧ atI ds i = some x ∧ k x S
  | .str z, .int i => z.length ≤ sizeLine ∧ ∃ c, atI z.cps.toList i = some c ∧ k (.str ⟨#[c]⟩) S
  | _, _ => False
abbrev TOD := Sl → Sto → (Option Int → Sto → Prop) → XD → Prop
def LO (Y : Cy) (t : TOD) : TO := fun sv H Q => ∃ sg al S kd xd, RS Y.K H al S ∧ RSl Y.K H al sg sv ∧ t sg S kd xd ∧ (∀ o S' al' H', Fut Y.K H al H' al' S' → kd o S' → Q o H') ∧ UpX Y H al xd
def dNoP : TOD := fun _ S k _ => k none S
def kPart (k : Option Int → Sto → Prop) : KD := fun d S => match d with
  | .int i => k (some i) S
  | _ => False
def dPart (t : TED) : TOD := fun sg S k x => t sg S (kPart k) x
def cutD (ds : List D) (lo hi : Option Int) : List D := (ds.drop (HT.sIx ds.length 0 lo)).take (HT.sIx ds.length ds.length hi - HT.sIx ds.length 0 lo)
abbrev RSlD := D → Option Int → Option Int → Sto → KD → XD → Prop
def rSl : RSlD := fun d lo hi S k _ => match d with
  | .tup ds => k (.tup (cutD ds lo hi)) S
  | .ref n => ∃ ds, isL S n ds ∧ k (.ref S.length) (S ++ [.lst (cutD ds lo hi)])
  | .str z => z.length ≤ sizeLine ∧ k (.str (cutS z lo hi)) S
  | _ => False
def kSl3 (k : KD) (x : XD) (d : D) (lo : Option Int) : Option Int → Sto → Prop := fun hi S => rSl d lo hi S k x
def kSl2 (th : TOD) (sg : Sl) (k : KD) (x : XD) (d : D) : Option Int → Sto → Prop := fun lo S => th sg S (kSl3 k x d lo) x
def kSl1 (tl th : TOD) (sg : Sl) (k : KD) (x : XD) : KD := fun d S => tl sg S (kSl2 th sg k x d) x
def dSl (te : TED) (tl th : TOD) : TED := fun sg S k x => te sg S (kSl1 tl th sg k x) x
section
variable {X : Cx} {E : XK} {a b e : Expr} {ta tb te : TED} {pos p2 : Pos} {lo hi : Option Expr} {tl th : TOD}
theorem atI_rd {K : PySem.W.Frag} {H : Hp} {al : List Addr} {ds : List D} {vs : List V} {i : Int} {d : D} (r : RDs K H al ds vs) (h : atI ds i = some d) : ∃ v, atI vs i = some v ∧ RD K H al d v := by
  unfold atI at h ⊢
  rw [RDs.length r]
  cases e : ixN ds.length i with
  | none => rw [e] at h; cases h
  | some j =>
    rw [e] at h
    exact RDs.get r h
theorem o_ix : IxR X (LL2 (cy X E) rIx) := by
  intro value slice pins s σ H x y v u Q I rx ry ⟨d, e, al, S, kd, xd, rs, rd, re, q, up, ux⟩ hs
  cases d <;> cases e <;> try exact q.elim
  case tup.int ds i =>
    obtain ⟨z, hz, q⟩ := q
    obtain ⟨a, vs, e1, h1, r1⟩ := rd
    obtain ⟨w, hw, rw'⟩ := atI_rd r1 hz
    exact ix_tup value slice pins s σ H x y v u Q I rx ry ⟨a, vs, i, w, e1, re, h1, hw, up_at up rs rw' q⟩ hs
  case ref.int n i =>
    obtain ⟨ds, z, hl, hz, q⟩ := q
    obtain ⟨a, vs, e1, _, h1, r1⟩ := isL_at rs hl rd
    obtain ⟨w, hw, rw'⟩ := atI_rd r1 hz
    exact ix_list value slice pins s σ H x y v u Q I rx ry ⟨a, vs, i, w, e1, re, h1, hw, up_at up rs rw' q⟩ hs
  case str.int z i =>
    obtain ⟨hz, c, hc, q⟩ := q
    exact ix_str value slice pins s σ H x y v u Q I rx ry ⟨z, i, c, rd, re, hz, hc, up_at up rs (d := .str ⟨#[c]⟩) rfl q⟩ hs
theorem q_ix (ha : QE X E a ta) (hb : QE X E b tb) (hs : PlainIx b := by intro _ _; rfl) : QE X E (.Subscript a b pos) (dOp rIx ta tb) :=
  pe_imp (pe_ix o_ix ha hb hs) fun s H Q ⟨sg, al, S, kd, xd, rs, rl, q, up, ux⟩ => ⟨sg, al, S, kOp1 rIx tb sg kd xd, xd, rs, rl, q,
    fun d1 S1 al1 H1 v1 f1 r1 q1 => ⟨sg, al1, S1, kOp2 rIx kd xd d1, xd, f1.rs, f1.rsl rl, q1, fun d2 S2 al2 H2 v2 f2 r2 q2 =>
      ⟨d1, d2, al2, S2, kd, xd, f2.rs, f2.rd r1, r2, q2, up.mono (f1.trans f2), ux.mono (f1.trans f2)⟩, ux.mono f1⟩, ux⟩
abbrev QO (X : Cx) (E : XK) (e : Option Expr) (t : TOD) : Prop := PO X e (LO (cy X E) t)
theorem po_imp {e : Option Expr} {t t' : TO} (h : PO X e t) (f : ∀ s H Q, t' s H Q → t s H Q) : PO X e t' := ⟨fun pins s σ H Q I q => h.run pins s σ H Q I (f σ H Q q)⟩
theorem q_noP : QO X E none dNoP := po_imp po_none fun s H Q ⟨sg, al, S, kd, xd, rs, rl, q, up, ux⟩ => up none S al H (.now rs) q
theorem q_part (h : QE X E e te) : QO X E (some e) (dPart te) := po_imp (po_some h) fun s H Q ⟨sg, al, S, kd, xd, rs, rl, q, up, ux⟩ => ⟨sg, al, S, kPart kd, xd, rs, rl, q, fun d S1 al1 H1 v f1 r1 q1 => by
  cases d with
  | int i => exact ⟨i, r1, up (some i) S1 al1 H1 f1 q1⟩
  | _ => exact q1.elim, ux⟩
def LLsl (Y : Cy) (r : RSlD) : V → Option Int → Option Int → Hp → VK → Prop := fun x lo hi H Q => ∃ d al S kd xd, RS Y.K H al S ∧ RD Y.K H al d x ∧ r d lo hi S kd xd ∧ Up Y.K H al kd Q ∧ UpX Y H al xd
theorem cut_rd {K : PySem.W.Frag} {H : Hp} {al : List Addr} {ds : List D} {vs : List V} (r : RDs K H al ds vs) (lo hi : Option Int) : RDs K H al (cutD ds lo hi) (cutV vs lo hi) := by
  unfold cutD cutV
  rw [RDs.length r]
  exact RDs.take _ (RDs.drop _ r)
theorem o_sl : SlR X (LLsl (cy X E) rSl) := by
  intro pins s σ H x v vl vu lo hi sl Q I rx hs pl pu ⟨d, al, S, kd, xd, rs, rd, q, up, ux⟩
  cases d <;> try exact q.elim
  case tup ds =>
    obtain ⟨a, vs, e1, h1, r1⟩ := rd
    refine sl_tupA pins s σ H x v vl vu lo hi sl Q I rx hs pl pu ⟨a, vs, e1, h1, fun hw => ?_, fun hw p hp => up_tup up rs hp (cut_rd r1 lo hi) q⟩
    have e : cutD ds lo hi = ds := by
      unfold cutD
      rw [RDs.length r1] at hw
      rw [hw.1, hw.2]
      simp
    have q : kd (.tup (cutD ds lo hi)) S := q
    rw [e] at q
    exact up_at up rs (d := .tup ds) ⟨a, vs, rfl, h1, r1⟩ q
  case ref n =>
    obtain ⟨ds, hl, q⟩ := q
    obtain ⟨a, vs, e1, _, h1, r1⟩ := isL_at rs hl rd
    exact sl_list pins s σ H x v vl vu lo hi sl Q I rx hs pl pu ⟨a, vs, e1, h1, fun p hp => up_new up rs hp (cut_rd r1 lo hi) q⟩
  case str z =>
    exact sl_str pins s σ H x v vl vu lo hi sl Q I rx hs pl pu ⟨z, rd, q.1, up_at up rs (d := .str (cutS z lo hi)) rfl q.2⟩
theorem q_slice (he : QE X E e te) (hl : QO X E lo tl) (hu : QO X E hi th) : QE X E (.Subscript e (.Slice lo hi none p2) pos) (dSl te tl th) :=
  pe_imp (pe_slice (o_sl (E := E)) he hl hu) fun s H Q ⟨sg, al, S, kd, xd, rs, rl, q, up, ux⟩ => ⟨sg, al, S, kSl1 tl th sg kd xd, xd, rs, rl, q,
    fun d1 S1 al1 H1 v1 f1 r1 q1 => ⟨sg, al1, S1, kSl2 th sg kd xd d1, xd, f1.rs, f1.rsl rl, q1, fun l S2 al2 H2 f2 q2 =>
      ⟨sg, al2, S2, kSl3 kd xd d1 l, xd, f2.rs, (f1.trans f2).rsl rl, q2, fun u S3 al3 H3 f3 q3 => ⟨d1, al3, S3, kd, xd, f3.rs, (f2.trans f3).rd r1, q3, up.mono ((f1.trans f2).trans f3), ux.mono ((f1.trans f2).trans f3)⟩, ux.mono (f1.trans f2)⟩, ux.mono f1⟩, ux⟩
end

/-! ### built-ins by values -/
def spLen : SpD := fun ds S k _ => match ds with
  | [.tup xs] => k (.int xs.length) S
  | [.ref n] => ∃ xs, isL S n xs ∧ k (.int xs.length) S
  | [.str z] => z.length ≤ sizeLine ∧ k (.int z.length) S
  | _ => False
def spInt : SpD := fun ds S k _ => match ds with
  | [.int i] => k (.int i) S
  | [.bl b] => k (.int (if b then 1 else 0)) S
  | _ => False
def spTuple : SpD := fun ds S k _ => match ds with
  | [.tup xs] => k (.tup xs) S
  | [.ref n] => ∃ xs, isL S n xs ∧ k (.tup xs) S
  | _ => False
def spList : SpD := fun ds S k _ => match ds with
  | [.tup xs] => k (.ref S.length) (S ++ [.lst xs])
  | [.ref n] => ∃ xs, isL S n xs ∧ k (.ref S.length) (S ++ [.lst xs])
  | _ => False
def spAll : SpD := fun ds S k _ => match ds with
  | [.ref n] => ∃ bs : List Bool, isL S n (bs.map D.bl) ∧ k (.bl (bs.all id)) S
  | _ => False
def spAny : SpD := fun ds S k _ => match ds with
  | [.ref n] => ∃ bs : List Bool, isL S n (bs.map D.bl) ∧ k (.bl (bs.any id)) S
  | _ => False
def spSum : SpD := fun ds S k _ => match ds with
  | [.ref n] => ∃ ns : List Int, isL S n (ns.map D.int) ∧ k (.int ns.sum) S
  | _ => False
def spSorted : SpD := fun ds S k _ => match ds with
  | [.ref n] => ∃ ns : List Int, isL S n (ns.map D.int) ∧ ∀ ms : List Int, ms.Perm ns → ms.Pairwise (· ≤ ·) → k (.ref S.length) (S ++ [.lst (ms.map D.int)])
  | _ => False
def spAbs : SpD := fun ds S k _ => match ds with
  | [.int i] => k (.int (if i < 0 then -i else i)) S
  | _ => False
def spMax : SpD := fun ds S k _ => match ds with
  | [.int i, .int j] => k (.int (if j > i then j else i)) S
  | [.ref n] => ∃ ns : List Int, isL S n (ns.map D.int) ∧ 0 < ns.length ∧ ∀ m, m ∈ ns → (∀ y, y ∈ ns → y ≤ m) → k (.int m) S
  | _ => False
def spMin : SpD := fun ds S k _ => match ds with
  | [.int i, .int j] => k (.int (if j < i then j else i)) S
  | [.int i, .int j, .int l] => k (.int (if l < (if j < i then j else i) then l else if j < i then j else i)) S
  | [.ref n] => ∃ ns : List Int, isL S n (ns.map D.int) ∧ 0 < ns.length ∧ ∀ m, m ∈ ns → (∀ y, y ∈ ns → m ≤ y) → k (.int m) S
  | _ => False
section
variable {X : Cx} {E : XK} {e : Expr} {es : List Expr} {tr : TAD} {pos p : Pos}
theorem rds1 {K : PySem.W.Frag} {H : Hp} {al : List Addr} {d : D} {vs : List V} (r : RDs K H al [d] vs) : ∃ v, vs = [v] ∧ RD K H al d v := by
  obtain ⟨v, u, e, h1, h2⟩ := r
  cases (show u = [] from h2)
  exact ⟨v, e, h1⟩
theorem rds2 {K : PySem.W.Frag} {H : Hp} {al : List Addr} {d d' : D} {vs : List V} (r : RDs K H al [d, d'] vs) : ∃ v v', vs = [v, v'] ∧ RD K H al d v ∧ RD K H al d' v' := by
  obtain ⟨v, u, e, h1, h2⟩ := r
  obtain ⟨v', e', h3⟩ := rds1 h2
  subst e'
  exact ⟨v, v', e, h1, h3⟩
theorem rd_ints {K : PySem.W.Frag} {H : Hp} {al : List Addr} : ∀ {ns : List Int} {vs : List V}, RDs K H al (ns.map D.int) vs → vs = ns.map V.int
  | [], _, h => h
  | n :: ns, _, ⟨v, u, e, h1, h2⟩ => by
    rw [e, rd_ints h2, show v = .int n from h1]
    rfl
theorem ints_rd {K : PySem.W.Frag} {H : Hp} {al : List Addr} : ∀ (ns : List Int), RDs K H al (ns.map D.int) (ns.map V.int)
  | [] => rfl
  | n :: ns => ⟨_, _, rfl, rfl, ints_rd ns⟩
theorem rd_bls {K : PySem.W.Frag} {H : Hp} {al : List Addr} : ∀ {ns : List Bool} {vs : List V}, RDs K H al (ns.map D.bl) vs → vs = ns.map V.bl
  | [], _, h => h
  | n :: ns, _, ⟨v, u, e, h1, h2⟩ => by
    rw [e, rd_bls h2, show v = .bl n from h1]
    rfl
theorem c_len : CallR X (.builtin "len") (LLs (cy X E) spLen) := by
  intro pins s σ H xs us Q I r ⟨ds, al, S, kd, xd, rs, rd, q, up, ux⟩
  unfold spLen at q
  split at q
  · obtain ⟨v, e, a, vs, e2, h1, r1⟩ := rds1 rd
    subst e e2
    refine call_len_seq pins s σ H _ us Q I r ⟨a, vs, rfl, .inr h1, ?_⟩
    rw [RDs.length r1]
    exact up_at up rs (d := .int _) rfl q
  · obtain ⟨xs, hl, q⟩ := q
    obtain ⟨v, e, rv⟩ := rds1 rd
    obtain ⟨a, vs, e2, _, h1, r1⟩ := isL_at rs hl rv
    subst e e2
    refine call_len_seq pins s σ H _ us Q I r ⟨a, vs, rfl, .inl h1, ?_⟩
    rw [RDs.length r1]
    exact up_at up rs (d := .int _) rfl q
  · obtain ⟨v, e, rv⟩ := rds1 rd
    cases (show v = _ from rv)
    subst e
    exact call_len_str pins s σ H _ us Q I r ⟨_, rfl, q.1, up_at up rs (d := .int _) rfl q.2⟩
  · exact q.elim
theorem c_int : CallR X (.type "int") (LLs (cy X E) spInt) := by
  intro pins s σ H xs us Q I r ⟨ds, al, S, kd, xd, rs, rd, q, up, ux⟩
  unfold spInt at q
  split at q
  · obtain ⟨v, e, rv⟩ := rds1 rd
    cases (show v = _ from rv)
    subst e
    exact call_int1 pins s σ H _ us Q I r (.inl ⟨_, rfl, up_at up rs (d := .int _) rfl q⟩)
  · obtain ⟨v, e, rv⟩ := rds1 rd
    cases (show v = _ from rv)
    subst e
    exact call_int1 pins s σ H _ us Q I r (.inr ⟨_, rfl, up_at up rs (d := .int _) rfl q⟩)
  · exact q.elim
theorem c_tuple : CallR X (.type "tuple") (LLs (cy X E) spTuple) := by
  intro pins s σ H xs us Q I r ⟨ds, al, S, kd, xd, rs, rd, q, up, ux⟩
  unfold spTuple at q
  split at q
  · obtain ⟨v, e, a, vs, e2, h1, r1⟩ := rds1 rd
    subst e e2
    exact call_tuple_of pins s σ H _ us Q I r ⟨a, vs, rfl, .inr ⟨h1, up_at up rs (d := .tup _) ⟨a, vs, rfl, h1, r1⟩ q⟩⟩
  · obtain ⟨xs, hl, q⟩ := q
    obtain ⟨v, e, rv⟩ := rds1 rd
    obtain ⟨a, vs, e2, _, h1, r1⟩ := isL_at rs hl rv
    subst e e2
    exact call_tuple_of pins s σ H _ us Q I r ⟨a, vs, rfl, .inl ⟨h1, fun l hl => up_tup up rs hl r1 q⟩⟩
  · exact q.elim
theorem c_list : CallR X (.type "list") (LLs (cy X E) spList) := by
  intro pins s σ H xs us Q I r ⟨ds, al, S, kd, xd, rs, rd, q, up, ux⟩
  unfold spList at q
  split at q
  · obtain ⟨v, e, a, vs, e2, h1, r1⟩ := rds1 rd
    subst e e2
    exact call_list_of pins s σ H _ us Q I r ⟨a, vs, rfl, .inr h1, fun l hl => up_new up rs hl r1 q⟩
  · obtain ⟨xs, hl, q⟩ := q
    obtain ⟨v, e, rv⟩ := rds1 rd
    obtain ⟨a, vs, e2, _, h1, r1⟩ := isL_at rs hl rv
    subst e e2
    exact call_list_of pins s σ H _ us Q I r ⟨a, vs, rfl, .inl h1, fun l hl => up_new up rs hl r1 q⟩
  · exact q.elim
theorem c_all (hc : X.calm = true) : CallR X (.builtin "all") (LLs (cy X E) spAll) := by
  intro pins s σ H xs us Q I r ⟨ds, al, S, kd, xd, rs, rd, q, up, ux⟩
  unfold spAll at q
  split at q
  · obtain ⟨bs, hl, q⟩ := q
    obtain ⟨v, e, rv⟩ := rds1 rd
    obtain ⟨a, vs, e2, _, h1, r1⟩ := isL_at rs hl rv
    have e3 := rd_bls r1
    subst e e2 e3
    exact cr_all hc pins s σ H _ us Q I r ⟨a, bs, rfl, h1, up_at up rs (d := .bl _) rfl q⟩
  · exact q.elim
theorem c_any (hc : X.calm = true) : CallR X (.builtin "any") (LLs (cy X E) spAny) := by
  intro pins s σ H xs us Q I r ⟨ds, al, S, kd, xd, rs, rd, q, up, ux⟩
  unfold spAny at q
  split at q
  · obtain ⟨bs, hl, q⟩ := q
    obtain ⟨v, e, rv⟩ := rds1 rd
    obtain ⟨a, vs, e2, _, h1, r1⟩ := isL_at rs hl rv
    have e3 := rd_bls r1
    subst e e2 e3
    exact cr_any hc pins s σ H _ us Q I r ⟨a, bs, rfl, h1, up_at up rs (d := .bl _) rfl q⟩
  · exact q.elim
theorem c_sum (hc : X.calm = true) : CallR X (.builtin "sum") (LLs (cy X E) spSum) := by
  intro pins s σ H xs us Q I r ⟨ds, al, S, kd, xd, rs, rd, q, up, ux⟩
  unfold spSum at q
  split at q
  · obtain ⟨bs, hl, q⟩ := q
    obtain ⟨v, e, rv⟩ := rds1 rd
    obtain ⟨a, vs, e2, _, h1, r1⟩ := isL_at rs hl rv
    have e3 := rd_ints r1
    subst e e2 e3
    exact cr_sum hc pins s σ H _ us Q I r ⟨a, bs, rfl, h1, up_at up rs (d := .int _) rfl q⟩
  · exact q.elim
theorem c_sorted : CallR X (.builtin "sorted") (LLs (cy X E) spSorted) := by
  intro pins s σ H xs us Q I r ⟨ds, al, S, kd, xd, rs, rd, q, up, ux⟩
  unfold spSorted at q
  split at q
  · obtain ⟨bs, hl, q⟩ := q
    obtain ⟨v, e, rv⟩ := rds1 rd
    obtain ⟨a, vs, e2, _, h1, r1⟩ := isL_at rs hl rv
    have e3 := rd_ints r1
    subst e e2 e3
    exact cr_sortedI pins s σ H _ us Q I r ⟨a, bs, rfl, h1, fun ms p hp hs hn => up_new up rs hn (ints_rd ms) (q ms hp hs)⟩
  · exact q.elim
theorem c_abs : CallR X (.builtin "abs") (LLs (cy X E) spAbs) := by
  intro pins s σ H xs us Q I r ⟨ds, al, S, kd, xd, rs, rd, q, up, ux⟩
  unfold spAbs at q
  split at q
  · obtain ⟨v, e, rv⟩ := rds1 rd
    cases (show v = _ from rv)
    subst e
    exact call_abs pins s σ H _ us Q I r ⟨_, rfl, up_at up rs (d := .int _) rfl q⟩
  · exact q.elim
theorem c_max (hc : X.calm = true) : CallR X (.builtin "max") (LLs (cy X E) spMax) := by
  intro pins s σ H xs us Q I r ⟨ds, al, S, kd, xd, rs, rd, q, up, ux⟩
  unfold spMax at q
  split at q
  · obtain ⟨v, v', e, rv, rv'⟩ := rds2 rd
    cases (show v = _ from rv)
    cases (show v' = _ from rv')
    subst e
    exact call_max2 hc pins s σ H _ us Q I r ⟨_, _, rfl, up_at up rs (d := .int _) rfl q⟩
  · obtain ⟨bs, hl, h0, q⟩ := q
    obtain ⟨v, e, rv⟩ := rds1 rd
    obtain ⟨a, vs, e2, _, h1, r1⟩ := isL_at rs hl rv
    have e3 := rd_ints r1
    subst e e2 e3
    exact cr_max hc pins s σ H _ us Q I r ⟨a, bs, rfl, h1, h0, fun m hm hy => up_at up rs (d := .int m) rfl (q m hm hy)⟩
  · exact q.elim
theorem c_min (hc : X.calm = true) : CallR X (.builtin "min") (LLs (cy X E) spMin) := by
  intro pins s σ H xs us Q I r ⟨ds, al, S, kd, xd, rs, rd, q, up, ux⟩
  unfold spMin at q
  split at q
  · obtain ⟨v, v', e, rv, rv'⟩ := rds2 rd
    cases (show v = _ from rv)
    cases (show v' = _ from rv')
    subst e
    exact call_min2 hc pins s σ H _ us Q I r ⟨_, _, rfl, up_at up rs (d := .int _) rfl q⟩
  · obtain ⟨v, vs, e, rv, rt⟩ := rd
    obtain ⟨v', v'', e', rv', rv''⟩ := rds2 rt
    cases (show v = _ from rv)
    cases (show v' = _ from rv')
    cases (show v'' = _ from rv'')
    subst e'
    subst e
    have mi : ∀ i j : Int, nuMin2 (.int i) (.int j) = some (.int (if j < i then j else i)) := fun i j => by
      show some (if decide (j < i) = true then V.int j else V.int i) = _
      by_cases h : j < i <;> simp [h]
    exact call_min3Nu hc pins s σ H _ us Q I r ⟨_, _, _, _, rfl, by unfold nuMin3; rw [mi]; exact mi _ _, up_at up rs (d := .int _) rfl q⟩
  · obtain ⟨bs, hl, h0, q⟩ := q
    obtain ⟨v, e, rv⟩ := rds1 rd
    obtain ⟨a, vs, e2, _, h1, r1⟩ := isL_at rs hl rv
    have e3 := rd_ints r1
    subst e e2 e3
    exact cr_min hc pins s σ H _ us Q I r ⟨a, bs, rfl, h1, h0, fun m hm hy => up_at up rs (d := .int m) rfl (q m hm hy)⟩
  · exact q.elim
end

/-! ### methods of lists -/
abbrev RMD := D → List D → Sto → KD → XD → Prop
def rApp : RMD := fun d ds S k _ => match d, ds with
  | .ref n, [y] => ∃ xs, S[n]? = some (.lst xs) ∧ xs.length < sizeLine ∧ k .non (S.set n (.lst (xs ++ [y])))
  | _, _ => False
def rPop0 : RMD := fun d ds S k _ => match d, ds with
  | .ref n, [] => ∃ xs y, S[n]? = some (.lst xs) ∧ xs[xs.length - 1]? = some y ∧ k y (S.set n (.lst xs.dropLast))
  | _, _ => False
def rPop1 : RMD := fun d ds S k _ => match d, ds with
  | .ref n, [.int i] => ∃ xs j y, S[n]? = some (.lst xs) ∧ -(2 ^ 63) ≤ i ∧ i < 2 ^ 63 ∧ seqIndex? i xs.length = some j ∧ xs[j]? = some y ∧ k y (S.set n (.lst (xs.eraseIdx j)))
  | _, _ => False
def rRev : RMD := fun d ds S k _ => match d, ds with
  | .ref n, [] => ∃ xs, S[n]? = some (.lst xs) ∧ k .non (S.set n (.lst xs.reverse))
  | _, _ => False
def isLst (S : Sto) (d : D) : Prop := match d with
  | .ref n => ∃ ds, isL S n ds
  | _ => False
def kM2 (r : RMD) (k : KD) (x : XD) (d : D) : List D → Sto → Prop := fun ds S => r d ds S k x
def kM1 (r : RMD) (ta : TAD) (sg : Sl) (k : KD) (x : XD) : KD := fun d S => isLst S d ∧ ta sg S (kM2 r k x d) x
/-- a list's method -/
def dMet (r : RMD) (to : TED) (ta : TAD) : TED := fun sg S k x => to sg S (kM1 r ta sg k x) x
def LLm (Y : Cy) (r : RMD) : V → List V → Hp → VK → Prop := fun x vs H Q => ∃ d ds al S kd xd, RS Y.K H al S ∧ RD Y.K H al d x ∧ RDs Y.K H al ds vs ∧ r d ds S kd xd ∧ Up Y.K H al kd Q ∧ UpX Y H al xd
section
variable {X : Cx} {E : XK} {o e : Expr} {es : List Expr} {to : TED} {tr : TAD} {name : Str} {apos cpos : Pos} {id : String} {r : RMD}
theorem set_lst {K : PySem.W.Frag} {H : Hp} {al : List Addr} {S : Sto} {n : Nat} {p : Addr} {ds xs : List D} {vs : List V} (rs : RS K H al S) (h : S[n]? = some (.lst xs)) (hp : al[n]? = some p) (r : RDs K H al ds vs) : Fut K H al (upd H p (.lst vs)) al (S.set n (.lst ds)) := by
  obtain ⟨us, e1, r1⟩ := rs.ob n _ p h hp
  have kp : Keep H (upd H p (.lst vs)) := Keep.write e1 (fun _ z => by cases z) (fun _ _ z => by cases z)
  refine Fut.set rs h rfl hp ⟨vs, upd_same, ?_⟩ rfl
  have := RDs.mono (t := []) kp _ _ r
  rwa [List.append_nil] at this
theorem m_app : MtR X "list.append" (LLm (cy X E) rApp) := by
  intro pins s σ H x vs v us Q I rx rv ⟨d, ds, al, S, kd, xd, rs, rd, rds, q, up, ux⟩
  unfold rApp at q
  split at q
  · obtain ⟨xs, h1, hz, q⟩ := q
    obtain ⟨a, us', e1, ha, hH, r1⟩ := lst_at rs h1 rd
    obtain ⟨y, e2, ry⟩ := rds1 rds
    exact mt_append pins s σ H x vs v us Q I rx rv ⟨a, us', y, e1, e2, hH, by rw [RDs.length r1]; exact hz, up .non _ al _ .non (set_lst rs h1 ha (RDs.append r1 (RDs.one ry))) rfl q⟩
  · exact q.elim
theorem rds_dropLast {K : PySem.W.Frag} {H : Hp} {al : List Addr} {ds : List D} {vs : List V} (r : RDs K H al ds vs) : RDs K H al ds.dropLast vs.dropLast := by
  rw [List.dropLast_eq_take, List.dropLast_eq_take, RDs.length r]
  exact RDs.take _ r
theorem rds_erase {K : PySem.W.Frag} {H : Hp} {al : List Addr} : ∀ (n : Nat) {ds : List D} {vs : List V}, RDs K H al ds vs → RDs K H al (ds.eraseIdx n) (vs.eraseIdx n)
  | _, [], _, h => by cases (show _ = [] from h); exact rfl
  | 0, d :: ds, _, ⟨v, r, e, h1, h2⟩ => by rw [e]; exact h2
  | n + 1, d :: ds, _, ⟨v, r, e, h1, h2⟩ => ⟨v, r.eraseIdx n, by rw [e]; rfl, h1, rds_erase n h2⟩
theorem m_pop0 : MtR X "list.pop" (LLm (cy X E) rPop0) := by
  intro pins s σ H x vs v us Q I rx rv ⟨d, ds, al, S, kd, xd, rs, rd, rds, q, up, ux⟩
  unfold rPop0 at q
  split at q
  · obtain ⟨xs, y, h1, hy, q⟩ := q
    obtain ⟨a, us', e1, ha, hH, r1⟩ := lst_at rs h1 rd
    obtain ⟨z, ez, rz⟩ := RDs.get r1 hy
    have f := set_lst rs h1 ha (rds_dropLast r1)
    exact mt_pop pins s σ H x vs v us Q I rx rv ⟨a, us', z, e1, rds, hH, by rw [RDs.length r1]; exact ez, up y _ al _ z f (f.rd rz) q⟩
  · exact q.elim
theorem m_pop1 : MtR X "list.pop" (LLm (cy X E) rPop1) := by
  intro pins s σ H x vs v us Q I rx rv ⟨d, ds, al, S, kd, xd, rs, rd, rds, q, up, ux⟩
  unfold rPop1 at q
  split at q
  · obtain ⟨xs, j, y, h1, i1, i2, hj, hy, q⟩ := q
    obtain ⟨a, us', e1, ha, hH, r1⟩ := lst_at rs h1 rd
    obtain ⟨z, ez, rz⟩ := RDs.get r1 hy
    obtain ⟨w, e2, rw'⟩ := rds1 rds
    cases (show w = _ from rw')
    have f := set_lst rs h1 ha (rds_erase j r1)
    exact mt_popAt pins s σ H x vs v us Q I rx rv ⟨a, us', _, j, z, e1, e2, hH, i1, i2, by rw [RDs.length r1]; exact hj, ez, up y _ al _ z f (f.rd rz) q⟩
  · exact q.elim
theorem m_rev : MtR X "list.reverse" (LLm (cy X E) rRev) := by
  intro pins s σ H x vs v us Q I rx rv ⟨d, ds, al, S, kd, xd, rs, rd, rds, q, up, ux⟩
  unfold rRev at q
  split at q
  · obtain ⟨xs, h1, q⟩ := q
    obtain ⟨a, us', e1, ha, hH, r1⟩ := lst_at rs h1 rd
    exact mt_reverse pins s σ H x vs v us Q I rx rv ⟨a, us', e1, rds, hH, up .non _ al _ .non (set_lst rs h1 ha (RDs.reverse r1)) rfl q⟩
  · exact q.elim
theorem isLst_ty {K : PySem.W.Frag} {H : Hp} {al : List Addr} {S : Sto} {d : D} {v : V} (rs : RS K H al S) (h : isLst S d) (r : RD K H al d v) : tyV K "list" v H := by
  cases d with
  | ref n =>
    obtain ⟨ds, hl⟩ := h
    obtain ⟨a, vs, e, _, h1, _⟩ := isL_at rs hl r
    subst e
    exact .inl ⟨rfl, vs, h1⟩
  | _ => exact h.elim
theorem q_met (slot : Slot "list" name id) (hty : typeOf (.builtin id) = pure (.type "method_descriptor")) (hm : MtR X id (LLm (cy X E) r)) (ho : QE X E o to) (ha : QA X E (e :: es) tr) (hbase : attributeBase o name X.env (eval o X.env) = eval o X.env := by rfl) (hfew : ((backTo cpos (starEach (e :: es) X.env)).all (fun x => !x.1) && (backToKw cpos (keywordEach [] X.env)).all (fun x => x.1.isSome) && decide ((e :: es).length + ([] : List Keyword).length + (if ([] : List Keyword).isEmpty then 0 else 1) < 30)) = true := by rfl)
    (hline : (apos.endLine == cpos.line) = true := by rfl) (hs : starEach (e :: es) X.env = (false, eval e X.env) :: starEach es X.env := by rfl) (hplain : (backTo cpos (starEach es X.env)).any (·.1) = false := by rfl) :
    QE X E (.Call (.Attribute o name apos) (e :: es) [] cpos) (dMet r to tr) :=
  pe_imp (pe_bm PySem.F.plainAttrs_list slot hty hm ho ha hbase hfew hline hs hplain) fun s H Q ⟨sg, al, S, kd, xd, rs, rl, q, up, ux⟩ => ⟨sg, al, S, kM1 r tr sg kd xd, xd, rs, rl, q, fun d S1 al1 H1 v f1 r1 q1 =>
    ⟨isLst_ty f1.rs q1.1 r1, sg, al1, S1, kM2 r kd xd d, xd, f1.rs, f1.rsl rl, q1.2, fun ds S2 al2 H2 vs f2 r2 q2 => ⟨d, ds, al2, S2, kd, xd, f2.rs, f2.rd r1, r2, q2, up.mono (f1.trans f2), ux.mono (f1.trans f2)⟩, ux.mono f1⟩, ux⟩
theorem q_met0 (slot : Slot "list" name id) (hty : typeOf (.builtin id) = pure (.type "method_descriptor")) (hm : MtR X id (LLm (cy X E) r)) (ho : QE X E o to)
    (hbase : attributeBase o name X.env (eval o X.env) = eval o X.env := by rfl) (hline : (apos.endLine == cpos.line) = true := by rfl) : QE X E (.Call (.Attribute o name apos) [] [] cpos) (dMet r to dNil) :=
  pe_imp (pe_bm0 PySem.F.plainAttrs_list slot hty hm ho hbase hline) fun s H Q ⟨sg, al, S, kd, xd, rs, rl, q, up, ux⟩ => ⟨sg, al, S, kM1 r dNil sg kd xd, xd, rs, rl, q, fun d S1 al1 H1 v f1 r1 q1 =>
    ⟨isLst_ty f1.rs q1.1 r1, d, [], al1, S1, kd, xd, f1.rs, r1, rfl, q1.2, up.mono f1, ux.mono f1⟩, ux⟩
end
end Q
namespace Q
open PySem
open Spec PyProof.Rows L2

/-! ### statements -/
def dNext : TSD := fun M sg S => M.nx sg S
def dSeq (t u : TSD) : TSD := fun M sg S => t { M with nx := u M } sg S
def kDrop (M : EndsD) (sg : Sl) : KD := fun _ S => M.nx sg S
def dDrop (te : TED) : TSD := fun M sg S => te sg S (kDrop M sg) M.ex
def dRet (te : TED) : TSD := fun M sg S => te sg S M.rt M.ex
def dRetN : TSD := fun M _ S => M.rt .non S
def kIf (t u : TSD) (M : EndsD) (sg : Sl) : Bool → Sto → Prop := fun b S => (b = true → t M sg S) ∧ (b = false → u M sg S)
def dIf (c : TTD) (t u : TSD) : TSD := fun M sg S => c sg S (kIf t u M sg) M.ex
def dNever : TSD := fun _ _ _ => False
def dBreak : TSD := fun M sg S => M.bk sg S
def dCont : TSD := fun M sg S => M.ct sg S
def kSet (i : Nat) (M : EndsD) (sg : Sl) : KD := fun d S => M.nx (sg.set i (some d)) S
def dSet (i : Nat) (te : TED) : TSD := fun M sg S => te sg S (kSet i M sg) M.ex
def kPar (i j : Nat) (M : EndsD) (sg : Sl) : List D → Sto → Prop := fun ds S => match ds with
  | [d, e] => M.nx ((sg.set i (some d)).set j (some e)) S
  | _ => False
def dPar (i j : Nat) (ta : TAD) : TSD := fun M sg S => ta sg S (kPar i j M sg) M.ex
def kPar3 (i j l : Nat) (M : EndsD) (sg : Sl) : List D → Sto → Prop := fun ds S => match ds with
  | [d, e, f] => M.nx (((sg.set i (some d)).set j (some e)).set l (some f)) S
  | _ => False
def dPar3 (i j l : Nat) (ta : TAD) : TSD := fun M sg S => ta sg S (kPar3 i j l M sg) M.ex
def kAug (i : Nat) (r : R2D) (M : EndsD) (sg : Sl) (x : D) : KD := fun y S => r x y S (kSet i M sg) M.ex
def dAug (i : Nat) (r : R2D) (te : TED) : TSD := fun M sg S => match sg[i]? with
  | some (some x) => te sg S (kAug i r M sg x) M.ex
  | _ => False
abbrev TGD := D → Sl → Sto → (Sl → Sto → Prop) → XD → Prop
def kAsg (g : TGD) (M : EndsD) (sg : Sl) : KD := fun d S => g d sg S M.nx M.ex
def dAsg (te : TED) (g : TGD) : TSD := fun M sg S => te sg S (kAsg g M sg) M.ex
def gNm (i : Nat) : TGD := fun d sg S q _ => q (sg.set i (some d)) S
abbrev TGDs := List D → Sl → Sto → (Sl → Sto → Prop) → XD → Prop
def gsNil : TGDs := fun ds sg S q _ => match ds with
  | [] => q sg S
  | _ => False
def gsCons (g : TGD) (u : TGDs) : TGDs := fun ds sg S q x => match ds with
  | d :: r => g d sg S (fun sg' S' => u r sg' S' q x) x
  | _ => False
def gTp (n : Nat) (u : TGDs) : TGD := fun d sg S q x => match d with
  | .tup ds => ds.length = n ∧ u ds sg S q x
  | _ => False
def rSet : D → D → D → Sto → (Sto → Prop) → Prop := fun o i v S q => match o, i with
  | .ref n, .int k => ∃ xs j, S[n]? = some (.lst xs) ∧ ixN xs.length k = some j ∧ q (S.set n (.lst (xs.set j v)))
  | _, _ => False
def kGs2 (o : D) (v : D) (sg : Sl) (q : Sl → Sto → Prop) : KD := fun i S => rSet o i v S (fun S' => q sg S')
def kGs1 (ti : TED) (v : D) (sg : Sl) (q : Sl → Sto → Prop) (x : XD) : KD := fun o S => ti sg S (kGs2 o v sg q) x
def gSb (to ti : TED) : TGD := fun v sg S q x => to sg S (kGs1 ti v sg q x) x
def dWhile (c : TTD) (tb : TSD) : TSD := fun M sg S => ∃ W : Nat → Sl → Sto → Prop, (∃ m, W m sg S) ∧ ∀ m sg S, W m sg S →
  c sg S (fun b S1 => (b = true → tb { M with nx := fun sg' S' => ∃ m', m' < m ∧ W m' sg' S', ct := fun sg' S' => ∃ m', m' < m ∧ W m' sg' S', bk := M.nx } sg S1) ∧ (b = false → M.nx sg S1)) M.ex
/-- what a loop walks -/
structure ItD where
  items : List D
  grd : Sto → Prop
abbrev TID := Sl → Sto → (ItD → Sto → Prop) → XD → Prop
def wFor (grd : Sto → Prop) (g : TGD) (tb : TSD) (M : EndsD) : List D → Sl → Sto → Prop
  | [], sg, S => grd S ∧ M.nx sg S
  | d :: r, sg, S => grd S ∧ g d sg S (fun sg1 S1 => tb { M with nx := wFor grd g tb M r, ct := wFor grd g tb M r, bk := M.nx } sg1 S1) M.ex
def kFor (g : TGD) (tb : TSD) (M : EndsD) (sg : Sl) : ItD → Sto → Prop := fun it S => wFor it.grd g tb M it.items sg S
def dFor (ti : TID) (g : TGD) (tb : TSD) : TSD := fun M sg S => ti sg S (kFor g tb M sg) M.ex
abbrev XF : XD := fun _ _ => False
def wipeD (sg : Sl) : List Nat → Sl
  | [] => sg
  | v :: vs => (wipeD sg vs).set v none
def kLc3 (n0 : Nat) (k : Sto → Prop) : KD := fun y S => ∃ acc, S[n0]? = some (.lst acc) ∧ acc.length < sizeLine ∧ k (S.set n0 (.lst (acc ++ [y])))
def wLc (grd : Sto → Prop) (g : TGD) (tt : TTD) (te : TED) (sg : Sl) (n0 : Nat) (k : Sto → Prop) : List D → Sto → Prop
  | [], S => grd S ∧ k S
  | d :: r, S => grd S ∧ g d sg S (fun sg1 S1 => tt sg1 S1 (fun b S2 => (b = true → te sg1 S2 (kLc3 n0 (wLc grd g tt te sg n0 k r)) XF) ∧ (b = false → wLc grd g tt te sg n0 k r S2)) XF) XF
def kLc (g : TGD) (tt : TTD) (te : TED) (sg : Sl) (k : KD) : ItD → Sto → Prop := fun it S => wLc it.grd g tt te sg S.length (fun S' => k (.ref S.length) S') it.items (S ++ [.lst []])
def dLc (ti : TID) (g : TGD) (tt : TTD) (te : TED) (vs : List Nat) : TED := fun sg S k x => ti sg S (kLc g tt te (wipeD sg vs) k) x
def dYes : TTD := fun _ S k _ => k true S

/-- an iterator walks these -/
structure ItOK (K : PySem.W.Frag) (J : It) (it : ItD) (H : Hp) (al : List Addr) : Prop where
  go : ∀ i H' al' S', Fut K H al H' al' S' → it.grd S' → i < it.items.length → J.go i H'
  yld : ∀ i d H' al' S' x H'', Fut K H al H' al' S' → it.grd S' → it.items[i]? = some d → J.yld i H' x H'' → Fut K H' al' H'' al' S' ∧ RD K H'' al' d x
  stop : ∀ H' al' S', Fut K H al H' al' S' → it.grd S' → J.stop it.items.length H'
def LI (Y : Cy) (t : TID) : TI := fun sv H R => ∃ sg al S kd xd, RS Y.K H al S ∧ RSl Y.K H al sg sv ∧ t sg S kd xd ∧ (∀ it S' al' H' J, Fut Y.K H al H' al' S' → ItOK Y.K J it H' al' → kd it S' → R J H') ∧ UpX Y H al xd
def LG (Y : Cy) (t : TGD) : TG := fun v sv H Q => ∃ d sg al S qd xd, RS Y.K H al S ∧ RSl Y.K H al sg sv ∧ RD Y.K H al d v ∧ t d sg S qd xd ∧ UpS Y.K H al qd Q ∧ UpX Y H al xd
def LGs (Y : Cy) (t : TGDs) : TGs := fun vs sv H Q => ∃ ds sg al S qd xd, RS Y.K H al S ∧ RSl Y.K H al sg sv ∧ RDs Y.K H al ds vs ∧ t ds sg S qd xd ∧ UpS Y.K H al qd Q ∧ UpX Y H al xd
abbrev QI (X : Cx) (E : XK) (tg iter : Expr) (t : TID) : Prop := PI X tg iter (LI (cy X E) t)
def WipeOK (vs : List Nat) (t : TG) : Prop := ∀ v s H Q Q', (∀ s2 H2, wipe s2 vs = wipe s vs → Q s2 H2 → Q' s2 H2) → t v s H Q → t v s H Q'
def WipesOK (vs : List Nat) (t : TGs) : Prop := ∀ v s H Q Q', (∀ s2 H2, wipe s2 vs = wipe s vs → Q s2 H2 → Q' s2 H2) → t v s H Q → t v s H Q'
/-- a target; is: the names it stores -/
def QG (X : Cx) (E : XK) (tg : Expr) (t : TGD) (tV : TG) (is : List Nat) : Prop := PG X tg tV ∧ (∀ v s H Q, LG (cy X E) t v s H Q → tV v s H Q) ∧ ∀ vs, (∀ i ∈ is, i ∈ vs) → WipeOK vs tV
def QGs (X : Cx) (E : XK) (tg : List Expr) (t : TGDs) (tV : TGs) (is : List Nat) : Prop := PGs X tg tV ∧ (∀ v s H Q, LGs (cy X E) t v s H Q → tV v s H Q) ∧ ∀ vs, (∀ i ∈ is, i ∈ vs) → WipesOK vs tV
abbrev QGp (X : Cx) (E : XK) (tg : Expr) (t : TGD) : Prop := PG X tg (LG (cy X E) t)
theorem pg_imp {X : Cx} {e : Expr} {t t' : TG} (h : PG X e t) (f : ∀ v s H Q, t' v s H Q → t v s H Q) : PG X e t' := ⟨fun pins s σ H v u Q I r q => h.run pins s σ H v u Q I r (f v σ H Q q)⟩
theorem QG.p {X : Cx} {E : XK} {tg : Expr} {t : TGD} {tV : TG} {is : List Nat} (h : QG X E tg t tV is) : QGp X E tg t := by
  obtain ⟨h1, h2, _⟩ := h
  exact pg_imp h1 h2
section
variable {X : Cx} {E : XK} {e : Expr} {te : TED} {pos : Pos} {st : Stmt} {rest a b : List Stmt} {t u : TSD}
theorem q_snil : QSs X E [] dNext := pss_imp pss_nil fun De s H ⟨sg, al, S, Dd, rs, rl, q, ue⟩ => ue.nx sg S al H s (.now rs) rl q
theorem q_scons (h1 : QS X E st t) (h2 : QSs X E rest u) : QSs X E (st :: rest) (dSeq t u) :=
  pss_imp (pss_cons h1 h2) fun De s H ⟨sg, al, S, Dd, rs, rl, q, ue⟩ => ⟨sg, al, S, { Dd with nx := u Dd }, rs, rl, q,
    ⟨fun sg1 S1 al1 H1 sv1 f1 r1 q1 => ⟨sg1, al1, S1, Dd, f1.rs, r1, q1, ue.mono f1⟩, ue.rt, ue.bk, ue.ct, ue.ex⟩⟩
theorem q_one1 (h1 : QS X E st t) : QSs X E [st] t := pss_one h1
theorem q_pass : QS X E (.Pass pos) dNext := ps_imp ps_pass fun De s H ⟨sg, al, S, Dd, rs, rl, q, ue⟩ => ue.nx sg S al H s (.now rs) rl q
theorem q_break : QS X E (.Break pos) dBreak := ps_imp ps_break fun De s H ⟨sg, al, S, Dd, rs, rl, q, ue⟩ => ue.bk sg S al H s (.now rs) rl q
theorem q_cont : QS X E (.Continue pos) dCont := ps_imp ps_continue fun De s H ⟨sg, al, S, Dd, rs, rl, q, ue⟩ => ue.ct sg S al H s (.now rs) rl q
theorem q_never : QS X E st dNever := ps_imp ps_never fun De s H ⟨sg, al, S, Dd, rs, rl, q, ue⟩ => q.elim
theorem q_snever : QSs X E rest dNever := pss_imp pss_never fun De s H ⟨sg, al, S, Dd, rs, rl, q, ue⟩ => q.elim
theorem q_expr (he : QE X E e te) (hs : swapsWith e none pos.line X.env = pure false := by rfl) : QS X E (.Expr e pos) (dDrop te) :=
  ps_imp (ps_expr he hs) fun De s H ⟨sg, al, S, Dd, rs, rl, q, ue⟩ => ⟨sg, al, S, kDrop Dd sg, Dd.ex, rs, rl, q, fun d S1 al1 H1 v f1 r1 q1 => ue.nx sg S1 al1 H1 s f1 (f1.rsl rl) q1, ue.ex⟩
theorem q_ret (he : QE X E e te) : QS X E (.Return (some e) pos) (dRet te) :=
  ps_imp (ps_ret he) fun De s H ⟨sg, al, S, Dd, rs, rl, q, ue⟩ => ⟨sg, al, S, Dd.rt, Dd.ex, rs, rl, q, ue.rt, ue.ex⟩
theorem q_retN : QS X E (.Return none pos) dRetN := ps_imp ps_retN fun De s H ⟨sg, al, S, Dd, rs, rl, q, ue⟩ => ue.rt .non S al H .non (.now rs) rfl q
theorem q_if {c : Expr} {tc : TTD} (hc : QT X E c tc) (ha : QSs X E a t) (hb : QSs X E b u) : QS X E (.If c a b pos) (dIf tc t u) :=
  ps_imp (ps_if hc ha hb) fun De s H ⟨sg, al, S, Dd, rs, rl, q, ue⟩ => ⟨sg, al, S, kIf t u Dd sg, Dd.ex, rs, rl, q, fun c S1 al1 H1 f1 q1 =>
    ite_of ⟨fun e => ⟨sg, al1, S1, Dd, f1.rs, f1.rsl rl, q1.1 e, ue.mono f1⟩, fun e => ⟨sg, al1, S1, Dd, f1.rs, f1.rsl rl, q1.2 e, ue.mono f1⟩⟩, ue.ex⟩
theorem rsl_set {K : PySem.W.Frag} {H : Hp} {al : List Addr} {sg : Sl} {sv : L2.St} {d : D} {v : V} (r : RSl K H al sg sv) (h : RD K H al d v) (i : Nat) : RSl K H al (sg.set i (some d)) (sv.set i (some v)) := by
  refine ⟨by simp [r.len], fun j e q => ?_⟩
  by_cases hj : i = j
  · subst hj
    by_cases hi : i < sg.length
    · rw [List.getElem?_set_self hi] at q
      have q' : some d = some e := Option.some.inj q
      cases q'
      exact ⟨v, by rw [List.getElem?_set_self (by rw [← r.len]; exact hi)], h⟩
    · rw [List.getElem?_eq_none (by simpa using hi)] at q
      cases q
  · rw [List.getElem?_set_ne hj] at q
    obtain ⟨w, e1, e2⟩ := r.at_ j e q
    exact ⟨w, by rw [List.getElem?_set_ne hj]; exact e1, e2⟩
theorem q_set {i : Nat} {x : Str} {pos' : Pos} (hN : X.N.Nodup) (he : QE X E e te) (hi : X.N[i]? = some x := by rfl) (hx : Loc X.env.scope x := by first | exact Or.inl rfl | exact Or.inr rfl) (hs : swapsWith e (some (.Name x pos')) pos.line X.env = pure false := by rfl)
    (hf : X.fn x = true ∨ X.env.scope.names.lookup x = some .local := by first | exact .inl rfl | exact .inr rfl) : QS X E (.Assign [.Name x pos'] e pos) (dSet i te) :=
  ps_imp (ps_set hN hi hx he hs hf) fun De s H ⟨sg, al, S, Dd, rs, rl, q, ue⟩ => ⟨sg, al, S, kSet i Dd sg, Dd.ex, rs, rl, q, fun d S1 al1 H1 v f1 r1 q1 => ue.nx _ S1 al1 H1 _ f1 (rsl_set (f1.rsl rl) r1 i) q1, ue.ex⟩
theorem q_par {i j : Nat} {x y : Str} {ea eb : Expr} {ta : TAD} {px py pt : Pos} {kt k2 : Nat} {pt2 : Pos} (hc : X.calm = true) (hN : X.N.Nodup) (ha : QA X E [ea, eb] ta)
    (hi : X.N[i]? = some x := by rfl) (hj : X.N[j]? = some y := by rfl) (hij : i ≠ j := by decide) (hx : X.env.scope.names.lookup x = some .local := by rfl) (hy : X.env.scope.names.lookup y = some .local := by rfl)
    (hw : swappedStores [.Tuple [.Name x px, .Name y py] kt pt] (.Tuple [ea, eb] k2 pt2) X.env = pure (some [x, y]) := by rfl)
    (hs : swapsWithSole [.Tuple [.Name x px, .Name y py] kt pt] (.Tuple [ea, eb] k2 pt2) pos.line X.env = pure false := by rfl) :
    QS X E (.Assign [.Tuple [.Name x px, .Name y py] kt pt] (.Tuple [ea, eb] k2 pt2) pos) (dPar i j ta) :=
  ps_imp (ps_par hc hN hi hj hij hx hy ha hw hs) fun De s H ⟨sg, al, S, Dd, rs, rl, q, ue⟩ => ⟨sg, al, S, kPar i j Dd sg, Dd.ex, rs, rl, q, fun ds S1 al1 H1 vs f1 r1 q1 => by
    unfold kPar at q1
    split at q1
    · obtain ⟨v, w, e, r2, r3⟩ := rds2 r1
      exact ⟨v, w, e, ue.nx _ S1 al1 H1 _ f1 (rsl_set (rsl_set (f1.rsl rl) r2 i) r3 j) q1⟩
    · exact q1.elim, ue.ex⟩
theorem rds3 {K : PySem.W.Frag} {H : Hp} {al : List Addr} {d d' d'' : D} {vs : List V} (r : RDs K H al [d, d', d''] vs) : ∃ v v' v'', vs = [v, v', v''] ∧ RD K H al d v ∧ RD K H al d' v' ∧ RD K H al d'' v'' := by
  obtain ⟨v, u, e, h1, h2⟩ := r
  obtain ⟨v', v'', e', h3, h4⟩ := rds2 h2
  subst e'
  exact ⟨v, v', v'', e, h1, h3, h4⟩
theorem q_par3 {i j l : Nat} {x y z : Str} {ea eb ec : Expr} {ta : TAD} {px py pz pt : Pos} {kt k2 : Nat} {pt2 : Pos} (hc : X.calm = true) (hN : X.N.Nodup) (ha : QA X E [ea, eb, ec] ta)
    (hi : X.N[i]? = some x := by rfl) (hj : X.N[j]? = some y := by rfl) (hl : X.N[l]? = some z := by rfl) (hij : i ≠ j := by decide) (hil : i ≠ l := by decide) (hjl : j ≠ l := by decide) (hx : X.env.scope.names.lookup x = some .local := by rfl) (hy : X.env.scope.names.lookup y = some .local := by rfl) (hz : X.env.scope.names.lookup z = some .local := by rfl)
    (hw : swappedStores [.Tuple [.Name x px, .Name y py, .Name z pz] kt pt] (.Tuple [ea, eb, ec] k2 pt2) X.env = pure (some [x, y, z]) := by rfl)
    (hs : swapsWithSole [.Tuple [.Name x px, .Name y py, .Name z pz] kt pt] (.Tuple [ea, eb, ec] k2 pt2) pos.line X.env = pure false := by rfl) :
    QS X E (.Assign [.Tuple [.Name x px, .Name y py, .Name z pz] kt pt] (.Tuple [ea, eb, ec] k2 pt2) pos) (dPar3 i j l ta) :=
  ps_imp (ps_par3 hc hN hi hj hl hij hil hjl hx hy hz ha hw hs) fun De s H ⟨sg, al, S, Dd, rs, rl, q, ue⟩ => ⟨sg, al, S, kPar3 i j l Dd sg, Dd.ex, rs, rl, q, fun ds S1 al1 H1 vs f1 r1 q1 => by
    unfold kPar3 at q1
    split at q1
    · obtain ⟨v, w, z, e, r2, r3, r4⟩ := rds3 r1
      exact ⟨v, w, z, e, ue.nx _ S1 al1 H1 _ f1 (rsl_set (rsl_set (rsl_set (f1.rsl rl) r2 i) r3 j) r4 l) q1⟩
    · exact q1.elim, ue.ex⟩
theorem q_aug {i : Nat} {x : Str} {op : Operator} {r : R2D} {pos' : Pos} (hN : X.N.Nodup) (ho : OpR X (inplaceOp op) (LL2 (cy X E) r)) (he : QE X E e te) (hi : X.N[i]? = some x := by rfl) (hx : Loc X.env.scope x := by first | exact Or.inl rfl | exact Or.inr rfl)
    (hf : X.fn x = true ∨ X.env.scope.names.lookup x = some .local := by first | exact .inl rfl | exact .inr rfl) : QS X E (.AugAssign (.Name x pos') op e pos) (dAug i r te) := by
  have hp : PIp X op (LL2 (cy X E) r) := fun pins s σ H x y v u Q I r1 r2 h => ho pins s σ H x y v u Q I r1 r2 h
  refine ps_imp (ps_aug hN hi hx he hp hf) fun De s H ⟨sg, al, S, Dd, rs, rl, q, ue⟩ => ?_
  unfold dAug at q
  split at q
  · rename_i d hd
    obtain ⟨v, e1, r1⟩ := rl.at_ i d hd
    exact ⟨v, e1, sg, al, S, kAug i r Dd sg d, Dd.ex, rs, rl, q, fun d2 S2 al2 H2 v2 f2 r2 q2 => ⟨d, d2, al2, S2, kSet i Dd sg, Dd.ex, f2.rs, f2.rd r1, r2, q2,
      fun d3 S3 al3 H3 v3 f3 r3 q3 => ue.nx _ S3 al3 H3 _ (f2.trans f3) (rsl_set ((f2.trans f3).rsl rl) r3 i) q3, ue.ex.mono f2⟩, ue.ex⟩
  · exact q.elim

/-! ### targets -/
theorem wipe_set_in {s : L2.St} {i : Nat} {v : Option V} : ∀ {vs : List Nat}, i ∈ vs → wipe (s.set i v) vs = wipe s vs := by
  have key : ∀ (vs : List Nat) (j : Nat), (wipe (s.set i v) vs)[j]? = if j = i ∧ i ∉ vs then (s.set i v)[j]? else (wipe s vs)[j]? := by
    intro vs
    induction vs with
    | nil =>
      intro j
      show (s.set i v)[j]? = _
      by_cases hj : j = i
      · rw [if_pos ⟨hj, by simp⟩]
      · rw [if_neg (fun z => hj z.1)]
        show (s.set i v)[j]? = s[j]?
        rw [List.getElem?_set_ne (Ne.symm hj)]
    | cons w vs ih =>
      intro j
      show ((wipe (s.set i v) vs).set w none)[j]? = if j = i ∧ i ∉ w :: vs then (s.set i v)[j]? else ((wipe s vs).set w none)[j]?
      have hl : (wipe (s.set i v) vs).length = (wipe s vs).length := by rw [wipe_length, wipe_length, List.length_set]
      by_cases hw : w = j
      · subst hw
        rw [if_neg (fun z => z.2 (by rw [z.1]; exact List.mem_cons_self))]
        by_cases hb : w < (wipe s vs).length
        · rw [List.getElem?_set_self hb, List.getElem?_set_self (by rw [hl]; exact hb)]
        · rw [List.getElem?_eq_none (by rw [List.length_set]; omega), List.getElem?_eq_none (by rw [List.length_set]; omega)]
      · rw [List.getElem?_set_ne hw, List.getElem?_set_ne hw, ih j]
        by_cases hj : j = i
        · subst hj
          by_cases hm : j ∈ vs
          · rw [if_neg (fun z => z.2 hm), if_neg (fun z => z.2 (List.mem_cons_of_mem _ hm))]
          · rw [if_pos ⟨rfl, hm⟩, if_pos ⟨rfl, fun z => (List.mem_cons.mp z).elim (fun e => hw e.symm) hm⟩]
        · rw [if_neg (fun z => hj z.1), if_neg (fun z => hj z.1)]
  intro vs hi
  refine List.ext_getElem? fun j => ?_
  rw [key vs j, if_neg (fun z => z.2 hi)]
theorem wipe_get (s : L2.St) : ∀ (vs : List Nat) (j : Nat), (wipe s vs)[j]? = if j ∈ vs then (s[j]?).map (fun _ => none) else s[j]?
  | [], j => by rw [if_neg (by simp)]; rfl
  | w :: vs, j => by
    show ((wipe s vs).set w none)[j]? = _
    by_cases hw : w = j
    · subst hw
      rw [if_pos List.mem_cons_self]
      by_cases hb : w < s.length
      · rw [List.getElem?_set_self (by rw [wipe_length]; exact hb), List.getElem?_eq_getElem hb]
        rfl
      · rw [List.getElem?_eq_none (by rw [List.length_set, wipe_length]; omega), List.getElem?_eq_none (by omega)]
        rfl
    · rw [List.getElem?_set_ne hw, wipe_get s vs j]
      by_cases hm : j ∈ vs
      · rw [if_pos hm, if_pos (List.mem_cons_of_mem _ hm)]
      · rw [if_neg hm, if_neg (fun z => (List.mem_cons.mp z).elim (fun e => hw e.symm) hm)]
theorem wipe_wipe (s : L2.St) (vs : List Nat) : wipe (wipe s vs) vs = wipe s vs := by
  refine List.ext_getElem? fun j => ?_
  rw [wipe_get, wipe_get]
  by_cases hm : j ∈ vs
  · rw [if_pos hm, if_pos hm]
    cases s[j]? <;> rfl
  · rw [if_neg hm, if_neg hm]
theorem q_gnm {i : Nat} {x : Str} (hN : X.N.Nodup) (hi : X.N[i]? = some x := by rfl) (hx : Loc X.env.scope x := by first | exact Or.inl rfl | exact Or.inr rfl) (hf : X.fn x = true ∨ X.env.scope.names.lookup x = some .local := by first | exact .inl rfl | exact .inr rfl) :
    QG X E (.Name x pos) (gNm i) (gName i) [i] :=
  ⟨pg_name hN hi hx hf, fun v s H Q ⟨d, sg, al, S, qd, xd, rs, rl, rd, q, up, ux⟩ => up _ S al H _ (.now rs) (rsl_set rl rd i) q, fun vs hv v s H Q Q' f q => f _ _ (wipe_set_in (hv i (by simp))) q⟩
variable {es : List Expr} {tg : Expr} {g : TGD} {gs : TGDs} {is js : List Nat} {tV : TG} {tVs : TGs}
theorem q_gsnil : QGs X E [] gsNil gNil [] :=
  ⟨pgs_nil, fun vs s H Q ⟨d, sg, al, S, qd, xd, rs, rl, rd, q, up, ux⟩ => by
    cases d with
    | nil => exact ⟨rd, up sg S al H s (.now rs) rl q⟩
    | cons _ _ => exact q.elim, fun vs hv v s H Q Q' f q => ⟨q.1, f _ _ rfl q.2⟩⟩
theorem q_gscons (h1 : QG X E tg g tV is) (h2 : QGs X E es gs tVs js) (hs : (assignEach (tg :: es) X.env).map (·.2) = assign tg X.env :: (assignEach es X.env).map (·.2) := by rfl) : QGs X E (tg :: es) (gsCons g gs) (gCons tV tVs) (is ++ js) := by
  obtain ⟨p1, l1, w1⟩ := h1
  obtain ⟨p2, l2, w2⟩ := h2
  refine ⟨pgs_cons p1 p2 hs, fun vs s H Q ⟨d, sg, al, S, qd, xd, rs, rl, rd, q, up, ux⟩ => ?_, fun vs hv v s H Q Q' f q => ?_⟩
  · cases d with
    | nil => exact q.elim
    | cons d r =>
      obtain ⟨v, u, e, r1, r2⟩ := rd
      exact ⟨v, u, e, l1 _ _ _ _ ⟨d, sg, al, S, _, xd, rs, rl, r1, q, fun sg1 S1 al1 H1 sv1 f1 rl1 q1 => l2 _ _ _ _ ⟨r, sg1, al1, S1, qd, xd, f1.rs, rl1, f1.rds r2, q1, up.mono f1, ux.mono f1⟩, ux⟩⟩
  · obtain ⟨a, r, e, q⟩ := q
    refine ⟨a, r, e, w1 vs (fun i hi => hv i (List.mem_append_left _ hi)) _ _ _ _ _ (fun s2 H2 e2 q2 => ?_) q⟩
    exact w2 vs (fun i hi => hv i (List.mem_append_right _ hi)) _ _ _ _ _ (fun s3 H3 e3 q3 => f s3 H3 (e3.trans e2) q3) q2
theorem q_gtp {k n : Nat} (hc : X.calm = true) (h : QGs X E es gs tVs is) (hn : (assignEach es X.env).length = n := by rfl) (hst : (assignEach es X.env).findIdx? (·.1) = none := by rfl) : QG X E (.Tuple es k pos) (gTp n gs) (gTup X.K n tVs) is := by
  obtain ⟨p1, l1, w1⟩ := h
  refine ⟨pg_tup hc p1 hn hst, fun v s H Q ⟨d, sg, al, S, qd, xd, rs, rl, rd, q, up, ux⟩ => ?_, fun vs hv v s H Q Q' f q => ?_⟩
  · cases d <;> try exact q.elim
    case tup ds =>
      obtain ⟨a, vs, e, h1, r1⟩ := rd
      exact ⟨a, vs, e, h1, by rw [RDs.length r1]; exact q.1, l1 _ _ _ _ ⟨ds, sg, al, S, qd, xd, rs, rl, r1, q.2, up, ux⟩⟩
  · obtain ⟨a, xs, e, h1, h2, q⟩ := q
    exact ⟨a, xs, e, h1, h2, w1 vs hv _ _ _ _ _ f q⟩
theorem q_gsb {o i : Expr} {to ti : TED} (ho : QE X E o to) (hi : QE X E i ti) (ha : ∀ v, assign (.Subscript o i pos) X.env v = (do
      let b ← holding [v] (eval o X.env)
      let c ← holding [v, b] (eval i X.env)
      standAt pos; holding [v, b, c] (setItem b c v); release [v, b, c] []) := by intro _; rfl) : QGp X E (.Subscript o i pos) (gSb to ti) := by
  refine pg_imp (pg_sub ho hi set_list ha) fun v s H Q ⟨d, sg, al, S, qd, xd, rs, rl, rd, q, up, ux⟩ => ?_
  refine ⟨sg, al, S, _, xd, rs, rl, q, fun d1 S1 al1 H1 v1 f1 r1 q1 => ⟨sg, al1, S1, _, xd, f1.rs, f1.rsl rl, q1, fun d2 S2 al2 H2 v2 f2 r2 q2 => ?_, ux.mono f1⟩, ux⟩
  have q2 : rSet d1 d2 d S2 (fun S' => qd sg S') := q2
  unfold rSet at q2
  split at q2
  · obtain ⟨xs, j, h1, hj, q2⟩ := q2
    obtain ⟨a, vs, e1, ha1, e2, r3⟩ := lst_at f2.rs h1 (f2.rd r1)
    have f3 := set_lst f2.rs h1 ha1 (RDs.set j r3 ((f1.trans f2).rd rd))
    exact ⟨a, vs, _, j, e1, r2, e2, by rw [RDs.length r3]; exact hj, up sg _ al2 _ s ((f1.trans f2).trans f3) (((f1.trans f2).trans f3).rsl rl) q2⟩
  · exact q2.elim
theorem q_asg (he : QE X E e te) (hg : QGp X E tg g) (hs : swapsWithSole [tg] e pos.line X.env = pure false := by rfl) (hw : swappedStores [tg] e X.env = pure none := by rfl)
    (h1 : (assignEach [tg] X.env).map (·.2) = [assign tg X.env] := by rfl) : QS X E (.Assign [tg] e pos) (dAsg te g) :=
  ps_imp (ps_asg he hg hs hw h1) fun De s H ⟨sg, al, S, Dd, rs, rl, q, ue⟩ => ⟨sg, al, S, kAsg g Dd sg, Dd.ex, rs, rl, q, fun d S1 al1 H1 v f1 r1 q1 =>
    ⟨d, sg, al1, S1, Dd.nx, Dd.ex, f1.rs, f1.rsl rl, r1, q1, ue.nx.mono f1, ue.ex.mono f1⟩, ue.ex⟩

/-! ### loops -/
theorem q_while {c : Expr} {body : List Stmt} {tc : TTD} {tb : TSD} (hp : PassesOwn (model X.prog X.w) X.A X.env X.xe) (hc : QT X E c tc) (hb : QSs X E body tb) : QS X E (.While c body [] pos) (dWhile tc tb) := by
  refine ps_imp (ps_while hp hc hb) fun De s H ⟨sg, al, S, Dd, rs, rl, q, ue⟩ => ?_
  obtain ⟨W, ⟨m0, w0⟩, turn⟩ := q
  refine ⟨fun m sv H' => ∃ sg' al' S', Fut X.K H al H' al' S' ∧ RSl X.K H' al' sg' sv ∧ W m sg' S', ⟨m0, sg, al, S, .now rs, rl, w0⟩, ?_⟩
  rintro m sv H1 ⟨sg1, al1, S1, f1, rl1, w1⟩
  refine ⟨sg1, al1, S1, _, Dd.ex, f1.rs, rl1, turn m sg1 S1 w1, fun b S2 al2 H2 f2 q2 => ite_of ⟨fun e => ?_, fun e => ?_⟩, ue.ex.mono f1⟩
  · refine ⟨fun sv' H' => ∃ m', m' < m ∧ ∃ sg' al' S', Fut X.K H al H' al' S' ∧ RSl X.K H' al' sg' sv' ∧ W m' sg' S', fun sv' H' h => h, ?_⟩
    have up : UpS X.K H2 al2 (fun sg' S' => ∃ m', m' < m ∧ W m' sg' S') (fun sv' H' => ∃ m', m' < m ∧ ∃ sg' al' S', Fut X.K H al H' al' S' ∧ RSl X.K H' al' sg' sv' ∧ W m' sg' S') :=
      fun sg3 S3 al3 H3 sv3 f3 r3 ⟨m', hm, w3⟩ => ⟨m', hm, sg3, al3, S3, (f1.trans f2).trans f3, r3, w3⟩
    exact ⟨sg1, al2, S2, _, f2.rs, f2.rsl rl1, q2.1 e, ⟨up, ue.rt.mono (f1.trans f2), ue.nx.mono (f1.trans f2), up, ue.ex.mono (f1.trans f2)⟩⟩
  · exact ue.nx sg1 S2 al2 H2 sv (f1.trans f2) (f2.rsl rl1) (q2.2 e)
theorem q_for {iter : Expr} {body : List Stmt} {ti : TID} {tb : TSD} (hp : PassesOwn (model X.prog X.w) X.A X.env X.xe) (hc : X.calm = true) (hi : QI X E tg iter ti) (hg : QG X E tg g tV is) (hb : QSs X E body tb)
    (hs : ∀ x, foldedSetIterable iter X.env x = pure x := by intro _; rfl) : QS X E (.For tg iter body [] pos) (dFor ti g tb) := by
  refine ps_imp (ps_for hp hc hi hg.p hb hs) fun De s H ⟨sg, al, S, Dd, rs, rl, q, ue⟩ => ?_
  refine ⟨sg, al, S, kFor g tb Dd sg, Dd.ex, rs, rl, q, fun it S1 al1 H1 J f1 iok q1 => ?_, ue.ex⟩
  have q1 : wFor it.grd g tb Dd it.items sg S1 := q1
  refine ⟨fun i m sv H' => ∃ sg' al' S', Fut X.K H1 al1 H' al' S' ∧ RSl X.K H' al' sg' sv ∧ wFor it.grd g tb Dd (it.items.drop i) sg' S' ∧ m = it.items.length - i ∧ i ≤ it.items.length, ⟨it.items.length, sg, al1, S1, .now f1.rs, f1.rsl rl, q1, by simp, Nat.zero_le _⟩, ?_⟩
  rintro i m sv H2 ⟨sg2, al2, S2, f2, rl2, w2, rfl, hi⟩
  by_cases hlt : i < it.items.length
  · rw [List.drop_eq_getElem_cons hlt] at w2
    obtain ⟨gr, w2⟩ := w2
    refine .inr ⟨iok.go i H2 al2 S2 f2 gr hlt, fun sv' H' => ∃ m', m' < it.items.length - i ∧ ∃ sg' al' S', Fut X.K H1 al1 H' al' S' ∧ RSl X.K H' al' sg' sv' ∧ wFor it.grd g tb Dd (it.items.drop (i + 1)) sg' S' ∧ m' = it.items.length - (i + 1) ∧ i + 1 ≤ it.items.length, fun sv' H' h => h, fun x H' hy => ?_⟩
    obtain ⟨f3, r3⟩ := iok.yld i _ H2 al2 S2 x H' f2 gr (List.getElem?_eq_getElem hlt) hy
    refine ⟨_, sg2, al2, S2, _, Dd.ex, f3.rs, f3.rsl rl2, r3, w2, fun sg4 S4 al4 H4 sv4 f4 rl4 q4 => ?_, ue.ex.mono ((f1.trans f2).trans f3)⟩
    have f := (f2.trans f3).trans f4
    have up : UpS X.K H4 al4 (wFor it.grd g tb Dd (it.items.drop (i + 1))) (fun sv' H' => ∃ m', m' < it.items.length - i ∧ ∃ sg' al' S', Fut X.K H1 al1 H' al' S' ∧ RSl X.K H' al' sg' sv' ∧ wFor it.grd g tb Dd (it.items.drop (i + 1)) sg' S' ∧ m' = it.items.length - (i + 1) ∧ i + 1 ≤ it.items.length) :=
      fun sg5 S5 al5 H5 sv5 f5 r5 q5 => ⟨it.items.length - (i + 1), by omega, sg5, al5, S5, f.trans f5, r5, q5, rfl, hlt⟩
    exact ⟨sg4, al4, S4, _, f4.rs, rl4, q4, ⟨up, ue.rt.mono (f1.trans f), ue.nx.mono (f1.trans f), up, ue.ex.mono (f1.trans f)⟩⟩
  · have e : i = it.items.length := by omega
    subst e
    rw [List.drop_length] at w2
    obtain ⟨gr, w2⟩ := w2
    exact .inl ⟨iok.stop H2 al2 S2 f2 gr, ue.nx sg2 S2 al2 H2 sv (f1.trans f2) rl2 w2⟩

/-! ### what is walked -/
def iSq (te : TED) : TID := fun sg S k x => te sg S (fun d S' => match d with
  | .tup ds => k ⟨ds, fun _ => True⟩ S'
  | .ref n => ∃ ds, isL S' n ds ∧ k ⟨ds, fun S => isL S n ds⟩ S'
  | .str z => k ⟨z.cps.toList.map fun c => D.str ⟨#[c]⟩, fun _ => True⟩ S'
  | _ => False) x
def iSeqV (K : PySem.W.Frag) (tl : TE) : TI := fun σ H R => tl σ H fun x H1 => (∃ a, x = .ref a ∧ (∃ xs, SqL K H1 a xs) ∧ R (Itl K a) H1) ∨ (∃ a, x = .ref a ∧ (∃ xs, SqT K H1 a xs) ∧ R (Itt K a) H1) ∨ (∃ z, x = .str z ∧ R (Its z) H1)
theorem pi_seqV {l : Expr} {tl : TE} (hl : PE X l tl) : PI X tg l (iSeqV X.K tl) := by
  constructor
  intro pins s σ H R I h
  refine thn (hl.run pins s σ H _ I h) ?_
  rintro v s1 ⟨x, H1, I1, r1, q1⟩
  have fresh : ∀ b, b ∈ [s1.heap.objs.size] → _ := fun b hb => (show b = s1.heap.objs.size by simpa using hb) ▸ I1.fpOk (Nat.le_refl _) (I1.hok.fresh (Nat.le_refl _))
  have kept := fun (o : Obj) => I1.kept (t' := s1.toks) fun b u (e : s1.heap.get? b = some u) => Heap.get?_push_of_some o e
  obtain ⟨a, rfl, ⟨xs, hq⟩, q⟩ | ⟨a, rfl, ⟨xs, hq⟩, q⟩ | ⟨z, rfl, q⟩ := q1
  · cases r1
    obtain ⟨its, _, p, _⟩ := I1.list hq
    exact wpAny_pyIter_list p.isList ⟨_, [_], _, _, H1, rfl, kept _, turn_list a _, ⟨_, Heap.get?_push_size _ rfl, rfl, rfl⟩, fresh, q⟩
  · cases r1
    obtain ⟨its, _, p, _⟩ := I1.tuple hq
    exact wpAny_pyIter_tuple (show s1.heap.IsTuple a its.toArray from p) ⟨_, [_], _, _, H1, rfl, kept _, turn_tuple a _, ⟨_, Heap.get?_push_size _ rfl, rfl, rfl⟩, fresh, q⟩
  · obtain ⟨t, rfl⟩ := r1
    cases hz : z.cps.all (· < 128) with
    | false => exact wpAny_pyIter_wide hz (pi_one (tk := s1.toks) I1 _ (turn_str _ z t "str_iterator" (.inr rfl)) ⟨_, Heap.get?_push_size _ rfl, rfl, rfl⟩ q)
    | true => exact wpAny_pyIter_ascii hz (pi_one (tk := s1.toks) I1 _ (turn_str _ z t "str_ascii_iterator" (.inl rfl)) ⟨_, Heap.get?_push_size _ rfl, rfl, rfl⟩ q)
theorem fut_same {K : PySem.W.Frag} {H H' H'' : Hp} {al al' : List Addr} {S' : Sto} (f : Fut K H al H' al' S') (e : H'' = H') : Fut K H' al' H'' al' S' := by
  subst e
  exact .now f.rs
theorem pi_imp {l : Expr} {t t' : TI} (h : PI X tg l t) (f : ∀ s H R, t' s H R → t s H R) : PI X tg l t' := ⟨fun pins s σ H R I q => h.run pins s σ H R I (f σ H R q)⟩
theorem isL_sq {K : PySem.W.Frag} {H : Hp} {al : List Addr} {S : Sto} {n : Nat} {ds : List D} {a : Addr} (rs : RS K H al S) (h : isL S n ds) (ha : al[n]? = some a) : ∃ vs, SqL K H a vs ∧ RDs K H al ds vs := by
  obtain ⟨b, vs, e, hb, h1, r1⟩ := isL_at rs h (v := .ref a) ⟨a, rfl, ha⟩
  cases e
  exact ⟨vs, h1, r1⟩
theorem getExt {al al' : List Addr} {K : PySem.W.Frag} {H H' : Hp} {S' : Sto} (f : Fut K H al H' al' S') {n : Nat} {a : Addr} (h : al[n]? = some a) : al'[n]? = some a := by
  obtain ⟨t, e⟩ := f.ext
  subst e
  exact getE h
theorem it_tup {K : PySem.W.Frag} {H : Hp} {al : List Addr} {a : Addr} {ds : List D} {vs : List V} (h : SqT K H a vs) (r : RDs K H al ds vs) : ItOK K (Itt K a) ⟨ds, fun _ => True⟩ H al where
  go := fun i H' al' S' f _ hi => by
    have r' := f.rds r
    have hl : i < vs.length := by rw [RDs.length r]; exact hi
    exact ⟨vs, vs[i], sqt_keep f.keep h, List.getElem?_eq_getElem hl⟩
  yld := fun i d H' al' S' x H'' f _ hd hy => by
    obtain ⟨e, hy⟩ := hy
    refine ⟨fut_same f e, ?_⟩
    subst e
    obtain ⟨v, hv, rv⟩ := RDs.get (f.rds r) hd
    have := hy vs (sqt_keep f.keep h)
    rw [hv] at this
    cases this
    exact rv
  stop := fun H' al' S' f _ => ⟨vs, sqt_keep f.keep h, by rw [RDs.length r]; exact Nat.le_refl _⟩
theorem it_lst {K : PySem.W.Frag} {H : Hp} {al : List Addr} {a : Addr} {n : Nat} {ds : List D} (ha : al[n]? = some a) : ItOK K (Itl K a) ⟨ds, fun S => isL S n ds⟩ H al where
  go := fun i H' al' S' f g hi => by
    obtain ⟨vs, h1, r1⟩ := isL_sq f.rs g (getExt f ha)
    have hl : i < vs.length := by rw [RDs.length r1]; exact hi
    exact ⟨vs, vs[i], h1, List.getElem?_eq_getElem hl⟩
  yld := fun i d H' al' S' x H'' f g hd hy => by
    obtain ⟨e, hy⟩ := hy
    refine ⟨fut_same f e, ?_⟩
    subst e
    obtain ⟨vs, h1, r1⟩ := isL_sq f.rs g (getExt f ha)
    obtain ⟨v, hv, rv⟩ := RDs.get r1 hd
    have := hy vs h1
    rw [hv] at this
    cases this
    exact rv
  stop := fun H' al' S' f g => by
    obtain ⟨vs, h1, r1⟩ := isL_sq f.rs g (getExt f ha)
    exact ⟨vs, h1, by rw [RDs.length r1]; exact Nat.le_refl _⟩
theorem it_str {K : PySem.W.Frag} {H : Hp} {al : List Addr} {z : Str} : ItOK K (Its z) ⟨z.cps.toList.map fun c => D.str ⟨#[c]⟩, fun _ => True⟩ H al where
  go := fun i H' al' S' f g hi => by
    have hi : i < (z.cps.toList.map fun c => D.str ⟨#[c]⟩).length := hi
    rw [List.length_map] at hi
    exact hi
  yld := fun i d H' al' S' x H'' f g hd hy => by
    obtain ⟨e, c, hc, hy⟩ := hy
    refine ⟨fut_same f e, ?_⟩
    have hd : (z.cps.toList.map fun c => D.str ⟨#[c]⟩)[i]? = some d := hd
    rw [List.getElem?_map, Array.getElem?_toList, hc] at hd
    cases hd
    exact hy
  stop := fun H' al' S' f g => by
    show z.cps.size ≤ (z.cps.toList.map fun c => D.str ⟨#[c]⟩).length
    rw [List.length_map]
    exact Nat.le_refl _
theorem it_rng {K : PySem.W.Frag} {H : Hp} {al : List Addr} {lo : Int} {n : Nat} : ItOK K (Itr lo n) ⟨(List.range n).map fun i => D.int (lo + (i : Nat)), fun _ => True⟩ H al where
  go := fun i H' al' S' f g hi => by
    have hi : i < ((List.range n).map fun i => D.int (lo + (i : Nat))).length := hi
    rw [List.length_map, List.length_range] at hi
    exact hi
  yld := fun i d H' al' S' x H'' f g hd hy => by
    obtain ⟨e, hy⟩ := hy
    refine ⟨fut_same f e, ?_⟩
    have hd : ((List.range n).map fun i => D.int (lo + (i : Nat)))[i]? = some d := hd
    have hl := (List.getElem?_eq_some_iff.mp hd).1
    rw [List.length_map, List.length_range] at hl
    rw [List.getElem?_map, List.getElem?_range hl] at hd
    cases hd
    exact hy
  stop := fun H' al' S' f g => by
    show n ≤ ((List.range n).map fun i => D.int (lo + (i : Nat))).length
    rw [List.length_map, List.length_range]
    exact Nat.le_refl _
theorem q_iSq (he : QE X E e te) : QI X E tg e (iSq te) :=
  pi_imp (pi_seqV he) fun s H R ⟨sg, al, S, kd, xd, rs, rl, q, up, ux⟩ => ⟨sg, al, S, _, xd, rs, rl, q, fun d S1 al1 H1 v f1 r1 q1 => by
    cases d <;> try exact q1.elim
    case tup ds =>
      obtain ⟨a, vs, e, h1, r1⟩ := r1
      exact .inr (.inl ⟨a, e, ⟨vs, h1⟩, up _ S1 al1 H1 _ f1 (it_tup h1 r1) q1⟩)
    case ref n =>
      obtain ⟨ds, hl, q1⟩ := q1
      obtain ⟨a, vs, e, ha, h1, r2⟩ := isL_at f1.rs hl r1
      exact .inl ⟨a, e, ⟨vs, h1⟩, up _ S1 al1 H1 _ f1 (it_lst ha) q1⟩
    case str z =>
      exact .inr (.inr ⟨z, r1, up _ S1 al1 H1 _ f1 it_str q1⟩), ux⟩
def kRg1 (k : ItD → Sto → Prop) : List D → Sto → Prop := fun ds S => match ds with
  | [.int j] => -(2 ^ 62) ≤ j ∧ j < 2 ^ 62 ∧ k ⟨(List.range j.toNat).map fun i => D.int (0 + (i : Nat)), fun _ => True⟩ S
  | _ => False
def iRg1 (ta : TAD) : TID := fun sg S k x => ta sg S (kRg1 k) x
def kRg2 (k : ItD → Sto → Prop) : List D → Sto → Prop := fun ds S => match ds with
  | [.int i, .int j] => (-(2 ^ 62) ≤ i ∧ i < 2 ^ 62 ∧ -(2 ^ 62) ≤ j ∧ j < 2 ^ 62) ∧ k ⟨(List.range (j - i).toNat).map fun n => D.int (i + (n : Nat)), fun _ => True⟩ S
  | _ => False
def iRg2 (ta : TAD) : TID := fun sg S k x => ta sg S (kRg2 k) x
theorem q_rg1 {a : Expr} {ta : TAD} {p : Pos} (hg : Gl X "range") (hm : X.mg "range" = none) (ha : QA X E [a] ta) (hs : starEach [a] X.env = [(false, eval a X.env)] := by rfl) : QI X E tg (.Call (.Name "range" p) [a] [] pos) (iRg1 ta) :=
  pi_imp (pi_range1 hg hm ha hs) fun s H R ⟨sg, al, S, kd, xd, rs, rl, q, up, ux⟩ => ⟨sg, al, S, kRg1 kd, xd, rs, rl, q, fun ds S1 al1 H1 vs f1 r1 q1 => by
    unfold kRg1 at q1
    split at q1
    · obtain ⟨v, e, rv⟩ := rds1 r1
      cases (show v = _ from rv)
      exact ⟨_, e, q1.1, q1.2.1, up _ S1 al1 H1 _ f1 it_rng q1.2.2⟩
    · exact q1.elim, ux⟩
theorem q_rg2 {a b : Expr} {ta : TAD} {p : Pos} (hg : Gl X "range") (hm : X.mg "range" = none) (ha : QA X E [a, b] ta) (hs : starEach [a, b] X.env = [(false, eval a X.env), (false, eval b X.env)] := by rfl) (hs2 : starEach [b] X.env = [(false, eval b X.env)] := by rfl) : QI X E tg (.Call (.Name "range" p) [a, b] [] pos) (iRg2 ta) :=
  pi_imp (pi_range2 hg hm ha hs hs2) fun s H R ⟨sg, al, S, kd, xd, rs, rl, q, up, ux⟩ => ⟨sg, al, S, kRg2 kd, xd, rs, rl, q, fun ds S1 al1 H1 vs f1 r1 q1 => by
    unfold kRg2 at q1
    split at q1
    · obtain ⟨v, v', e, rv, rv'⟩ := rds2 r1
      cases (show v = _ from rv)
      cases (show v' = _ from rv')
      exact ⟨_, _, e, q1.1, up _ S1 al1 H1 _ f1 it_rng q1.2⟩
    · exact q1.elim, ux⟩

/-! ### comprehensions -/
theorem rsl_wipe {K : PySem.W.Frag} {H : Hp} {al : List Addr} {sg : Sl} {sv : L2.St} (r : RSl K H al sg sv) : ∀ vs : List Nat, RSl K H al (wipeD sg vs) (wipe sv vs)
  | [] => r
  | v :: vs => by
    have ih := rsl_wipe r vs
    refine ⟨by show ((wipeD sg vs).set v none).length = ((wipe sv vs).set v none).length; rw [List.length_set, List.length_set, ih.len], fun i d h => ?_⟩
    have h : ((wipeD sg vs).set v none)[i]? = some (some d) := h
    by_cases hv : v = i
    · subst hv
      by_cases hl : v < (wipeD sg vs).length
      · rw [List.getElem?_set_self hl] at h
        cases h
      · rw [List.getElem?_eq_none (by rw [List.length_set]; omega)] at h
        cases h
    · rw [List.getElem?_set_ne hv] at h
      obtain ⟨w, e, rw'⟩ := ih.at_ i d h
      exact ⟨w, by show ((wipe sv vs).set v none)[i]? = _; rw [List.getElem?_set_ne hv]; exact e, rw'⟩
abbrev QTs (X : Cx) (E : XK) (e : List Expr) (t : TTD) : Prop := PTs X e (LT (cy X E) t)
theorem q_tnil : QTs X E [] dYes := ⟨fun pins s σ H Q I ⟨sg, al, S, kd, xd, rs, rl, q, up, ux⟩ => pts_nil.run pins s σ H Q I (up true S al H (.now rs) q)⟩
theorem q_tone {c : Expr} {t : TTD} (h : QT X E c t) : QTs X E [c] t := pts_one h
theorem ux0 {K : PySem.W.Frag} {mg : Str → Option Value} {H : Hp} {al : List Addr} {E : XK} : UpX ⟨K, mg, E⟩ H al XF := fun ex S' al' H' cls d f r h => h.elim
/-- the reading of a comprehension: from data to the layer's -/
theorem lc_red {K : PySem.W.Frag} {mg : Str → Option Value} {ti : TID} {g : TGD} {tt : TTD} {te : TED} {vs : List Nat} {tV : TG} {s : L2.St} {H : Hp} {Q : VK} {E : XK}
    (hl : ∀ v s H Q, LG ⟨K, mg, E0⟩ g v s H Q → tV v s H Q) (hw : WipeOK vs tV) (h : LE ⟨K, mg, E⟩ (dLc ti g tt te vs) s H Q) : tLc (LI ⟨K, mg, E⟩ ti) tV (LT ⟨K, mg, E0⟩ tt) (LE ⟨K, mg, E0⟩ te) vs s H Q := by
  obtain ⟨sg, al, S, kd, xd, rs, rl, q, up, ux⟩ := h
  refine ⟨sg, al, S, kLc g tt te (wipeD sg vs) kd, xd, rs, rl, q, fun it S1 al1 H1 J f1 iok q1 => ?_, ux⟩
  intro D hD
  have q1 : wLc it.grd g tt te (wipeD sg vs) S1.length (fun S' => kd (.ref S1.length) S') it.items (S1 ++ [.lst []]) := q1
  have fN : Fut K H1 al1 (upd H1 D (.lst [])) (al1 ++ [D]) (S1 ++ [.lst []]) := new_lst f1.rs hD rfl
  have aN : (al1 ++ [D])[S1.length]? = some D := by rw [← f1.rs.len]; simp
  refine ⟨fun i m H' => ∃ al' S', Fut K (upd H1 D (.lst [])) (al1 ++ [D]) H' al' S' ∧ wLc it.grd g tt te (wipeD sg vs) S1.length (fun S' => kd (.ref S1.length) S') (it.items.drop i) S' ∧ m = it.items.length - i ∧ i ≤ it.items.length, ⟨it.items.length, _, _, .now fN.rs, q1, by simp, Nat.zero_le _⟩, ?_⟩
  rintro i m H2 ⟨al2, S2, f2, w2, rfl, hi⟩
  by_cases hlt : i < it.items.length
  · rw [List.drop_eq_getElem_cons hlt] at w2
    obtain ⟨gr, w2⟩ := w2
    refine .inr ⟨iok.go i H2 al2 S2 (fN.trans f2) gr hlt, fun H' => ∃ m', m' < it.items.length - i ∧ ∃ al' S', Fut K (upd H1 D (.lst [])) (al1 ++ [D]) H' al' S' ∧ wLc it.grd g tt te (wipeD sg vs) S1.length (fun S' => kd (.ref S1.length) S') (it.items.drop (i + 1)) S' ∧ m' = it.items.length - (i + 1) ∧ i + 1 ≤ it.items.length, fun H' h => h, fun x H' hy => ?_⟩
    obtain ⟨f3, r3⟩ := iok.yld i _ H2 al2 S2 x H' (fN.trans f2) gr (List.getElem?_eq_getElem hlt) hy
    have fA := (f1.trans fN).trans (f2.trans f3)
    refine hw _ _ _ _ _ (fun s2 H2 e q => ⟨e.trans (wipe_wipe _ _), q⟩) (hl _ _ _ _ ⟨_, wipeD sg vs, al2, S2, _, XF, f3.rs, rsl_wipe (fA.rsl rl) vs, r3, w2, fun sg4 S4 al4 H4 sv4 f4 rl4 q4 => ?_, ux0⟩)
    refine ⟨sg4, al4, S4, _, XF, f4.rs, rl4, q4, fun b S5 al5 H5 f5 q5 => ite_of ⟨fun e => ?_, fun e => ?_⟩, ux0⟩
    · refine ⟨sg4, al5, S5, _, XF, f5.rs, f5.rsl rl4, q5.1 e, fun y S6 al6 H6 v6 f6 r6 q6 => ?_, ux0⟩
      obtain ⟨acc, ha, hz, q6⟩ := q6
      have fB := ((f2.trans f3).trans f4).trans (f5.trans f6)
      have a6 := getExt fB aN
      obtain ⟨us, e6, ru⟩ := f6.rs.ob _ _ _ ha a6
      refine ⟨us, e6, by rw [RDs.length ru]; exact hz, it.items.length - (i + 1), by omega, al6, _, fB.trans (set_lst f6.rs ha a6 (RDs.append ru (RDs.one r6))), q6, rfl, hlt⟩
    · exact ⟨it.items.length - (i + 1), by omega, al5, S5, ((f2.trans f3).trans f4).trans f5, q5.2 e, rfl, hlt⟩
  · have e : i = it.items.length := by omega
    subst e
    rw [List.drop_length] at w2
    obtain ⟨gr, w2⟩ := w2
    exact .inl ⟨iok.stop H2 al2 S2 (fN.trans f2) gr, up (.ref S1.length) S2 al2 H2 (.ref D) ((f1.trans fN).trans f2) ⟨D, rfl, getExt f2 aN⟩ w2⟩
theorem q_lc {elt iter : Expr} {ifs : List Expr} {scope : Scope} {own : List (Str × Nat)} {ti : TID} {tt : TTD} (hc : X.calm = true) (hN : X.N.Nodup) (hi : QI X E tg iter ti) (ok : BlkOk X.N X.env.scope scope own)
    (hg : ∀ (s : Shared) (H : Hp) (C : Addr) (cl : List (Str × Addr)) (fp : List Addr), QG (X.blk s H scope (compEnvC scope cl C X.env) fp) E0 tg g tV is) (ht : ∀ (s : Shared) (H : Hp) (C : Addr) (cl : List (Str × Addr)) (fp : List Addr), QTs (X.blk s H scope (compEnvC scope cl C X.env) fp) E0 ifs tt)
    (he : ∀ (s : Shared) (H : Hp) (C : Addr) (cl : List (Str × Addr)) (fp : List Addr), QE (X.blk s H scope (compEnvC scope cl C X.env) fp) E0 elt te) (his : is.all (own.map (·.2)).contains = true := by rfl) (hs : ∀ x, foldedSetIterable iter X.env x = pure x := by intro _; rfl) :
    QE X E (.ListComp elt [⟨tg, iter, ifs, 0⟩] scope pos) (dLc ti g tt te (own.map (·.2))) := by
  have hv : ∀ i ∈ is, i ∈ own.map (·.2) := fun i hi => by
    have q := List.all_eq_true.mp his i hi
    simpa using q
  refine pe_imp (pe_lc (te := LE ⟨X.K, X.mg, E0⟩ te) (tt := LT ⟨X.K, X.mg, E0⟩ tt) hc hN hi ok (fun s H C cl fp => (hg s H C cl fp).1) ht he hs) fun s H Q q => ?_
  have h0 := hg X.s_0 H 0 [] []
  exact lc_red (mg := X.mg) h0.2.1 (h0.2.2 _ hv) q
theorem q_setLc {i : Nat} {y : Str} {py : Pos} {spos : Pos} {elt iter : Expr} {ifs : List Expr} {scope : Scope} {own : List (Str × Nat)} {ti : TID} {tt : TTD} (hc : X.calm = true) (hN : X.N.Nodup) (hi : QI X E tg iter ti) (ok : BlkOk X.N X.env.scope scope own)
    (hg : ∀ (s : Shared) (H : Hp) (C : Addr) (cl : List (Str × Addr)) (fp : List Addr), QG (X.blk s H scope (compEnvC scope cl C X.env) fp) E0 tg g tV is) (ht : ∀ (s : Shared) (H : Hp) (C : Addr) (cl : List (Str × Addr)) (fp : List Addr), QTs (X.blk s H scope (compEnvC scope cl C X.env) fp) E0 ifs tt)
    (he : ∀ (s : Shared) (H : Hp) (C : Addr) (cl : List (Str × Addr)) (fp : List Addr), QE (X.blk s H scope (compEnvC scope cl C X.env) fp) E0 elt te) (hsw : swapsWith (.ListComp elt [⟨tg, iter, ifs, 0⟩] scope pos) (some (.Name y py)) spos.line X.env = pure true) (his : is.all (own.map (·.2)).contains = true := by rfl)
    (hy : X.N[i]? = some y := by rfl) (hyl : X.env.scope.names.lookup y = some .local := by rfl) (hs : ∀ x, foldedSetIterable iter X.env x = pure x := by intro _; rfl) :
    QS X E (.Assign [.Name y py] (.ListComp elt [⟨tg, iter, ifs, 0⟩] scope pos) spos) (dSet i (dLc ti g tt te (own.map (·.2)))) := by
  have hv : ∀ i ∈ is, i ∈ own.map (·.2) := fun i hi => by
    have q := List.all_eq_true.mp his i hi
    simpa using q
  refine ps_imp (ps_setLc (te := LE ⟨X.K, X.mg, E0⟩ te) (tt := LT ⟨X.K, X.mg, E0⟩ tt) hc hN hy hyl hsw hi ok (fun s H C cl fp => (hg s H C cl fp).1) ht he hs) fun De s H ⟨sg, al, S, Dd, rs, rl, q, ue⟩ => ?_
  have h0 := hg X.s_0 H 0 [] []
  exact lc_red (mg := X.mg) (E := E) h0.2.1 (h0.2.2 _ hv) ⟨sg, al, S, kSet i Dd sg, Dd.ex, rs, rl, q, fun d S1 al1 H1 v f1 r1 q1 => ue.nx _ S1 al1 H1 _ f1 (rsl_set (f1.rsl rl) r1 i) q1, ue.ex⟩
end

/-! ### what a call gives back: garbage dropped -/
mutual
def mapR (f : Nat → Nat) : D → D
  | .non => .non
  | .bl b => .bl b
  | .int i => .int i
  | .str x => .str x
  | .tup ds => .tup (mapRs f ds)
  | .ref n => .ref (f n)
def mapRs (f : Nat → Nat) : List D → List D
  | [] => []
  | d :: ds => mapR f d :: mapRs f ds
end
mutual
def clD (m : Nat) : D → Prop
  | .tup ds => clDs m ds
  | .ref n => n < m
  | _ => True
def clDs (m : Nat) : List D → Prop
  | [] => True
  | d :: ds => clD m d ∧ clDs m ds
end
def clKs (m : Nat) : List (Key × D) → Prop
  | [] => True
  | d :: ds => clD m d.2 ∧ clKs m ds
def mapO (f : Nat → Nat) : O → O
  | .lst ds => .lst (mapRs f ds)
  | .ro ds => .ro (mapRs f ds)
  | .dic kvs => .dic (kvs.map fun p => (p.1, mapR f p.2))
  | .oth => .oth
def clO (m : Nat) : O → Prop
  | .lst ds => clDs m ds
  | .ro ds => clDs m ds
  | .dic kvs => clKs m kvs
  | .oth => True
def clS (S : Sto) : Prop := ∀ (k : Nat) (o : O), S[k]? = some o → clO S.length o
structure Wk (n : Nat) (f : Nat → Nat) (d : D) (S' : Sto) (d' : D) (S'' : Sto) : Prop where
  low : ∀ k, k < n → f k = k
  le : n ≤ S''.length
  inj : ∀ i j, i < S''.length → j < S''.length → f i = f j → i = j
  ob : ∀ (k : Nat) (o : O), S''[k]? = some o → clO S''.length o ∧ S'[f k]? = some (mapO f o)
  d : d = mapR f d'
  cl : clD S''.length d'
/-- what a def's caller gets: the store without what is new and out of reach -/
def wk (n : Nat) (kd : KD) : KD := fun d S' => kd d S' ∨ ∃ f d' S'', Wk n f d S' d' S'' ∧ kd d' S''
def wkX (n : Nat) (xd : XD) : XD := fun ex S' => xd ex S' ∨ ∃ f d' S'', Wk n f ex.2 S' d' S'' ∧ xd (ex.1, d') S''
section
variable {K : PySem.W.Frag} {H : Hp} {al ae : List Addr} {f : Nat → Nat} {m : Nat}
mutual
theorem rd_map (h : ∀ k, k < m → ae[k]? = al[f k]?) : ∀ (d : D) (v : V), RD K H al (mapR f d) v → clD m d → RD K H ae d v
  | .non, _, r, _ => r
  | .bl _, _, r, _ => r
  | .int _, _, r, _ => r
  | .str _, _, r, _ => r
  | .tup ds, _, ⟨a, vs, e, hs, r⟩, c => ⟨a, vs, e, hs, rds_map h ds vs r c⟩
  | .ref n, _, ⟨a, e, r⟩, c => ⟨a, e, (h n c).trans r⟩
theorem rds_map (h : ∀ k, k < m → ae[k]? = al[f k]?) : ∀ (ds : List D) (vs : List V), RDs K H al (mapRs f ds) vs → clDs m ds → RDs K H ae ds vs
  | [], _, r, _ => r
  | d :: ds, _, ⟨v, u, e, r1, r2⟩, c => ⟨v, u, e, rd_map h d v r1 c.1, rds_map h ds u r2 c.2⟩
end
theorem rks_map (h : ∀ k, k < m → ae[k]? = al[f k]?) : ∀ (ds : List (Key × D)) (vs : List (Key × V)), RKs K H al (ds.map fun p => (p.1, mapR f p.2)) vs → clKs m ds → RKs K H ae ds vs
  | [], _, r, _ => r
  | d :: ds, _, ⟨v, u, e, r1, r2⟩, c => ⟨v, u, e, rd_map h d.2 v r1 c.1, rks_map h ds u r2 c.2⟩
theorem ro_map (h : ∀ k, k < m → ae[k]? = al[f k]?) {o : O} {a : Addr} (r : RO K H al (mapO f o) a) (c : clO m o) : RO K H ae o a := by
  cases o with
  | lst ds => obtain ⟨vs, e, r⟩ := r; exact ⟨vs, e, rds_map h ds vs r c⟩
  | ro ds => obtain ⟨vs, e, r⟩ := r; exact ⟨vs, e, rds_map h ds vs r c⟩
  | dic ds => obtain ⟨vs, e, r⟩ := r; exact ⟨vs, e, rks_map h ds vs r c⟩
  | oth => trivial
mutual
theorem rd_cl : ∀ (d : D) (v : V), RD K H al d v → clD al.length d
  | .non, _, _ => trivial
  | .bl _, _, _ => trivial
  | .int _, _, _ => trivial
  | .str _, _, _ => trivial
  | .tup ds, _, ⟨a, vs, e, hs, r⟩ => rds_cl ds vs r
  | .ref n, _, ⟨a, e, r⟩ => (List.getElem?_eq_some_iff.mp r).1
theorem rds_cl : ∀ (ds : List D) (vs : List V), RDs K H al ds vs → clDs al.length ds
  | [], _, _ => trivial
  | d :: ds, _, ⟨v, u, e, r1, r2⟩ => ⟨rd_cl d v r1, rds_cl ds u r2⟩
end
theorem rks_cl : ∀ (ds : List (Key × D)) (vs : List (Key × V)), RKs K H al ds vs → clKs al.length ds
  | [], _, _ => trivial
  | d :: ds, _, ⟨v, u, e, r1, r2⟩ => ⟨rd_cl d.2 v r1, rks_cl ds u r2⟩
theorem rs_cl {S : Sto} (r : RS K H al S) : clS S := fun k o e => by
  have hk : k < al.length := by rw [r.len]; exact (List.getElem?_eq_some_iff.mp e).1
  have q := r.ob k o _ e (List.getElem?_eq_getElem hk)
  rw [← r.len]
  cases o with
  | lst ds => obtain ⟨vs, _, r1⟩ := q; exact rds_cl ds vs r1
  | ro ds => obtain ⟨vs, _, r1⟩ := q; exact rds_cl ds vs r1
  | dic ds => obtain ⟨vs, _, r1⟩ := q; exact rks_cl ds vs r1
  | oth => trivial
theorem mapO_mu (f : Nat → Nat) (o : O) : (mapO f o).mu = o.mu := by cases o <;> rfl
/-- the store weakened -/
theorem fut_wk {H0 : Hp} {al0 : List Addr} {S' S'' : Sto} {d d' : D} (w : Wk al0.length f d S' d' S'') (fu : Fut K H0 al0 H al S') : ∃ ae, Fut K H0 al0 H ae S'' ∧ (∀ k, k < S''.length → ae[k]? = al[f k]?) := by
  obtain ⟨t, et⟩ := fu.ext
  have hlt : ∀ k, k < S''.length → f k < al.length := fun k hk => by
    rw [fu.rs.len]
    exact (List.getElem?_eq_some_iff.mp (w.ob k _ (List.getElem?_eq_getElem hk)).2).1
  refine ⟨(List.range S''.length).map fun k => al.getD (f k) 0, ?_, ?_⟩
  case refine_2 =>
    intro k hk
    rw [List.getElem?_map, List.getElem?_range hk, List.getElem?_eq_getElem (hlt k hk)]
    simp [List.getD, List.getElem?_eq_getElem (hlt k hk)]
  have hget : ∀ k, k < S''.length → ((List.range S''.length).map fun k => al.getD (f k) 0)[k]? = al[f k]? := by
    intro k hk
    rw [List.getElem?_map, List.getElem?_range hk, List.getElem?_eq_getElem (hlt k hk)]
    simp [List.getD, List.getElem?_eq_getElem (hlt k hk)]
  have hlen : ((List.range S''.length).map fun k => al.getD (f k) 0).length = S''.length := by simp
  refine ⟨⟨((List.range S''.length).map fun k => al.getD (f k) 0).drop al0.length, ?_⟩, fu.keep, hlen, fun n k o u a e1 e2 m1 m2 a1 a2 => ?_, fun k o a e1 a1 => ?_⟩
  · refine List.ext_getElem? fun k => ?_
    by_cases hk : k < al0.length
    · rw [List.getElem?_append_left hk, hget k (Nat.lt_of_lt_of_le hk w.le), w.low k hk, et, List.getElem?_append_left hk]
    · rw [List.getElem?_append_right (by omega), List.getElem?_drop]
      congr 1
      omega
  · have hn : n < S''.length := (List.getElem?_eq_some_iff.mp e1).1
    have hk : k < S''.length := (List.getElem?_eq_some_iff.mp e2).1
    rw [hget n hn] at a1
    rw [hget k hk] at a2
    exact w.inj n k hn hk (fu.rs.nd (f n) (f k) _ _ a (w.ob n o e1).2 (w.ob k u e2).2 ((mapO_mu f o).trans m1) ((mapO_mu f u).trans m2) a1 a2)
  · have hk : k < S''.length := (List.getElem?_eq_some_iff.mp e1).1
    have a1' := a1
    rw [hget k hk] at a1'
    obtain ⟨c, e2⟩ := w.ob k o e1
    exact ro_map hget (fu.rs.ob (f k) _ a e2 a1') c
theorem up_wk {H0 : Hp} {al0 : List Addr} {kd : KD} {Q : VK} (up : Up K H0 al0 kd Q) : Up K H0 al0 (wk al0.length kd) Q := fun d S' al' H' v fu r h => by
  rcases h with h | ⟨f, d', S'', w, h⟩
  · exact up d S' al' H' v fu r h
  · obtain ⟨ae, f2, hg⟩ := fut_wk w fu
    refine up d' S'' ae H' v f2 (rd_map hg d' v ?_ w.cl) h
    rw [← w.d]
    exact r
theorem ux_wk {Y : Cy} {H0 : Hp} {al0 : List Addr} {xd : XD} (ux : UpX Y H0 al0 xd) : UpX Y H0 al0 (wkX al0.length xd) := fun ex S' al' H' cls d fu r h => by
  rcases h with h | ⟨f, d', S'', w, h⟩
  · exact ux ex S' al' H' cls d fu r h
  · obtain ⟨ae, f2, hg⟩ := fut_wk w fu
    obtain ⟨C, dx, v, e1, e2, e3, e4, r⟩ := r
    refine ux (ex.1, d') S'' ae H' cls d f2 ⟨C, dx, v, e1, e2, e3, e4, rd_map hg d' v ?_ w.cl⟩ h
    rw [← w.d]
    exact r
end

/-! ### THE RULE for a def -/
def startD (n : Nat) (ds : List D) : Sl := ds.map some ++ List.replicate (n - ds.length) none
theorem rsl_start {K : PySem.W.Frag} {H : Hp} {al : List Addr} {N : List Str} {ds : List D} {vs : List V} (r : RDs K H al ds vs) : RSl K H al (startD N.length ds) (L2.start N vs) := by
  refine ⟨by unfold startD L2.start; simp [RDs.length r], fun i d e => ?_⟩
  unfold startD at e
  by_cases hi : i < ds.length
  · rw [List.getElem?_append_left (by simpa using hi), List.getElem?_map] at e
    cases q : ds[i]? with
    | none => rw [q] at e; cases e
    | some d' =>
      rw [q] at e
      have e' : some d' = some d := Option.some.inj e
      cases e'
      obtain ⟨v, hv, rv⟩ := RDs.get r q
      refine ⟨v, ?_, rv⟩
      unfold L2.start
      rw [List.getElem?_append_left (by rw [List.length_map, RDs.length r]; exact hi), List.getElem?_map, hv]
      rfl
  · rw [List.getElem?_append_right (by simpa using hi), List.getElem?_replicate] at e
    split at e <;> cases e
/-- the end of a def's body -/
def endsD (n : Nat) (kd : KD) (xd : XD) : EndsD := ⟨fun _ S' => wk n kd .non S', wk n kd, fun _ _ => False, fun _ _ => False, wkX n xd⟩
section
variable {P : Program} {w : World} {K : PySem.W.Frag} {mg : Str → Option Value} {base : Heap} {x qual : Str} {params : Arguments} {body : List Stmt} {scope : Scope} {f : Addr} {fd : FuncData} {N ps : List Str} {k : Nat} {sp : SpD} {t : TSD}
/-- a body's reading keeps a promise -/
def Keeps (m : Nat) (N : Nat) (t : TSD) (sp : SpD) : Prop := ∀ ds S kd xd, ds.length = m → clS S → clDs S.length ds → sp ds S kd xd → t (endsD S.length kd xd) (startD N ds) S
theorem def_ok (F : FunD K x qual params body scope [] [] f fd) (S : FnScope N ps scope)
    (hbody : ∀ (cdv : Value) (A : Around) (outer : List Env) (s : Shared) (H : Hp) (E : XK), Room k (A.deeper (envOfC qual scope s.heap.objs.size f cdv)) → QSs (cxOf (L2.CX P w) P w K mg base N qual scope f cdv A outer s H E) E body t)
    (hsp : Keeps ps.length N.length t sp) : FnOk P w K mg base (L2.CX P w) (k + 1) f fd ps (LP K mg ps.length sp) := by
  refine F.ok S (fun vs H Q E h => h.1) fun cdv A outer s H vs Q E hr h => ?_
  obtain ⟨hl, ds, al, S0, kd, xd, rs, rd, q, up, ux⟩ := h
  refine ⟨_, hbody cdv A outer s H E hr, startD N.length ds, al, S0, endsD S0.length kd xd, rs, rsl_start rd, hsp ds S0 kd xd (by rw [← RDs.length rd]; exact hl) (rs_cl rs) (by rw [← rs.len]; exact rds_cl ds vs rd) q, ?_⟩
  rw [← rs.len]
  exact ⟨fun sg S' al' H' sv f1 r1 q1 => up_wk up .non S' al' H' .non f1 rfl q1, up_wk up, fun sg S' al' H' sv f1 r1 q1 => q1.elim, fun sg S' al' H' sv f1 r1 q1 => q1.elim, ux_wk ux⟩
end
/-! ### the law's end -/
theorem rol_only {K : PySem.W.Frag} {H : Hp} {a : Addr} {vs : List V} (o : Only H) (h : SqL K H a vs) : RoL K H a vs := by
  rcases h with (h | h) | h
  · rcases o a with z | ⟨ob, xs, z⟩
    · rw [z] at h; cases h
    · rw [z] at h; cases h
  · exact .inl h
  · exact .inr h
theorem law_sp {K : PySem.W.Frag} {mg : Str → Option Value} {sp : SpD} {H : Hp} {a : Addr} {ns : List Int} (o : Only H) (h : SqL K H a (ns.map V.int)) (q : sp [.ref 0] [.ro (ns.map D.int)] (fun d _ => d = .bl true) XF) :
    LP K mg 1 sp [.ref a] H (fun v _ => v = .bl true) (fun _ _ _ => False) := by
  refine ⟨rfl, [.ref 0], [a], [.ro (ns.map D.int)], _, XF, ⟨rfl, fun n m o u b e1 e2 m1 m2 a1 a2 => ?_, fun n ob b e1 e2 => ?_⟩, ⟨.ref a, [], rfl, ⟨a, rfl, rfl⟩, rfl⟩, q, fun d S' al' H' v f r e => ?_, fun ex S' al' H' cls d f r e => e.elim⟩
  · match n with
    | 0 => cases e1; cases m1
    | n + 1 => simp at e1
  · match n with
    | 0 =>
      cases e1
      cases e2
      exact ⟨_, rol_only o h, ints_rd ns⟩
    | n + 1 => simp at e1
  · cases (show d = .bl true from e)
    exact r
end Q
namespace Q
open PySem
open Spec PyProof.Rows L2

/-! ### calls with keywords, without arguments -/
def pick {α : Type} (idx : List Nat) (ws : List α) : List α := idx.filterMap fun j => ws[j]?
theorem pick_vals {idx : List Nat} {zs : List V} {ws : List Value} (r : Vals zs ws) : Vals (pick idx zs) (pick idx ws) := by
  unfold pick
  induction idx with
  | nil => exact .nil
  | cons j idx ih =>
    rw [List.filterMap_cons, List.filterMap_cons]
    cases e : zs[j]? with
    | none =>
      have e2 := r.none_of e
      rw [e2]
      exact ih
    | some v =>
      obtain ⟨u, e2, rv⟩ := r.get e
      rw [e2]
      exact .cons rv ih
theorem pick_rds {K : PySem.W.Frag} {H : Hp} {al : List Addr} {idx : List Nat} {ds : List D} {vs : List V} (r : RDs K H al ds vs) : RDs K H al (pick idx ds) (pick idx vs) := by
  unfold pick
  induction idx with
  | nil => exact rfl
  | cons j idx ih =>
    rw [List.filterMap_cons, List.filterMap_cons]
    cases e : ds[j]? with
    | none =>
      have e2 : vs[j]? = none := by
        rw [List.getElem?_eq_none_iff] at e ⊢
        rw [RDs.length r]
        exact e
      rw [e2]
      exact ih
    | some d =>
      obtain ⟨v, e2, rv⟩ := RDs.get r e
      rw [e2]
      exact ⟨v, _, rfl, rv, ih⟩
/-- how a call with keywords binds -/
structure KB (K : PySem.W.Frag) (fd : FuncData) (ps : List Str) (n : Nat) (ks : List Str) (idx : List Nat) : Prop where
  to : ∀ (s : Shared) (us ws : List Value), us.length = n → ws.length = ks.length → BindsTo s fd ⟨us, ks.zip ws⟩ (ps.zip (us ++ pick idx ws))
theorem kb_of {K : PySem.W.Frag} {x qual : Str} {params : Arguments} {body : List Stmt} {scope : Scope} {f : Addr} {fd : FuncData} {ps : List Str} (F : FunD K x qual params body scope [] [] f fd) (n : Nat) (ks : List Str) (idx : List Nat)
    (h : ∀ (kV doc pm : Value) (an : Option Addr) (cdv ct : Value) (us ws : List Value), us.length = n → ws.length = ks.length → bindArgs (PySem.W.fnOf x qual params body scope .none kV doc pm an cdv ct) ⟨us, ks.zip ws⟩ = pure (ps.zip (us ++ pick idx ws))) : KB K fd ps n ks idx := by
  obtain ⟨_, _, dV, kV, doc, pm, an, cdv, ct, _, rfl, _, _, ⟨_, rfl⟩ | ⟨e, _⟩, _⟩ := F.ex
  · exact ⟨fun s us ws l1 l2 => .of_eq (h kV doc pm an cdv ct us ws l1 l2)⟩
  · exact (e rfl).elim
def kCK2 (r : SpD) (n m : Nat) (idx : List Nat) (k : KD) (x : XD) (ds : List D) : List D → Sto → Prop := fun zs S => ds.length = n ∧ zs.length = m ∧ r (ds ++ pick idx zs) S k x
def kCK1 (r : SpD) (n m : Nat) (idx : List Nat) (tk : TAD) (sg : Sl) (k : KD) (x : XD) : List D → Sto → Prop := fun ds S => tk sg S (kCK2 r n m idx k x ds) x
def dCallK (r : SpD) (n m : Nat) (idx : List Nat) (t tk : TAD) : TED := fun sg S k x => t sg S (kCK1 r n m idx tk sg k x) x
section
variable {X : Cx} {E : XK} {e : Expr} {es : List Expr} {te : TED} {tr tk : TAD} {pos p kpos : Pos} {kws : List Keyword} {nm : Option Str}
abbrev QK (X : Cx) (E : XK) (kws : List Keyword) (t : TAD) : Prop := PK X kws (LA (cy X E) t)
theorem pk_imp {t t' : TA} (h : PK X kws t) (f : ∀ s H Q, t' s H Q → t s H Q) : PK X kws t' := ⟨fun pos pins s σ H Q I q => h.run pos pins s σ H Q I (f σ H Q q)⟩
theorem q_knil : QK X E [] dNil := pk_imp pk_nil fun s H Q ⟨sg, al, S, kd, xd, rs, rl, q, up, ux⟩ => up [] S al H [] (.now rs) rfl q
theorem q_kcons (ha : QE X E e te) (hr : QK X E kws tr) : QK X E (⟨nm, e, kpos⟩ :: kws) (dCons te tr) :=
  pk_imp (pk_cons ha hr) fun s H Q ⟨sg, al, S, kd, xd, rs, rl, q, up, ux⟩ => ⟨sg, al, S, kCons1 tr sg kd xd, xd, rs, rl, q, fun d S1 al1 H1 v f1 r1 q1 =>
    ⟨sg, al1, S1, kCons2 kd d, xd, f1.rs, f1.rsl rl, q1, fun ds S2 al2 H2 vs f2 r2 q2 => up (d :: ds) S2 al2 H2 (v :: vs) (f1.trans f2) ⟨v, vs, rfl, f2.rd r1, r2⟩ q2, ux.mono f1⟩, ux⟩
variable {k n : Nat} {f : Addr} {fd : FuncData} {ps ks : List Str} {sp : SpD} {x : Str} {idx : List Nat}
theorem runK {pins : List (Addr × Obj)} {σ : L2.St} {H : Hp} {s : Shared} {Q : VK} {us ws : List Value} {vs zs : List V} (F : FnOk X.prog X.w X.K X.mg X.base (L2.CX X.prog X.w) k f fd ps (LP X.K X.mg ps.length sp)) (hr : Room k X.A) (hb : KB X.K fd ps n ks idx) (hx : Passes (L2.CX X.prog X.w) X E)
    (I : Inv X pins σ H s) (r : Vals vs us) (rz : Vals zs ws) (l1 : vs.length = n) (l2 : zs.length = ks.length) (h : LP X.K X.mg ps.length sp (vs ++ pick idx zs) H Q E) : wpAny (model X.prog X.w) X.A (call (.ref f) us (ks.zip ws)) (EP X pins σ Q) X.xe s := by
  have r2 := r.append (pick_vals (idx := idx) rz)
  refine wpAny_call (codeAny_mono (F.run X.A X.stack s H ⟨us, ks.zip ws⟩ (us ++ pick idx ws) (vs ++ pick idx zs) Q E hr I.env0 (hb.to s us ws (r.length.symm.trans l1) (rz.length.symm.trans l2)) r2 h) ?_)
  intro r s' hq
  match r, hq with
  | .error e, hq => exact hx pins σ H s e s' I hq
  | .ok (.ret u), hq => exact I.after hq
  | .ok .next, hq => exact hq.elim
  | .ok .brk, hq => exact hq.elim
  | .ok .cont, hq => exact hq.elim
theorem q_callK (F : FnOk X.prog X.w X.K X.mg X.base (L2.CX X.prog X.w) k f fd ps (LP X.K X.mg ps.length sp)) (hr : Room k X.A) (hg : Gl X x) (hm : X.mg x = some (.ref f)) (hk : PySem.W.keepIn X.K (.ref f) = true) (hb : KB X.K fd ps n ks idx) (hx : Passes (L2.CX X.prog X.w) X E)
    (ha : QA X E (e :: es) tr) (hkw : QK X E kws tk) (hall : (backToKw pos (keywordEach kws X.env)).all (·.1.isSome) = true := by rfl) (hks : (backToKw pos (keywordEach kws X.env)).filterMap (·.1) = ks := by rfl) (hdb : (x == ("__debug__" : Str)) = false := by decide) (he : starEach (e :: es) X.env = (false, eval e X.env) :: starEach es X.env := by rfl) (hpl : ((backTo pos (starEach (e :: es) X.env)).any (·.1) || (backToKw pos (keywordEach kws X.env)).any (·.1.isNone)) = false := by rfl) :
    QE X E (.Call (.Name x p) (e :: es) kws pos) (dCallK (spN ps.length sp) n ks.length idx tr tk) := by
  constructor
  rintro pins s σ H Q I ⟨sg, al, S, kd, xd, rs, rl, q, up, ux⟩
  refine wpAny_Call_Name_kw <| ld_glob I hg hm (PySem.W.callWith_KW (h₀ := X.base) I.ok.mod.kin hk hall (thn (ha.run pos pins s σ H (fun vs H1 => ∃ ds al1 S1, Fut X.K H al H1 al1 S1 ∧ RDs X.K H1 al1 ds vs ∧ kCK1 (spN ps.length sp) n ks.length idx tk sg kd xd ds S1) I
    ⟨sg, al, S, _, xd, rs, rl, q, fun ds S1 al1 H1 vs f1 r1 q1 => ⟨ds, al1, S1, f1, r1, q1⟩, ux⟩) fun us s1 ⟨vs, H1, I1, r, ds, al1, S1, f1, r1, q1⟩ => ?_) hpl he) hdb
  refine thn (hkw.run pos pins s1 σ H1 (fun zs H2 => ∃ es al2 S2, Fut X.K H1 al1 H2 al2 S2 ∧ RDs X.K H2 al2 es zs ∧ kCK2 (spN ps.length sp) n ks.length idx kd xd ds es S2) I1
    ⟨sg, al1, S1, _, xd, f1.rs, f1.rsl rl, q1, fun es S2 al2 H2 vs f2 r2 q2 => ⟨es, al2, S2, f2, r2, q2⟩, ux.mono f1⟩) fun ws s2 ⟨zs, H2, I2, rz, es, al2, S2, f2, r2, l1, l2, q2⟩ => ⟨I2.kIn, ?_⟩
  rw [hks]
  exact runK F hr hb hx I2 r rz (by rw [RDs.length r1]; exact l1) (by rw [RDs.length r2]; exact l2)
    ⟨by rw [RDs.length (RDs.append (f2.rds r1) (pick_rds r2))]; exact q2.1, ds ++ pick idx es, al2, S2, kd, xd, f2.rs, RDs.append (f2.rds r1) (pick_rds r2), q2.2, up.mono (f1.trans f2), ux.mono (f1.trans f2)⟩
theorem q_callK0 (F : FnOk X.prog X.w X.K X.mg X.base (L2.CX X.prog X.w) k f fd ps (LP X.K X.mg ps.length sp)) (hr : Room k X.A) (hg : Gl X x) (hm : X.mg x = some (.ref f)) (hk : PySem.W.keepIn X.K (.ref f) = true) (hb : KB X.K fd ps 0 ks idx) (hx : Passes (L2.CX X.prog X.w) X E)
    (hkw : QK X E kws tk) (hall : (backToKw pos (keywordEach kws X.env)).all (·.1.isSome) = true := by rfl) (hks : (backToKw pos (keywordEach kws X.env)).filterMap (·.1) = ks := by rfl) (hdb : (x == ("__debug__" : Str)) = false := by decide) (hpl : ((backTo pos (starEach [] X.env)).any (·.1) || (backToKw pos (keywordEach kws X.env)).any (·.1.isNone)) = false := by rfl) :
    QE X E (.Call (.Name x p) [] kws pos) (dCallK (spN ps.length sp) 0 ks.length idx dNil tk) := by
  constructor
  rintro pins s σ H Q I ⟨sg, al, S, kd, xd, rs, rl, q, up, ux⟩
  refine wpAny_Call_Name_kw <| ld_glob I hg hm (PySem.W.callWith_KW0 (h₀ := X.base) I.ok.mod.kin hk hall ?_ hpl) hdb
  refine thn (hkw.run pos pins s σ H (fun zs H2 => ∃ es al2 S2, Fut X.K H al H2 al2 S2 ∧ RDs X.K H2 al2 es zs ∧ kCK2 (spN ps.length sp) 0 ks.length idx kd xd [] es S2) I
    ⟨sg, al, S, _, xd, rs, rl, q, fun es S2 al2 H2 vs f2 r2 q2 => ⟨es, al2, S2, f2, r2, q2⟩, ux⟩) fun ws s2 ⟨zs, H2, I2, rz, es, al2, S2, f2, r2, l1, l2, q2⟩ => ⟨I2.kIn, ?_⟩
  rw [hks]
  exact runK F hr hb hx I2 (vs := []) .nil rz rfl (by rw [RDs.length r2]; exact l2)
    ⟨by have := RDs.length (pick_rds (idx := idx) r2); rw [List.nil_append, this]; exact q2.1, [] ++ pick idx es, al2, S2, kd, xd, f2.rs, pick_rds r2, q2.2, up.mono f2, ux.mono f2⟩
theorem q_call0 (F : FnOk X.prog X.w X.K X.mg X.base (L2.CX X.prog X.w) k f fd ps (LP X.K X.mg n sp)) (hr : Room k X.A) (hg : Gl X x) (hm : X.mg x = some (.ref f)) (hk : PySem.W.keepIn X.K (.ref f) = true) (hb : Binds X.K fd ps []) (hx : Passes (L2.CX X.prog X.w) X E)
    (hdb : (x == ("__debug__" : Str)) = false := by decide) :
    QE X E (.Call (.Name x p) [] [] pos) (dCall (spN n sp) dNil) :=
  pe_imp (pe_call0 (dvs := []) F hr hg hm hk hb .nil hx hdb) fun s H Q ⟨sg, al, S, kd, xd, rs, rl, q, up, ux⟩ =>
    ⟨q.1, [], al, S, kd, xd, rs, rfl, q.2, up, ux⟩
/-- no exception is wished for: inside a comprehension -/
theorem passE0 : Passes (L2.CX X.prog X.w) X E0 := passL
end
end Q
namespace Q
open PySem
open Spec PyProof.Rows L2

/-- a def of the text, known to a caller -/
structure FT (P : Program) (w : World) (K : PySem.W.Frag) (mg : Str → Option Value) (base : Heap) (x : Str) (k : Nat) (ps : List Str) (sp : SpD) (f : Addr) (fd : FuncData) : Prop where
  ok : FnOk P w K mg base (L2.CX P w) k f fd ps (LP K mg ps.length sp)
  hm : mg x = some (.ref f)
  hk : PySem.W.keepIn K (.ref f) = true
  hb : Binds K fd ps []
section
variable {P : Program} {w : World} {K : PySem.W.Frag} {mg : Str → Option Value} {base : Heap} {N : List Str} {qual : Str} {scope : Scope} {f : Addr} {cd : Value} {A : Around} {outer : List Env} {s : Shared} {H : Hp} {E : XK}
theorem takes_cx : Takes (cxOf (L2.CX P w) P w K mg base N qual scope f cd A outer s H E) (fun c d _ H => E c d H) := takes_of rfl rfl rfl rfl
theorem pass_cx : Passes (L2.CX P w) (cxOf (L2.CX P w) P w K mg base N qual scope f cd A outer s H E) E := passes_call takes_cx fun _ _ _ _ h => h
theorem own_cx : PassesOwn (model P w) (cxOf (L2.CX P w) P w K mg base N qual scope f cd A outer s H E).A (cxOf (L2.CX P w) P w K mg base N qual scope f cd A outer s H E).env (cxOf (L2.CX P w) P w K mg base N qual scope f cd A outer s H E).xe := passes_of rfl
end
def GlOk (mg : Str → Option Value) (x : Str) (u : Value) (d : D) : Prop := mg x = some u ∧ ((∃ i, d = .int i ∧ RelV (.int i) u) ∨ ∃ z, d = .str z ∧ RelV (.str z) u)
theorem gl_int {mg : Str → Option Value} {x : Str} {i : Int} (h : ∃ t, mg x = some (.int i t)) : ∃ u, GlOk mg x u (.int i) := by
  obtain ⟨t, e⟩ := h
  exact ⟨_, e, .inl ⟨i, rfl, t, rfl⟩⟩
theorem gl_str {mg : Str → Option Value} {x z : Str} (h : ∃ t, mg x = some (.str z t)) : ∃ u, GlOk mg x u (.str z) := by
  obtain ⟨t, e⟩ := h
  exact ⟨_, e, .inr ⟨z, rfl, t, rfl⟩⟩
/-- a module's name for a built-in function -/
theorem q_callBf {X : Cx} {E : XK} {e : Expr} {es : List Expr} {tr : TAD} {pos p : Pos} {x : Str} {id : String} {r : SpD} (hc : CallR X (.builtin id) (LLs (cy X E) r)) (hm : X.mg x = some (.builtin id)) (ha : QA X E (e :: es) tr) (hg : Gl X x := by rfl) (hdb : (x == ("__debug__" : Str)) = false := by decide)
    (h1 : starEach (e :: es) X.env = (false, eval e X.env) :: starEach es X.env := by rfl) (h2 : (backTo pos (starEach es X.env)).any (·.1) = false := by rfl) : QE X E (.Call (.Name x p) (e :: es) [] pos) (dCall r tr) :=
  pe_imp (pe_callBfun hc hg hm ha hdb h1 h2) fun s H Q q => lls q
def spGcd : SpD := fun ds S k _ => match ds with
  | [.int i, .int j] => k (.int ((Nat.gcd i.natAbs j.natAbs : Nat) : Int)) S
  | _ => False
theorem c_gcd {X : Cx} {E : XK} : CallR X (.builtin "math.gcd") (LLs (cy X E) spGcd) := by
  intro pins s σ H xs us Q I r ⟨ds, al, S, kd, xd, rs, rd, q, up, ux⟩
  unfold spGcd at q
  split at q
  · obtain ⟨v, v', e, rv, rv'⟩ := rds2 rd
    cases (show v = _ from rv)
    cases (show v' = _ from rv')
    subst e
    exact cr_gcd pins s σ H _ us Q I r ⟨_, _, rfl, up_at up rs (d := .int _) rfl q⟩
  · exact q.elim
/-! ### the hook: what stands at the head, with the module's names of built-in things -/
def bfB (K : PySem.W.Frag) (p : Str × Value) : Bool := He.eqO (PySem.W.nsIn K mainGlobals p.1) (some (some p.2))
theorem bf_ok {K : PySem.W.Frag} {h : Heap} {mg : Str → Option Value} (X : K.In h) (G : h.Ns mainGlobals mg) {x : Str} {u : Value} (c : bfB K (x, u) = true) : mg x = some u := PySem.W.mg_of X G (He.eqO_ok c)
abbrev AlB : Type := Bool × He.AlD
def obsB (bf : List (Str × Value)) (fa : List He.Fa) (fn : List He.DefD) (K : PySem.W.Frag) : AlB := (bf.all (bfB K), He.obsD fa fn K)
def SaysB (bf : List (Str × Value)) (fa : List He.Fa) (fn : List He.DefD) (K : PySem.W.Frag) : Prop := bf.all (bfB K) = true ∧ He.SaysD fa fn K
def obsBG (n : Nat) (bf : List (Str × Value)) (fa : List He.Fa) (fn : List He.DefD) (g : Addr → Option Obj) : AlB := obsB bf fa fn (He.frG g (He.asD g n))
def hookB (n : Nat) (bf : List (Str × Value)) (fa : List He.Fa) (fn : List He.DefD) : PySem.W.Hook where
  α := AlB
  obs s := obsBG n bf fa fn s.heap.get?
  val _ := (true, He.valD fn)
  says _ h := ∃ K : PySem.W.Frag, K.In h ∧ SaysB bf fa fn K
  of _ _ e := ⟨_, He.frG_in, congrArg (fun z : AlB => z.1) e, congrArg (fun z : AlB => z.2) e⟩
  keeps _ _ _ := fun ⟨K, hK, c⟩ k => ⟨K, PySem.W.Frag.In.keeps hK k, c⟩
theorem obsBG_eq {n : Nat} {bf : List (Str × Value)} {fa : List He.Fa} {fn : List He.DefD} {g : Addr → Option Obj} {s : Shared} (h : ∀ a, g a = s.heap.get? a) : obsBG n bf fa fn g = (hookB n bf fa fn).obs s :=
  (congrArg (obsBG n bf fa fn) (funext h : g = s.heap.get?)).trans rfl
theorem SaysB.bf {bf : List (Str × Value)} {fa : List He.Fa} {fn : List He.DefD} {K : PySem.W.Frag} (c : SaysB bf fa fn K) (i : Nat) {p : Str × Value} (h : bf[i]? = some p := by rfl) : bfB K p = true := List.all_eq_true.mp c.1 p (List.mem_of_getElem? h)
theorem q_glb {X : Cx} {E : XK} {x : Str} {u : Value} {d : D} {pos : Pos} (g : GlOk X.mg x u d) (hg : Gl X x := by rfl) (hd : (x == ("__debug__" : Str)) = false := by decide) : QE X E (.Name x pos) (dC d) := by
  obtain ⟨hm, ⟨i, e, r⟩ | ⟨z, e, r⟩⟩ := g
  · subst e
    exact q_val (pe_glob hg hm r hd) fun _ _ => rfl
  · subst e
    exact q_val (pe_glob hg hm r hd) fun _ _ => rfl
def rIAdd : R2D := fun d e S k _ => match d, e with
  | .int i, .int j => k (.int (i + j)) S
  | _, _ => False
theorem io_add {X : Cx} {E : XK} : OpR X (inplaceOp .Add) (LL2 (cy X E) rIAdd) := o_int0 iop_add fun _ _ _ _ => rfl
theorem io_sub {X : Cx} {E : XK} : OpR X (inplaceOp .Sub) (LL2 (cy X E) rSub) := o_int0 iop_sub fun _ _ _ _ => rfl
theorem io_xor {X : Cx} {E : XK} : OpR X (inplaceOp .BitXor) (LL2 (cy X E) rXor) := o_int0 iop_xor fun _ _ _ _ => rfl
/-- what the law's text owes: its world's facts, its binding, its end, its walk -/
structure Owes (Pg : Program) (n k : Nat) (x : Str) (w : World) (mg : Str → Option Value) (fa : Addr) (h : Heap) : Prop where
  ex : ∃ (K : PySem.W.Frag) (fd : FuncData) (sp : Sp), (K.In h ∧ ∀ (s : Shared) (u : Value), BindsTo s fd ⟨[u], []⟩ [(x, u)]) ∧
    (∀ (H : Hp) (a : Addr) (ns : List Int), ns.length ≤ n → Only H → SqL K H a (ns.map V.int) → sp [.ref a] H (fun v _ => v = .bl true) fun _ _ _ => False) ∧ ∀ B : Heap, K.In B → B.Ns mainGlobals mg → FnOk Pg w K mg B (L2.CX Pg w) k fa fd [x] sp
/-- the law's end, what it lets out by the world -/
theorem walk_ofW {l : PySem.W.OpenLaw} {n k : Nat} {q : Program} {loose : List Str} {XP : (Str → Option Value) → Heap → Prop} {YP : World → Heap → Prop} {d : DefRec} {x : Str} (hn : l.most = some n) (hn2 : n ≤ sizeLine) (hdf : d.params.defaults = []) (hr : Room k callerA)
    (F : ∀ (w : World) (mg : Str → Option Value) (fa : Addr) (h : Heap), YP w h → h.Ns mainGlobals mg → mg d.name = some (.ref fa) → Owes l.prog n k x w mg fa h) : PySem.W.WalkO q loose XP YP l.row.toRowW d [] (fun f vs => PySem.call f vs) := by
  refine Att.attach_call hn hdf ?_
  intro w s₀ s₁ mg mb fa o pm cd doc a vs ns G Y ho hd hcd hmg hobj hints hlen hg
  obtain ⟨K, fd, sp, ⟨KX, hb⟩, hsp, hF⟩ := (F w mg fa _ Y G.T.g hmg).ex
  refine law_call KX G.T.g G.T.b G.T.builtins G.T.nolimit hg hobj hints (Nat.le_trans hlen hn2) hr hF hb (fun H hO hS => hsp H a ns hlen hO hS) ?_
  rintro H e s' ⟨_, _, _, _, _, _, _, _, _, _, _, _, z⟩
  exact z.elim
end Q
namespace Q
open PySem
open Spec PyProof.Rows L2

/-! ### the store, read -/
def lget (S : Sto) (n : Nat) : Option (List D) := match S[n]? with
  | some (.lst ds) => some ds
  | some (.ro ds) => some ds
  | _ => none
theorem isL_iff {S : Sto} {n : Nat} {ds : List D} : isL S n ds ↔ lget S n = some ds := by
  unfold isL lget
  cases e : S[n]? with
  | none => simp
  | some o => cases o <;> simp
theorem lget_lst {S : Sto} {n : Nat} {ds : List D} (h : S[n]? = some (.lst ds)) : lget S n = some ds := by unfold lget; rw [h]
theorem lget_lt {S : Sto} {n : Nat} {ds : List D} (h : lget S n = some ds) : n < S.length := by
  unfold lget at h
  cases e : S[n]? with
  | none => rw [e] at h; cases h
  | some o => exact (List.getElem?_eq_some_iff.mp e).1
theorem tyR_of {S : Sto} {n : Nat} {ds : List D} (h : lget S n = some ds) : tyR S n = some .list := by
  unfold lget at h
  unfold tyR
  cases e : S[n]? with
  | none => rw [e] at h; cases h
  | some o => rw [e] at h; cases o <;> first | rfl | cases h
theorem get_lt {S : Sto} {n : Nat} {o : O} (h : S[n]? = some o) : n < S.length := (List.getElem?_eq_some_iff.mp h).1
theorem get_app {S G : Sto} {n : Nat} {o : O} (h : S[n]? = some o) : (S ++ G)[n]? = some o := by rw [List.getElem?_append_left (get_lt h)]; exact h
theorem lget_app {S G : Sto} {n : Nat} {ds : List D} (h : lget S n = some ds) : lget (S ++ G) n = some ds := by
  have hl := lget_lt h
  unfold lget at h ⊢
  rw [List.getElem?_append_left hl]
  exact h
theorem get_at0 {S G : Sto} {o : O} : (S ++ o :: G)[S.length]? = some o := by simp
theorem get_at {S G : Sto} {k : Nat} : (S ++ G)[S.length + k]? = G[k]? := by rw [List.getElem?_append_right (by omega)]; congr 1; omega
theorem lget_at0 {S G : Sto} {ds : List D} : lget (S ++ .lst ds :: G) S.length = some ds := lget_lst (by simp)
theorem lget_at {S G : Sto} {k : Nat} : lget (S ++ G) (S.length + k) = lget G k := by unfold lget; rw [get_at]
theorem lget_hd {ds : List D} {G : Sto} : lget (.lst ds :: G) 0 = some ds := rfl
theorem lget_tl {o : O} {k : Nat} {G : Sto} : lget (o :: G) (k + 1) = lget G k := rfl
theorem lget_end {A G : Sto} {ds : List D} {m : Nat} (h : A.length = m) : lget (A ++ .lst ds :: G) m = some ds := by subst h; exact lget_at0
theorem lget_end1 {A G : Sto} {o : O} {ds : List D} {m : Nat} (h : A.length + 1 = m) : lget (A ++ o :: .lst ds :: G) m = some ds := by subst h; rw [lget_at]; rfl
theorem lget_end2 {A G : Sto} {o u : O} {ds : List D} {m : Nat} (h : A.length + 2 = m) : lget (A ++ o :: u :: .lst ds :: G) m = some ds := by subst h; rw [lget_at]; rfl
theorem get_k {A G : Sto} {o : O} {m : Nat} (k : Nat) (h : A.length + k = m) (e : G[k]? = some o) : (A ++ G)[m]? = some o := by subst h; rw [get_at]; exact e
theorem lget_k {A G : Sto} {ds : List D} {m : Nat} (k : Nat) (h : A.length + k = m) (e : lget G k = some ds) : lget (A ++ G) m = some ds := by subst h; rw [lget_at]; exact e
theorem set_at0 {S G : Sto} {o u : O} : (S ++ o :: G).set S.length u = S ++ u :: G := by
  rw [List.set_append_right (h := by omega)]
  simp
theorem set_at {S G : Sto} {k : Nat} {u : O} : (S ++ G).set (S.length + k) u = S ++ G.set k u := by
  rw [List.set_append_right (h := by omega)]
  congr 2
  omega
theorem set_app {S G : Sto} {n : Nat} {u : O} (h : n < S.length) : (S ++ G).set n u = S.set n u ++ G := List.set_append_left _ _ h
theorem app1 {S G : Sto} {o : O} : S ++ G ++ [o] = S ++ (G ++ [o]) := by simp
theorem ex_some {α β : Type} {x : α} {P : α → Prop} : (∃ y, some x = some y ∧ P y) ↔ P x := by simp
/-! ### weakening -/
mutual
theorem mapR_id {f : Nat → Nat} {m : Nat} (h : ∀ k, k < m → f k = k) : ∀ (d : D), clD m d → mapR f d = d
  | .non, _ => rfl
  | .bl _, _ => rfl
  | .int _, _ => rfl
  | .str _, _ => rfl
  | .tup ds, c => by rw [mapR, mapRs_id h ds c]
  | .ref n, c => by rw [mapR, h n c]
theorem mapRs_id {f : Nat → Nat} {m : Nat} (h : ∀ k, k < m → f k = k) : ∀ (ds : List D), clDs m ds → mapRs f ds = ds
  | [], _ => rfl
  | d :: ds, c => by rw [mapRs, mapR_id h d c.1, mapRs_id h ds c.2]
end
theorem mapKs_id {f : Nat → Nat} {m : Nat} (h : ∀ k, k < m → f k = k) : ∀ (ds : List (Key × D)), clKs m ds → (ds.map fun p => (p.1, mapR f p.2)) = ds
  | [], _ => rfl
  | d :: ds, c => by rw [List.map_cons, mapR_id h d.2 c.1, mapKs_id h ds c.2]
theorem mapO_id {f : Nat → Nat} {m : Nat} (h : ∀ k, k < m → f k = k) (o : O) (c : clO m o) : mapO f o = o := by
  cases o with
  | lst ds => rw [mapO, mapRs_id h ds c]
  | ro ds => rw [mapO, mapRs_id h ds c]
  | dic ds => rw [mapO, mapKs_id h ds c]
  | oth => rfl
mutual
theorem clD_le {m n : Nat} (h : m ≤ n) : ∀ (d : D), clD m d → clD n d
  | .non, _ => trivial
  | .bl _, _ => trivial
  | .int _, _ => trivial
  | .str _, _ => trivial
  | .tup ds, c => clDs_le h ds c
  | .ref k, c => Nat.lt_of_lt_of_le c h
theorem clDs_le {m n : Nat} (h : m ≤ n) : ∀ (ds : List D), clDs m ds → clDs n ds
  | [], _ => trivial
  | d :: ds, c => ⟨clD_le h d c.1, clDs_le h ds c.2⟩
end
theorem clKs_le {m n : Nat} (h : m ≤ n) : ∀ (ds : List (Key × D)), clKs m ds → clKs n ds
  | [], _ => trivial
  | d :: ds, c => ⟨clD_le h d.2 c.1, clKs_le h ds c.2⟩
theorem clO_le {m n : Nat} (h : m ≤ n) (o : O) (c : clO m o) : clO n o := by
  cases o with
  | lst ds => exact clDs_le h ds c
  | ro ds => exact clDs_le h ds c
  | dic ds => exact clKs_le h ds c
  | oth => trivial
/-- a store with one object more or written -/
theorem clS_set {S : Sto} {n : Nat} {o : O} (c : clS S) (h : clO S.length o) : clS (S.set n o) := fun k u e => by
  rw [List.length_set]
  by_cases hk : n = k
  · subst hk
    by_cases hn : n < S.length
    · rw [List.getElem?_set_self hn] at e
      cases e
      exact h
    · rw [List.getElem?_eq_none (by rw [List.length_set]; omega)] at e
      cases e
  · rw [List.getElem?_set_ne hk] at e
    exact c k u e
theorem clS_push {S : Sto} {o : O} (c : clS S) (h : clO (S.length + 1) o) : clS (S ++ [o]) := fun k u e => by
  rw [List.length_append, List.length_singleton]
  rcases get_push_cases e with e | ⟨_, rfl⟩
  · exact clO_le (by omega) u (c k u e)
  · exact h
/-- garbage dropped -/
theorem wk_drop {S G : Sto} {n : Nat} {kd : KD} {d : D} (hn : S.length = n) (cS : clS S) (cd : clD S.length d) (h : kd d S) : wk n kd d (S ++ G) := by
  refine .inr ⟨fun k => k, d, S, ⟨fun _ _ => rfl, by omega, fun _ _ _ _ e => e, fun k o e => ⟨cS k o e, ?_⟩, (mapR_id (fun _ _ => rfl) d cd).symm, cd⟩, h⟩
  rw [mapO_id (fun _ _ => rfl) o (cS k o e)]
  exact get_app e
theorem wk_now {S : Sto} {n : Nat} {kd : KD} {d : D} (h : kd d S) : wk n kd d S := .inl h
/-- a new object at j is given back -/
theorem wk_new {S G : Sto} {n j : Nat} {kd : KD} {o : O} (hn : S.length = n) (cS : clS S) (hj : n ≤ j) (hg : (S ++ G)[j]? = some o) (co : clO n o) (h : kd (.ref n) (S ++ [o])) : wk n kd (.ref j) (S ++ G) := by
  subst hn
  have low : ∀ k, k < S.length → (if k < S.length then k else j) = k := fun k hk => if_pos hk
  refine .inr ⟨fun k => if k < S.length then k else j, .ref S.length, S ++ [o], ⟨low, by simp, fun a b ha hb e => ?_, fun k u e => ?_, ?_, ?_⟩, h⟩
  · simp only [List.length_append, List.length_singleton] at ha hb
    by_cases h1 : a < S.length
    · by_cases h2 : b < S.length
      · simpa [h1, h2] using e
      · simp [h1, h2] at e; omega
    · by_cases h2 : b < S.length
      · simp [h1, h2] at e; omega
      · omega
  · rw [List.length_append, List.length_singleton]
    rcases get_push_cases e with e | ⟨rfl, rfl⟩
    · have hk := get_lt e
      refine ⟨clO_le (by omega) u (cS k u e), ?_⟩
      rw [low k hk, mapO_id low u (cS k u e)]
      exact get_app e
    · refine ⟨clO_le (by omega) u co, ?_⟩
      rw [if_neg (Nat.lt_irrefl _), mapO_id low u co]
      exact hg
  · simp [mapR]
  · simp [clD]
/-! ### loops over data -/
def rng (lo : Int) (i n : Nat) : List D := (List.range' i n).map fun j => D.int (lo + (j : Nat))
theorem rng_zero (lo : Int) (i : Nat) : rng lo i 0 = [] := rfl
theorem rng_succ (lo : Int) (i n : Nat) : rng lo i (n + 1) = D.int (lo + (i : Nat)) :: rng lo (i + 1) n := by unfold rng; rw [List.range'_succ, List.map_cons]
theorem rng_eq (lo : Int) (n : Nat) : ((List.range n).map fun i => D.int (lo + (i : Nat))) = rng lo 0 n := by unfold rng; rw [List.range_eq_range']
/-- a loop by a word over what is left -/
theorem wFor_ind {grd : Sto → Prop} {g : TGD} {tb : TSD} {M : EndsD} (I : List D → Sl → Sto → Prop) (hend : ∀ sg S, I [] sg S → grd S ∧ M.nx sg S)
    (hstep : ∀ d r sg S (nx : Sl → Sto → Prop), I (d :: r) sg S → (∀ sg' S', I r sg' S' → nx sg' S') → grd S ∧ g d sg S (fun sg1 S1 => tb { M with nx := nx, ct := nx, bk := M.nx } sg1 S1) M.ex) :
    ∀ (items : List D) (sg : Sl) (S : Sto), I items sg S → wFor grd g tb M items sg S
  | [], sg, S, h => hend sg S h
  | d :: r, sg, S, h => hstep d r sg S _ h fun sg' S' h' => wFor_ind I hend hstep r sg' S' h'
/-- .. over a range -/
theorem wFor_rng {grd : Sto → Prop} {g : TGD} {tb : TSD} {M : EndsD} {lo : Int} (n : Nat) (I : Nat → Sl → Sto → Prop) {sg : Sl} {S : Sto} (h0 : I 0 sg S) (hend : ∀ sg S, I n sg S → grd S ∧ M.nx sg S)
    (hstep : ∀ i sg S (nx : Sl → Sto → Prop), i < n → I i sg S → (∀ sg' S', I (i + 1) sg' S' → nx sg' S') → grd S ∧ g (.int (lo + (i : Nat))) sg S (fun sg1 S1 => tb { M with nx := nx, ct := nx, bk := M.nx } sg1 S1) M.ex) :
    wFor grd g tb M ((List.range n).map fun i => D.int (lo + (i : Nat))) sg S := by
  rw [rng_eq]
  have key : ∀ (r i : Nat) (sg : Sl) (S : Sto), i + r = n → I i sg S → wFor grd g tb M (rng lo i r) sg S := by
    intro r
    induction r with
    | zero =>
      intro i sg S e h
      have : i = n := by omega
      subst this
      exact hend sg S h
    | succ r ih =>
      intro i sg S e h
      rw [rng_succ]
      exact hstep i sg S _ (by omega) h fun sg' S' h' => ih (i + 1) sg' S' (by omega) h'
  exact key n 0 sg S (by omega) h0
/-- a while by a word and a measure -/
theorem dWhile_by {c : TTD} {tb : TSD} {M : EndsD} {sg : Sl} {S : Sto} (I : Nat → Sl → Sto → Prop) (m0 : Nat) (h0 : I m0 sg S)
    (hs : ∀ m sg S (nx : Sl → Sto → Prop), I m sg S → (∀ m' sg' S', m' < m → I m' sg' S' → nx sg' S') → c sg S (fun b S1 => (b = true → tb { M with nx := nx, ct := nx, bk := M.nx } sg S1) ∧ (b = false → M.nx sg S1)) M.ex) : dWhile c tb M sg S :=
  ⟨I, ⟨m0, h0⟩, fun m sg S h => hs m sg S _ h fun m' sg' S' hm h' => ⟨m', hm, h'⟩⟩
/-- a comprehension whose element is reckoned purely -/
theorem wLc_map {grd : Sto → Prop} {i : Nat} {te : TED} {sg : Sl} {n0 : Nat} {k : Sto → Prop} {f : D → D} : ∀ (items : List D) (S : Sto) (acc : List D),
    (∀ d ∈ items, ∀ (acc : List D) (kk : KD), grd (S.set n0 (.lst acc)) ∧ (kk (f d) (S.set n0 (.lst acc)) → te (sg.set i (some d)) (S.set n0 (.lst acc)) kk XF)) → (∀ acc, grd (S.set n0 (.lst acc))) → n0 < S.length → acc.length + items.length ≤ sizeLine →
    k (S.set n0 (.lst (acc ++ items.map f))) → wLc grd (gNm i) dYes te sg n0 k items (S.set n0 (.lst acc))
  | [], S, acc, _, hg, _, _, hk => ⟨hg acc, by simpa using hk⟩
  | d :: r, S, acc, he, hg, hn, hl, hk => by
    refine ⟨hg acc, ⟨fun _ => ?_, fun z => nomatch z⟩⟩
    refine (he d List.mem_cons_self acc _).2 ?_
    refine ⟨acc, by rw [List.getElem?_set_self hn], by rw [List.length_cons] at hl; omega, ?_⟩
    rw [List.set_set]
    refine wLc_map r S (acc ++ [f d]) (fun d hd => he d (List.mem_cons_of_mem _ hd)) hg hn (by rw [List.length_append, List.length_singleton]; rw [List.length_cons] at hl; omega) ?_
    rw [List.append_assoc]
    exact hk
/-- .. with a test -/
theorem wLc_filter {grd : Sto → Prop} {i : Nat} {tt : TTD} {te : TED} {sg : Sl} {n0 : Nat} {k : Sto → Prop} {p : D → Bool} {f : D → D} : ∀ (items : List D) (S : Sto) (acc : List D),
    (∀ d ∈ items, ∀ (acc : List D) (kk : Bool → Sto → Prop), kk (p d) (S.set n0 (.lst acc)) → tt (sg.set i (some d)) (S.set n0 (.lst acc)) kk XF) →
    (∀ d ∈ items, p d = true → ∀ (acc : List D) (kk : KD), kk (f d) (S.set n0 (.lst acc)) → te (sg.set i (some d)) (S.set n0 (.lst acc)) kk XF) → (∀ acc, grd (S.set n0 (.lst acc))) → n0 < S.length → acc.length + items.length ≤ sizeLine →
    k (S.set n0 (.lst (acc ++ (items.filter p).map f))) → wLc grd (gNm i) tt te sg n0 k items (S.set n0 (.lst acc))
  | [], S, acc, _, _, hg, _, _, hk => ⟨hg acc, by simpa using hk⟩
  | d :: r, S, acc, ht, he, hg, hn, hl, hk => by
    refine ⟨hg acc, ht d List.mem_cons_self acc _ ⟨fun hp => ?_, fun hp => ?_⟩⟩
    · refine he d List.mem_cons_self hp acc _ ?_
      refine ⟨acc, by rw [List.getElem?_set_self hn], by rw [List.length_cons] at hl; omega, ?_⟩
      rw [List.set_set]
      refine wLc_filter r S (acc ++ [f d]) (fun d hd => ht d (List.mem_cons_of_mem _ hd)) (fun d hd => he d (List.mem_cons_of_mem _ hd)) hg hn (by rw [List.length_append, List.length_singleton]; rw [List.length_cons] at hl; omega) ?_
      rw [List.append_assoc]
      rw [List.filter_cons_of_pos hp] at hk
      exact hk
    · refine wLc_filter r S acc (fun d hd => ht d (List.mem_cons_of_mem _ hd)) (fun d hd => he d (List.mem_cons_of_mem _ hd)) hg hn (by rw [List.length_cons] at hl; omega) ?_
      rw [List.filter_cons_of_neg (by rw [hp]; decide)] at hk
      exact hk
/-- the reading of [.. for name in ..] from a fresh list -/
theorem lc_map {it : ItD} {i : Nat} {te : TED} {sg : Sl} {k : KD} {S : Sto} (f : D → D)
    (he : ∀ d ∈ it.items, ∀ (acc : List D) (kk : KD), kk (f d) (S ++ [.lst acc]) → te (sg.set i (some d)) (S ++ [.lst acc]) kk XF) (hg : ∀ acc, it.grd (S ++ [.lst acc])) (hl : it.items.length ≤ sizeLine)
    (hk : k (.ref S.length) (S ++ [.lst (it.items.map f)])) : kLc (gNm i) dYes te sg k it S := by
  unfold kLc
  have e : ∀ acc, (S ++ [O.lst []]).set S.length (.lst acc) = S ++ [.lst acc] := fun acc => set_at0
  have q := wLc_map (grd := it.grd) (i := i) (te := te) (sg := sg) (n0 := S.length) (k := fun S' => k (.ref S.length) S') (f := f) it.items (S ++ [.lst []]) []
    (fun d hd acc kk => ⟨by rw [e]; exact hg acc, by rw [e]; exact he d hd acc kk⟩) (fun acc => by rw [e]; exact hg acc) (by simp) (by simpa using hl) (by rw [e]; exact hk)
  rw [e] at q
  exact q
theorem lc_filter {it : ItD} {i : Nat} {tt : TTD} {te : TED} {sg : Sl} {k : KD} {S : Sto} (p : D → Bool) (f : D → D)
    (ht : ∀ d ∈ it.items, ∀ (acc : List D) (kk : Bool → Sto → Prop), kk (p d) (S ++ [.lst acc]) → tt (sg.set i (some d)) (S ++ [.lst acc]) kk XF)
    (he : ∀ d ∈ it.items, p d = true → ∀ (acc : List D) (kk : KD), kk (f d) (S ++ [.lst acc]) → te (sg.set i (some d)) (S ++ [.lst acc]) kk XF) (hg : ∀ acc, it.grd (S ++ [.lst acc])) (hl : it.items.length ≤ sizeLine)
    (hk : k (.ref S.length) (S ++ [.lst ((it.items.filter p).map f)])) : kLc (gNm i) tt te sg k it S := by
  unfold kLc
  have e : ∀ acc, (S ++ [O.lst []]).set S.length (.lst acc) = S ++ [.lst acc] := fun acc => set_at0
  have q := wLc_filter (grd := it.grd) (i := i) (tt := tt) (te := te) (sg := sg) (n0 := S.length) (k := fun S' => k (.ref S.length) S') (p := p) (f := f) it.items (S ++ [.lst []]) []
    (fun d hd acc kk => by rw [e]; exact ht d hd acc kk) (fun d hd hp acc kk => by rw [e]; exact he d hd hp acc kk) (fun acc => by rw [e]; exact hg acc) (by simp) (by simpa using hl) (by rw [e]; exact hk)
  rw [e] at q
  exact q
/-! ### == of data without objects -/
mutual
def pyD : D → PyData
  | .non => .none
  | .bl b => .bool b
  | .int i => .int i
  | .str x => .str x
  | .tup ds => .tuple (pyDs ds)
  | .ref _ => .none
def pyDs : List D → List PyData
  | [] => []
  | d :: ds => pyD d :: pyDs ds
end
mutual
/-- without objects, of at most this depth -/
def pd : Nat → D → Bool
  | _, .non => true
  | _, .bl _ => true
  | _, .int _ => true
  | _, .str x => (PyData.str x).canLay0
  | 0, .tup _ => false
  | n + 1, .tup ds => pds n ds
  | _, .ref _ => false
def pds : Nat → List D → Bool
  | _, [] => true
  | n, d :: ds => pd n d && pds n ds
end
def eqD (d e : D) : Bool := PyData.eqv (pyD d) (pyD e)
def eqDs (d e : List D) : Bool := PyData.eqvAll (pyDs d) (pyDs e)
mutual
theorem pd_py {S : Sto} : ∀ (d : D) (n : Nat), pd n d = true → DPy S d (pyD d) ∧ (pyD d).canLay0 = true ∧ (pyD d).depth ≤ n
  | .non, n, _ => ⟨.non, rfl, Nat.zero_le _⟩
  | .bl b, n, _ => ⟨.bl b, rfl, Nat.zero_le _⟩
  | .int i, n, _ => ⟨.int i, rfl, Nat.zero_le _⟩
  | .str x, n, h => ⟨.str x, by cases n <;> exact h, Nat.zero_le _⟩
  | .tup ds, 0, h => by cases h
  | .tup ds, n + 1, h => by
    obtain ⟨h1, h2, h3⟩ := pds_py (S := S) ds n h
    exact ⟨.tup h1, h2, by show PyData.depthAll (pyDs ds) + 1 ≤ n + 1; omega⟩
  | .ref _, n, h => by cases n <;> cases h
theorem pds_py {S : Sto} : ∀ (ds : List D) (n : Nat), pds n ds = true → DPys S ds (pyDs ds) ∧ PyData.canLayAll0 (pyDs ds) = true ∧ PyData.depthAll (pyDs ds) ≤ n
  | [], n, _ => ⟨.nil, rfl, Nat.zero_le _⟩
  | d :: ds, n, h => by
    have h' : pd n d = true ∧ pds n ds = true := by simpa [pds] using h
    obtain ⟨a1, a2, a3⟩ := pd_py (S := S) d n h'.1
    obtain ⟨b1, b2, b3⟩ := pds_py (S := S) ds n h'.2
    exact ⟨.cons a1 b1, by show ((pyD d).canLay0 && PyData.canLayAll0 (pyDs ds)) = true; rw [a2, b2]; rfl, by show max (pyD d).depth (PyData.depthAll (pyDs ds)) ≤ n; omega⟩
end
theorem shaped_of {p : PyData} {n : Nat} (h : p.canLay0 = true) (h2 : p.depth ≤ n) (hn : n ≤ 64) : SeqAt.shaped p = true := by
  unfold SeqAt.shaped
  rw [h, decide_eq_true (by omega : p.depth ≤ 64)]
  rfl
theorem eqG_pure {d e : D} {S : Sto} {k : Bool → Prop} (n m : Nat) (hd : pd n d = true) (he : pd m e = true) (h : k (eqD d e)) (hn : n ≤ 64 := by decide) (hm : m ≤ 64 := by decide) : eqG d e S k := by
  obtain ⟨a1, a2, a3⟩ := pd_py (S := S) d n hd
  obtain ⟨b1, b2, b3⟩ := pd_py (S := S) e m he
  exact ⟨_, _, a1, b1, shaped_of a2 a3 hn, shaped_of b2 b3 hm, h⟩
/-- two lists of data without objects -/
theorem eqG_lst {a b : Nat} {xs ys : List D} {S : Sto} {k : Bool → Prop} (n m : Nat) (ha : lget S a = some xs) (hb : lget S b = some ys) (hd : pds n xs = true) (he : pds m ys = true) (h : k (eqDs xs ys)) (hn : n ≤ 60 := by decide) (hm : m ≤ 60 := by decide) : eqG (.ref a) (.ref b) S k := by
  obtain ⟨a1, a2, a3⟩ := pds_py (S := S) xs n hd
  obtain ⟨b1, b2, b3⟩ := pds_py (S := S) ys m he
  exact ⟨_, _, .ref (isL_iff.mpr ha) a1, .ref (isL_iff.mpr hb) b1, shaped_of (n := n + 1) a2 (by show PyData.depthAll _ + 1 ≤ n + 1; omega) (by omega), shaped_of (n := m + 1) b2 (by show PyData.depthAll _ + 1 ≤ m + 1; omega) (by omega), h⟩
theorem eqDs_nil (ds : List D) : eqDs ds [] = ds.isEmpty := by cases ds <;> rfl
theorem eqD_tup (ds es : List D) : eqD (.tup ds) (.tup es) = eqDs ds es := by
  unfold eqD eqDs
  rw [pyD, pyD, PyData.eqv]
theorem eqDs_cons (d e : D) (ds es : List D) : eqDs (d :: ds) (e :: es) = (eqD d e && eqDs ds es) := by
  unfold eqDs eqD
  rw [pyDs, pyDs, PyData.eqvAll]
theorem eqD_int (i j : Int) : eqD (.int i) (.int j) = decide (i = j) := by
  show (i == j) = decide (i = j)
  rw [Bool.beq_eq_decide_eq]
theorem atI0 {α : Type} (a : α) (l : List α) : atI (a :: l) (0 : Int) = some a := atI_nat (j := 0) rfl
theorem atI1 {α : Type} (a b : α) (l : List α) : atI (a :: b :: l) (1 : Int) = some b := atI_nat (j := 1) rfl
theorem atI2 {α : Type} (a b c : α) (l : List α) : atI (a :: b :: c :: l) (2 : Int) = some c := atI_nat (j := 2) rfl
theorem atI3 {α : Type} (a b c d : α) (l : List α) : atI (a :: b :: c :: d :: l) (3 : Int) = some d := atI_nat (j := 3) rfl
theorem atI_in {α : Type} (l : List α) (r : Nat) (h : r < l.length) : ∃ d, atI l (r : Int) = some d ∧ d ∈ l := ⟨l[r], atI_nat (List.getElem?_eq_getElem h), List.getElem_mem h⟩
theorem ixN_nat {n j : Nat} (h : j < n) : ixN n (j : Int) = some j := by
  unfold ixN
  rw [if_pos (by omega), if_pos (by omega)]
  simp
theorem get_set_self {S : Sto} {n : Nat} {o u : O} (h : S[n]? = some o) : (S.set n u)[n]? = some u := List.getElem?_set_self (get_lt h)
theorem lget_set_self {S : Sto} {n : Nat} {o : O} {ds : List D} (h : S[n]? = some o) : lget (S.set n (.lst ds)) n = some ds := lget_lst (get_set_self h)
theorem paired_len {α β : Type} {R : α → β → Prop} : ∀ {l : List α} {m : List β}, Paired R l m → l.length = m.length
  | _, _, .nil => rfl
  | _, _, .cons _ t => by rw [List.length_cons, List.length_cons, paired_len t]
theorem paired_get {α β : Type} {R : α → β → Prop} : ∀ {l : List α} {m : List β} {i : Nat} {a : α} {b : β}, Paired R l m → l[i]? = some a → m[i]? = some b → R a b
  | _, _, 0, _, _, .cons r _, h1, h2 => by
    simp at h1 h2
    subst h1 h2
    exact r
  | _, _, i + 1, _, _, .cons _ t, h1, h2 => paired_get (i := i) t (by simpa using h1) (by simpa using h2)
/-- the same data, of the same kinds -/
def sameD (S : Sto) : Nat → D → D → Prop
  | 0, d, e => flatD d = true ∧ d = e
  | n + 1, d, e => (flatD d = true ∧ d = e) ∨ (∃ xs ys, d = .tup xs ∧ e = .tup ys ∧ ys.length ≤ sizeLine ∧ Paired (sameD S n) xs ys) ∨
      ∃ a b xs ys, d = .ref a ∧ e = .ref b ∧ lget S a = some xs ∧ lget S b = some ys ∧ ys.length ≤ sizeLine ∧ Paired (sameD S n) xs ys
theorem sameD_mono {S G : Sto} : ∀ (n : Nat) (d e : D), sameD S n d e → sameD (S ++ G) n d e
  | 0, d, e, h => h
  | n + 1, d, e, h => by
    rcases h with h | ⟨xs, ys, h1, h2, hl, h3⟩ | ⟨a, b, xs, ys, h1, h2, h3, h4, hl, h5⟩
    · exact .inl h
    · exact .inr (.inl ⟨xs, ys, h1, h2, hl, Paired.mapP h3 fun a b q => sameD_mono n a b q⟩)
    · exact .inr (.inr ⟨a, b, xs, ys, h1, h2, lget_app h3, lget_app h4, hl, Paired.mapP h5 fun a b q => sameD_mono n a b q⟩)
theorem sameD_flat {S : Sto} {d : D} (h : flatD d = true) : ∀ n, sameD S n d d
  | 0 => ⟨h, rfl⟩
  | n + 1 => .inl ⟨h, rfl⟩
theorem sameD_lst {S : Sto} {n a b : Nat} {xs ys : List D} (h1 : lget S a = some xs) (h2 : lget S b = some ys) (hl : ys.length ≤ sizeLine) (h : Paired (sameD S n) xs ys) : sameD S (n + 1) (.ref a) (.ref b) := .inr (.inr ⟨a, b, xs, ys, rfl, rfl, h1, h2, hl, h⟩)
theorem sameD_tup {S : Sto} {n : Nat} {xs ys : List D} (hl : ys.length ≤ sizeLine) (h : Paired (sameD S n) xs ys) : sameD S (n + 1) (.tup xs) (.tup ys) := .inr (.inl ⟨xs, ys, rfl, rfl, hl, h⟩)
theorem paired_same {S : Sto} {n : Nat} {f : D → Prop} : ∀ (xs : List D), (∀ d ∈ xs, sameD S n d d) → Paired (sameD S n) xs xs
  | [], _ => .nil
  | d :: ds, h => .cons (h d List.mem_cons_self) (paired_same (f := f) ds fun e he => h e (List.mem_cons_of_mem _ he))
theorem len1 {α : Type} {l : List α} (h : l.length = 1) : ∃ a, l = [a] := match l, h with | [a], _ => ⟨a, rfl⟩
theorem len2 {α : Type} {l : List α} (h : l.length = 2) : ∃ a b, l = [a, b] := match l, h with | [a, b], _ => ⟨a, b, rfl⟩
theorem len3 {α : Type} {l : List α} (h : l.length = 3) : ∃ a b c, l = [a, b, c] := match l, h with | [a, b, c], _ => ⟨a, b, c, rfl⟩
theorem sl16 : (sizeLine : Nat) = 16777216 := sizeLine_eq
/-- a cut between two statements -/
theorem dSeq_cut {t u : TSD} {M : EndsD} {sg : Sl} {S : Sto} (P : Sl → Sto → Prop) (h : ∀ nx : Sl → Sto → Prop, (∀ sg S, P sg S → nx sg S) → t { M with nx := nx } sg S) (h2 : ∀ sg S, P sg S → u M sg S) : dSeq t u M sg S := h (u M) h2
theorem dSeq_go {t u : TSD} {M : EndsD} {sg : Sl} {S : Sto} (h : t { M with nx := u M } sg S) : dSeq t u M sg S := h
theorem sorted_at {S : Sto} {w : Nat} {ns : List Int} {k : KD} {x : XD} (hw : lget S w = some (ns.map D.int)) (h : ∀ ms : List Int, ms.Perm ns → ms.Pairwise (· ≤ ·) → k (.ref S.length) (S ++ [.lst (ms.map D.int)])) : spSorted [.ref w] S k x := ⟨ns, isL_iff.mpr hw, h⟩
theorem map_natint (l : List Nat) : (l.map fun c : Nat => (c : Int)).map D.int = l.map fun c : Nat => D.int (c : Int) := by rw [List.map_map]; rfl
theorem inF_nats {c : Nat} : ∀ {l : List Nat}, inF (.int (c : Int)) (l.map fun c : Nat => D.int (c : Int)) = decide (c ∈ l) := by
  intro l
  induction l with
  | nil => rfl
  | cons a l ih =>
    show ((decide ((a : Int) = (c : Int))) || inF (.int (c : Int)) (l.map fun c : Nat => D.int (c : Int))) = _
    rw [ih, Bool.eq_iff_iff]
    simp only [Bool.or_eq_true, decide_eq_true_eq, List.mem_cons]
    exact ⟨fun h => h.imp (fun h => by omega) id, fun h => h.imp (fun h => by omega) id⟩
theorem flat_nats (l : List Nat) : (l.map fun c : Nat => D.int (c : Int)).all flatD = true := by
  rw [List.all_map]
  exact List.all_eq_true.mpr fun _ _ => rfl
theorem sl_ok (n : Nat) (h : n ≤ 1000000) : n ≤ sizeLine := Nat.le_trans h (by decide)
/-- data that is the same as itself -/
def sdB : Nat → D → Bool
  | _, .non => true
  | _, .bl _ => true
  | _, .int _ => true
  | _, .str _ => true
  | n + 1, .tup ds => decide (ds.length ≤ 1000000) && ds.all (sdB n)
  | _, _ => false
theorem sameD_self {S : Sto} : ∀ (n : Nat) (d : D), sdB n d = true → sameD S n d d
  | n, .non, _ => sameD_flat rfl n
  | n, .bl _, _ => sameD_flat rfl n
  | n, .int _, _ => sameD_flat rfl n
  | n, .str _, _ => sameD_flat rfl n
  | n + 1, .tup ds, h => by
    have h : (decide (ds.length ≤ 1000000) && ds.all (sdB n)) = true := h
    rw [Bool.and_eq_true, List.all_eq_true] at h
    exact sameD_tup (sl_ok _ (of_decide_eq_true h.1)) (paired_same (f := fun _ => True) ds fun d hd => sameD_self n d (h.2 d hd))
  | 0, .tup _, h => nomatch h
  | 0, .ref _, h => nomatch h
  | _ + 1, .ref _, h => nomatch h
theorem paired_self {S : Sto} {n : Nat} (xs : List D) (h : xs.all (sdB n) = true) : Paired (sameD S n) xs xs := paired_same (f := fun _ => True) xs fun d hd => sameD_self n d (List.all_eq_true.mp h d hd)
end Q
namespace Q
open PySem
open Spec PyProof.Rows L2

/-! ### dicts: a comprehension, sorted keys -/
def keyD : Key → D
  | .inl i => .int i
  | .inr x => .str x
theorem key_rd {K : PySem.W.Frag} {H : Hp} {al : List Addr} {k : Key} {v : V} (r : RD K H al (keyD k) v) : v = kV k := by
  cases k with
  | inl i => exact r
  | inr x => exact r
def putD (kvs : List (Key × D)) (k : Key) (v : D) : List (Key × D) := match kvs.any fun p => decide (p.1 = k) with
  | true => kvs.map fun p => if p.1 = k then (p.1, v) else p
  | false => kvs ++ [(k, v)]
theorem rks_any {K : PySem.W.Frag} {H : Hp} {al : List Addr} {k : Key} : ∀ {ds : List (Key × D)} {vs : List (Key × V)}, RKs K H al ds vs → (vs.any fun p => decide (p.1 = k)) = ds.any fun p => decide (p.1 = k)
  | [], _, h => by rw [show _ = [] from h]; rfl
  | d :: ds, _, ⟨v, r, e, _, h2⟩ => by
    subst e
    rw [List.any_cons, List.any_cons, rks_any h2]
theorem rks_app {K : PySem.W.Frag} {H : Hp} {al : List Addr} {k : Key} {d : D} {v : V} (rd : RD K H al d v) : ∀ {ds : List (Key × D)} {vs : List (Key × V)}, RKs K H al ds vs → RKs K H al (ds ++ [(k, d)]) (vs ++ [(k, v)])
  | [], _, h => by rw [show _ = [] from h]; exact ⟨v, [], rfl, rd, rfl⟩
  | p :: ds, _, ⟨w, r, e, h1, h2⟩ => by
    subst e
    exact ⟨w, _, rfl, h1, rks_app rd h2⟩
theorem rks_map1 {K : PySem.W.Frag} {H : Hp} {al : List Addr} {k : Key} {d : D} {v : V} (rd : RD K H al d v) : ∀ {ds : List (Key × D)} {vs : List (Key × V)}, RKs K H al ds vs → RKs K H al (ds.map fun p => if p.1 = k then (p.1, d) else p) (vs.map fun p => if p.1 = k then (p.1, v) else p)
  | [], _, h => by rw [show _ = [] from h]; exact rfl
  | p :: ds, _, ⟨w, r, e, h1, h2⟩ => by
    subst e
    rw [List.map_cons, List.map_cons]
    by_cases q : p.1 = k
    · rw [if_pos q, if_pos q]
      exact ⟨v, _, rfl, rd, rks_map1 rd h2⟩
    · rw [if_neg q, if_neg q]
      exact ⟨w, _, rfl, h1, rks_map1 rd h2⟩
theorem rks_put {K : PySem.W.Frag} {H : Hp} {al : List Addr} {k : Key} {d : D} {v : V} {ds : List (Key × D)} {vs : List (Key × V)} (rd : RD K H al d v) (r : RKs K H al ds vs) : RKs K H al (putD ds k d) (putK vs k v) := by
  unfold putD putK
  rw [rks_any r]
  cases ds.any fun p => decide (p.1 = k) with
  | true => exact rks_map1 rd r
  | false => exact rks_app rd r
theorem rks_len {K : PySem.W.Frag} {H : Hp} {al : List Addr} : ∀ {ds : List (Key × D)} {vs : List (Key × V)}, RKs K H al ds vs → vs.length = ds.length
  | [], _, h => by rw [show _ = [] from h]; rfl
  | d :: ds, _, ⟨v, r, e, _, h2⟩ => by
    subst e
    rw [List.length_cons, List.length_cons, rks_len h2]
theorem rks_keys {K : PySem.W.Frag} {H : Hp} {al : List Addr} : ∀ {ds : List (Key × D)} {vs : List (Key × V)}, RKs K H al ds vs → vs.map (·.1) = ds.map (·.1)
  | [], _, h => by rw [show _ = [] from h]; rfl
  | d :: ds, _, ⟨v, r, e, _, h2⟩ => by
    subst e
    rw [List.map_cons, List.map_cons, rks_keys h2]
theorem new_dic {K : PySem.W.Frag} {H : Hp} {al : List Addr} {S : Sto} {p : Addr} {ds : List (Key × D)} {vs : List (Key × V)} (r : RS K H al S) (hp : H p = none) (rd : RKs K H al ds vs) : Fut K H al (upd H p (.dK vs)) (al ++ [p]) (S ++ [.dic ds]) :=
  Fut.push r hp ⟨vs, upd_same, RKs.mono (Keep.laid hp) _ _ rd⟩
theorem set_dic {K : PySem.W.Frag} {H : Hp} {al : List Addr} {S : Sto} {n : Nat} {p : Addr} {ds xs : List (Key × D)} {vs : List (Key × V)} (rs : RS K H al S) (h : S[n]? = some (.dic xs)) (hp : al[n]? = some p) (r : RKs K H al ds vs) : Fut K H al (upd H p (.dK vs)) al (S.set n (.dic ds)) := by
  obtain ⟨us, e1, _⟩ := rs.ob n _ p h hp
  have kp : Keep H (upd H p (.dK vs)) := Keep.write e1 (fun _ z => by cases z) (fun _ _ z => by cases z)
  refine Fut.set rs h rfl hp ⟨vs, upd_same, ?_⟩ rfl
  have := RKs.mono (t := []) kp _ _ r
  rwa [List.append_nil] at this
def kDc4 (n0 : Nat) (k : Sto → Prop) (y : D) : KD := fun z S => ∃ kvs key, y = keyD key ∧ S[n0]? = some (.dic kvs) ∧ kvs.length < sizeLine ∧ k (S.set n0 (.dic (putD kvs key z)))
def kDc3 (tv : TED) (sg : Sl) (n0 : Nat) (k : Sto → Prop) : KD := fun y S => tv sg S (kDc4 n0 k y) XF
def wDc (grd : Sto → Prop) (g : TGD) (tt : TTD) (tk tv : TED) (sg : Sl) (n0 : Nat) (k : Sto → Prop) : List D → Sto → Prop
  | [], S => grd S ∧ k S
  | d :: r, S => grd S ∧ g d sg S (fun sg1 S1 => tt sg1 S1 (fun b S2 => (b = true → tk sg1 S2 (kDc3 tv sg1 n0 (wDc grd g tt tk tv sg n0 k r)) XF) ∧ (b = false → wDc grd g tt tk tv sg n0 k r S2)) XF) XF
def kDc (g : TGD) (tt : TTD) (tk tv : TED) (sg : Sl) (k : KD) : ItD → Sto → Prop := fun it S => wDc it.grd g tt tk tv sg S.length (fun S' => k (.ref S.length) S') it.items (S ++ [.dic []])
def dDc (ti : TID) (g : TGD) (tt : TTD) (tk tv : TED) (vs : List Nat) : TED := fun sg S k x => ti sg S (kDc g tt tk tv (wipeD sg vs) k) x
theorem dc_red {K : PySem.W.Frag} {mg : Str → Option Value} {ti : TID} {g : TGD} {tt : TTD} {tk tv : TED} {vs : List Nat} {tV : TG} {s : L2.St} {H : Hp} {Q : VK} {E : XK}
    (hl : ∀ v s H Q, LG ⟨K, mg, E0⟩ g v s H Q → tV v s H Q) (hw : WipeOK vs tV) (h : LE ⟨K, mg, E⟩ (dDc ti g tt tk tv vs) s H Q) : tDc (LI ⟨K, mg, E⟩ ti) tV (LT ⟨K, mg, E0⟩ tt) (LE ⟨K, mg, E0⟩ tk) (LE ⟨K, mg, E0⟩ tv) vs s H Q := by
  obtain ⟨sg, al, S, kd, xd, rs, rl, q, up, ux⟩ := h
  refine ⟨sg, al, S, kDc g tt tk tv (wipeD sg vs) kd, xd, rs, rl, q, fun it S1 al1 H1 J f1 iok q1 => ?_, ux⟩
  intro D hD
  have q1 : wDc it.grd g tt tk tv (wipeD sg vs) S1.length (fun S' => kd (.ref S1.length) S') it.items (S1 ++ [.dic []]) := q1
  have fN : Fut K H1 al1 (upd H1 D (.dK [])) (al1 ++ [D]) (S1 ++ [.dic []]) := new_dic f1.rs hD rfl
  have aN : (al1 ++ [D])[S1.length]? = some D := by rw [← f1.rs.len]; simp
  refine ⟨fun i m H' => ∃ al' S', Fut K (upd H1 D (.dK [])) (al1 ++ [D]) H' al' S' ∧ wDc it.grd g tt tk tv (wipeD sg vs) S1.length (fun S' => kd (.ref S1.length) S') (it.items.drop i) S' ∧ m = it.items.length - i ∧ i ≤ it.items.length, ⟨it.items.length, _, _, .now fN.rs, q1, by simp, Nat.zero_le _⟩, ?_⟩
  rintro i m H2 ⟨al2, S2, f2, w2, rfl, hi⟩
  by_cases hlt : i < it.items.length
  · rw [List.drop_eq_getElem_cons hlt] at w2
    obtain ⟨gr, w2⟩ := w2
    refine .inr ⟨iok.go i H2 al2 S2 (fN.trans f2) gr hlt, fun H' => ∃ m', m' < it.items.length - i ∧ ∃ al' S', Fut K (upd H1 D (.dK [])) (al1 ++ [D]) H' al' S' ∧ wDc it.grd g tt tk tv (wipeD sg vs) S1.length (fun S' => kd (.ref S1.length) S') (it.items.drop (i + 1)) S' ∧ m' = it.items.length - (i + 1) ∧ i + 1 ≤ it.items.length, fun H' h => h, fun x H' hy => ?_⟩
    obtain ⟨f3, r3⟩ := iok.yld i _ H2 al2 S2 x H' (fN.trans f2) gr (List.getElem?_eq_getElem hlt) hy
    have fA := (f1.trans fN).trans (f2.trans f3)
    refine hw _ _ _ _ _ (fun s2 H2 e q => ⟨e.trans (wipe_wipe _ _), q⟩) (hl _ _ _ _ ⟨_, wipeD sg vs, al2, S2, _, XF, f3.rs, rsl_wipe (fA.rsl rl) vs, r3, w2, fun sg4 S4 al4 H4 sv4 f4 rl4 q4 => ?_, ux0⟩)
    refine ⟨sg4, al4, S4, _, XF, f4.rs, rl4, q4, fun b S5 al5 H5 f5 q5 => ite_of ⟨fun e => ?_, fun e => ?_⟩, ux0⟩
    · refine ⟨sg4, al5, S5, _, XF, f5.rs, f5.rsl rl4, q5.1 e, fun y S6 al6 H6 v6 f6 r6 q6 => ?_, ux0⟩
      refine ⟨sg4, al6, S6, _, XF, f6.rs, f6.rsl (f5.rsl rl4), q6, fun z S7 al7 H7 v7 f7 r7 q7 => ?_, ux0⟩
      obtain ⟨acc, key, ek, ha, hz, q7⟩ := q7
      subst ek
      have fB := ((f2.trans f3).trans f4).trans ((f5.trans f6).trans f7)
      have a7 := getExt fB aN
      obtain ⟨us, e7, ru⟩ := f7.rs.ob _ _ _ ha a7
      exact ⟨us, key, key_rd r6, e7, by rw [rks_len ru]; exact hz, it.items.length - (i + 1), by omega, al7, _, fB.trans (set_dic f7.rs ha a7 (rks_put r7 ru)), q7, rfl, hlt⟩
    · exact ⟨it.items.length - (i + 1), by omega, al5, S5, ((f2.trans f3).trans f4).trans f5, q5.2 e, rfl, hlt⟩
  · have e : i = it.items.length := by omega
    subst e
    rw [List.drop_length] at w2
    obtain ⟨gr, w2⟩ := w2
    exact .inl ⟨iok.stop H2 al2 S2 (fN.trans f2) gr, up (.ref S1.length) S2 al2 H2 (.ref D) ((f1.trans fN).trans f2) ⟨D, rfl, getExt f2 aN⟩ w2⟩
section
variable {X : Cx} {E : XK} {tg iter : Expr} {g : TGD} {tV : TG} {is : List Nat}
theorem q_dc {kx vx : Expr} {ifs : List Expr} {scope : Scope} {own : List (Str × Nat)} {pos : Pos} {ti : TID} {tt : TTD} {tk tv : TED} (hc : X.calm = true) (hN : X.N.Nodup) (hi : QI X E tg iter ti) (ok : BlkOk X.N X.env.scope scope own)
    (hg : ∀ (s : Shared) (H : Hp) (C : Addr) (cl : List (Str × Addr)) (fp : List Addr), QG (X.blk s H scope (compEnvC scope cl C X.env) fp) E0 tg g tV is) (ht : ∀ (s : Shared) (H : Hp) (C : Addr) (cl : List (Str × Addr)) (fp : List Addr), QTs (X.blk s H scope (compEnvC scope cl C X.env) fp) E0 ifs tt)
    (hk : ∀ (s : Shared) (H : Hp) (C : Addr) (cl : List (Str × Addr)) (fp : List Addr), QE (X.blk s H scope (compEnvC scope cl C X.env) fp) E0 kx tk)
    (he : ∀ (s : Shared) (H : Hp) (C : Addr) (cl : List (Str × Addr)) (fp : List Addr), QE (X.blk s H scope (compEnvC scope cl C X.env) fp) E0 vx tv) (his : is.all (own.map (·.2)).contains = true := by rfl) (hs : ∀ x, foldedSetIterable iter X.env x = pure x := by intro _; rfl) :
    QE X E (.DictComp kx vx [⟨tg, iter, ifs, 0⟩] scope pos) (dDc ti g tt tk tv (own.map (·.2))) := by
  have hv : ∀ i ∈ is, i ∈ own.map (·.2) := fun i hi => by
    have q := List.all_eq_true.mp his i hi
    simpa using q
  refine pe_imp (pe_dc (tk := LE ⟨X.K, X.mg, E0⟩ tk) (tv := LE ⟨X.K, X.mg, E0⟩ tv) (tt := LT ⟨X.K, X.mg, E0⟩ tt) hc hN hi ok (fun s H C cl fp => (hg s H C cl fp).1) ht hk he hs) fun s H Q q => ?_
  have h0 := hg X.s_0 H 0 [] []
  exact dc_red (mg := X.mg) h0.2.1 (h0.2.2 _ hv) q
end
/-- sorted of a dict's keys, ints -/
def spSortedD : SpD := fun ds S k _ => match ds with
  | [.ref n] => ∃ (kvs : List (Key × D)) (ks : List Int), S[n]? = some (.dic kvs) ∧ kvs.map (·.1) = ks.map Sum.inl ∧ ks.length < 64 ∧ ∀ ms : List Int, ms.Perm ks → ms.Pairwise (· ≤ ·) → k (.ref S.length) (S ++ [.lst (ms.map D.int)])
  | _ => False
theorem c_sortedD {X : Cx} {E : XK} (hc : X.calm = true) : CallR X (.builtin "sorted") (LLs (cy X E) spSortedD) := by
  intro pins s σ H xs us Q I r ⟨ds, al, S, kd, xd, rs, rd, q, up, ux⟩
  unfold spSortedD at q
  split at q
  · obtain ⟨kvs, ks, hS, hk, hz, q⟩ := q
    obtain ⟨v, e, a, e2, ha⟩ := rds1 rd
    subst e e2
    obtain ⟨vs, e1, rk⟩ := rs.ob _ _ _ hS ha
    exact call_sortedDI hc pins s σ H _ us Q I r ⟨a, vs, ks, rfl, .of e1, (rks_keys rk).trans hk, hz, fun ms p hp hs hn => up_new up rs hn (ints_rd ms) (q ms hp hs)⟩
  · exact q.elim
end Q
namespace Q
open PySem
open Spec PyProof.Rows L2

/-! ### defs that are called where no repr is under way; repr -/
structure FnG (P : Program) (w : World) (K : PySem.W.Frag) (mg : Str → Option Value) (base : Heap) (k : Nat) (f : Addr) (fd : FuncData) (ps : List Str) (sp : Sp) : Prop where
  len : ∀ vs H Q E, sp vs H Q E → vs.length = ps.length
  go : ∀ (A : Around) (outer : List Env) (s : Shared) (H : Hp) (args : Args) (us : List Value) (vs : List V) (Q : VK) (E : XK), A.guards = some [] → Room k A → Env0 P w K mg base A outer s H → BindsTo s fd args (ps.zip us) → Vals vs us → sp vs H Q E →
    codeAny (model P w) A (.call (.ref f) args) (CR (L2.CX P w) outer P w H s Q E) s
theorem FnG.of {P : Program} {w : World} {K : PySem.W.Frag} {mg : Str → Option Value} {base : Heap} {k : Nat} {f : Addr} {fd : FuncData} {ps : List Str} {sp : Sp} (F : FnOk P w K mg base (L2.CX P w) k f fd ps sp) : FnG P w K mg base k f fd ps sp :=
  ⟨F.len, fun A outer s H args us vs Q E _ => F.run A outer s H args us vs Q E⟩
section
variable {P : Program} {w : World} {K : PySem.W.Frag} {mg : Str → Option Value} {base : Heap} {x qual : Str} {params : Arguments} {body : List Stmt} {scope : Scope} {f : Addr} {fd : FuncData} {ps N : List Str} {k : Nat} {t : TSD} {sp : SpD}
theorem def_okG (F : FunD K x qual params body scope [] [] f fd) (S : FnScope N ps scope)
    (hbody : ∀ (cdv : Value) (A : Around) (outer : List Env) (s : Shared) (H : Hp) (E : XK), A.guards = some [] → Room k (A.deeper (envOfC qual scope s.heap.objs.size f cdv)) → QSs (cxOf (L2.CX P w) P w K mg base N qual scope f cdv A outer s H E) E body t)
    (hsp : Keeps ps.length N.length t sp) : FnG P w K mg base (k + 1) f fd ps (LP K mg ps.length sp) := by
  obtain ⟨_, _, _, _, doc, pm, an, cdv, ct, _, rfl, lk, hcd, _, _⟩ := F.ex
  constructor
  · exact fun vs H Q E h => h.1
  intro A outer s H args us vs Q E hG hr e0 hb r h
  obtain ⟨hl, ds, al, S0, kd, xd, rs, rd, q, up, ux⟩ := h
  have hlu := hl
  have keep : ∀ b o, base.get? b = some o → s.heap.get? b = some o := fun b o e => (e0.bs b o e).1
  have par : ∀ y ∈ ps.zip us, scope.names.lookup y.1 = some .local ∨ (scope.names.lookup y.1 = some .cell ∧ ((cellsFrom (s.heap.objs.size + 1) scope.names []).lookup y.1).isSome = true) := by
    rintro ⟨n, v⟩ hy
    exact (S.par n (List.of_mem_zip hy).1).imp id fun q => ⟨q, PySem.W.cellsFrom_some _ _ _ (.inl q)⟩
  refine codeAny_call_function hr.depth (e0.mod.kin.keeps keep _ _ lk) rfl S.co S.gen rfl (PySem.W.codeRec_of (e0.mod.kin.keeps keep) hcd) (hb _ _ _ _ (wpAny_newFunctionEnv_cells S.kind par ?_))
  rintro env rfl s1 nw
  refine ⟨(e0.mod.nolimit.keeps keep).keeps nw.toInCall.keep, codeAny_func ?_⟩
  have J := inv_start (CX := L2.CX P w) (E := E) S hr.hd e0 hl r nw
  have T := hbody cdv A outer s H E hG (hr.deeper _)
  refine wpAny_mono (T.run [] s1 (start N vs) H { nx := fun _ H' => Q .non H', rt := Q } J ⟨startD N.length ds, al, S0, endsD S0.length kd xd, rs, rsl_start rd, hsp ds S0 kd xd (by rw [← RDs.length rd]; exact hl) (rs_cl rs) (by rw [← rs.len]; exact rds_cl ds vs rd) q, ?_⟩) ?_ fun _ _ z => z
  · rw [← rs.len]
    exact ⟨fun sg S' al' H' sv f1 r1 q1 => up_wk up .non S' al' H' .non f1 rfl q1, up_wk up, fun sg S' al' H' sv f1 r1 q1 => q1.elim, fun sg S' al' H' sv f1 r1 q1 => q1.elim, ux_wk ux⟩
  · intro fl s' hs
    match fl, hs with
    | .ret u, ⟨v, σ', H', J, rv, q⟩ => exact ⟨v, H', J.os, J.bare, J.base, J.hok, rv, q⟩
    | .next, ⟨σ', H', J, q⟩ => exact ⟨.non, H', J.os, J.bare, J.base, J.hok, rfl, q⟩
    | .brk, ⟨_, _, _, q⟩ => exact q.elim
    | .cont, ⟨_, _, _, q⟩ => exact q.elim
end
section
variable {X : Cx} {E : XK} {e : Expr} {es : List Expr} {tr : TAD} {pos p : Pos} {k n : Nat} {f : Addr} {fd : FuncData} {ps : List Str} {sp : SpD} {x : Str}
theorem q_callG (hG : X.A.guards = some []) (F : FnG X.prog X.w X.K X.mg X.base k f fd ps (LP X.K X.mg n sp)) (hr : Room k X.A) (hg : Gl X x) (hm : X.mg x = some (.ref f)) (hk : PySem.W.keepIn X.K (.ref f) = true) (hb : Binds X.K fd ps []) (hx : Passes (L2.CX X.prog X.w) X E)
    (ha : QA X E (e :: es) tr) (hdb : (x == ("__debug__" : Str)) = false := by decide) (he : starEach (e :: es) X.env = (false, eval e X.env) :: starEach es X.env := by rfl) (hpl : (backTo pos (starEach es X.env)).any (·.1) = false := by rfl) :
    QE X E (.Call (.Name x p) (e :: es) [] pos) (dCall (spN n sp) tr) := by
  constructor
  rintro pins s σ H Q I ⟨sg, al, S, kd, xd, rs, rl, q, up, ux⟩
  refine wpAny_Call_Name_kw (ld_glob I hg hm (PySem.W.callWith_K (h₀ := X.base) I.ok.mod.kin hk (thn (ha.run pos pins s σ H (fun vs H1 => ∃ ds al1 S1, Fut X.K H al H1 al1 S1 ∧ RDs X.K H1 al1 ds vs ∧ kCall (spN n sp) kd xd ds S1) I
    ⟨sg, al, S, _, xd, rs, rl, q, fun ds S1 al1 H1 vs f1 r1 q1 => ⟨ds, al1, S1, f1, r1, q1⟩, ux⟩) ?_) he hpl) hdb)
  rintro us s1 ⟨vs, H1, I1, r, ds, al1, S1, f1, r1, l1, q1⟩
  refine ⟨I1.kIn, ?_⟩
  have h : LP X.K X.mg n sp vs H1 Q E := ⟨by rw [RDs.length r1]; exact l1, ds, al1, S1, kd, xd, f1.rs, r1, q1, up.mono f1, ux.mono f1⟩
  have l2 : (us ++ []).length = ps.length := by rw [List.append_nil, ← r.length]; exact F.len _ _ _ _ h
  have b := hb s1 us I1.kIn l2
  rw [List.append_nil] at b
  refine wpAny_call (codeAny_mono (F.go X.A X.stack s1 H1 ⟨us, []⟩ us vs Q E hG hr I1.env0 b r h) ?_)
  intro r' s' hq
  match r', hq with
  | .error e, hq => exact hx pins σ H1 s1 e s' I1 hq
  | .ok (.ret u), hq => exact I1.after hq
  | .ok .next, hq => exact hq.elim
  | .ok .brk, hq => exact hq.elim
  | .ok .cont, hq => exact hq.elim
/-- repr of a tuple, of a list -/
def spRepr : SpD := fun ds S k _ => ∃ d q, ds = [d] ∧ DPy S d q ∧ flatD d = false ∧ q.showable = true ∧ q.hasDict = false ∧ q.depth ≤ 60 ∧ q.shown.length ≤ sizeLine ∧ k (.str q.shown) S
theorem c_repr (hG : X.A.guards = some []) (hr : Room k X.A) : CallR X (.builtin "repr") (LLs (cy X E) spRepr) := by
  intro pins s σ H xs us Q I r ⟨ds, al, S, kd, xd, rs, rd, ⟨d, q, ed, hd, hf, h1, h2, h3, h4, hk⟩, up, ux⟩
  subst ed
  obtain ⟨v, e, rv⟩ := rds1 rd
  subst e
  obtain ⟨u, eu, ru⟩ := vals1 r
  subst eu
  obtain ⟨as, R⟩ := Dp.reads I q v u (DPy.dp rs q d v hd rv) ru
  have un := hr.un
  obtain ⟨a, ea⟩ : ∃ a, u = .ref a := by
    cases d with
    | tup ds =>
      obtain ⟨a, vs, e, _⟩ := rv
      subst e
      exact ⟨a, ru⟩
    | ref n =>
      obtain ⟨a, e, _⟩ := rv
      subst e
      exact ⟨a, ru⟩
    | _ => exact nomatch hf
  subst ea
  refine repr_of_reads' R h1 (fun z => by rw [h2] at z; cases z) hG (by omega) (fun _ _ e => e) (fun h' u tk kp => ⟨.str q.shown, H, I.kept kp, ⟨u, rfl⟩, up_at up rs (d := .str q.shown) rfl hk⟩) h4
end
end Q
namespace Q
open PySem
open Spec PyProof.Rows L2

/-! ### the law's call, where no repr is under way -/
section
variable {P : Program} {w : World} {K : PySem.W.Frag} {mg mb : Str → Option Value} {k : Nat} {fa a : Addr} {fd : FuncData} {x : Str} {sp : Sp} {st : Shared} {vs : List Value} {ns : List Int} {H : Hp}
/-- the caller's side, where the script alone may be tracked -/
theorem lone_env (KX : K.In st.heap) (hns : st.heap.Ns mainGlobals mg) (hb : st.heap.Ns builtinsNs mb) (hbb : ∀ x : Str, x ≠ "__name__" → mb x = bootBuiltins x) (hlim : st.heap.NoLimit) (hg : st.gens = #[])
    (ha : st.heap.get? a = some { cls := .type "list", data := .seq vs.toArray }) (hok : HOk P w H st.heap) (hA : ∀ b, H b ≠ none → b = a) (hK : H a ≠ none → K.lookup a = none) :
    K.In (hidT st.heap H) ∧ (hidT st.heap H).Ns mainGlobals mg ∧ Env0 P w K mg (hidT st.heap H) callerA [] st H := by
  have free : ∀ {b : Addr}, (H b = none) ∨ (b = a ∧ H b ≠ none) := fun {b} => by
    by_cases q : H b = none
    · exact .inl q
    · exact .inr ⟨hA b q, q⟩
  have nsIn : ∀ {b : Addr} {m : Str → Option Value}, st.heap.Ns b m → (hidT st.heap H).Ns b m := by
    rintro b m ⟨o, es, ep, e, d, r⟩
    rcases free (b := b) with q | ⟨rfl, _⟩
    · exact ⟨o, es, ep, hidT_get e q, d, r⟩
    · rw [ha] at e
      cases e
      cases d
  have kin : K.In (hidT st.heap H) := by
    intro b o e
    rcases free (b := b) with q | ⟨rfl, q⟩
    · exact hidT_get (KX b o e) q
    · rw [hK q] at e
      cases e
  obtain ⟨mc, l1, l2⟩ := hlim
  exact ⟨kin, nsIn hns, rfl, ⟨kin, nsIn hns, ⟨mb, nsIn hb, hbb⟩, mc, nsIn l1, l2⟩, fun b o e => of_hidT e, Nat.le_of_eq (hidT_size _ _), trivial, fun b hb => (nomatch hb), hok, .of_eq hg⟩
theorem law_callG (KX : K.In st.heap) (hns : st.heap.Ns mainGlobals mg) (hb : st.heap.Ns builtinsNs mb) (hbb : ∀ x : Str, x ≠ "__name__" → mb x = bootBuiltins x) (hlim : st.heap.NoLimit) (hg : st.gens = #[])
    (ha : st.heap.get? a = some { cls := .type "list", data := .seq vs.toArray }) (hi : IntsAre vs ns) (hl : ns.length ≤ sizeLine) (hr : Room k callerA)
    (F : ∀ B : Heap, K.In B → B.Ns mainGlobals mg → FnG P w K mg B k fa fd [x] sp) (hbind : ∀ (s : Shared) (u : Value), BindsTo s fd ⟨[u], []⟩ [(x, u)])
    (hsp : ∀ H : Hp, Only H → SqL K H a (ns.map V.int) → sp [.ref a] H (fun v _ => v = .bl true) fun _ _ _ => False)
    (hCX : ∀ H e s', L2.CX P w [] H st (fun _ _ _ => False) e s' → False) :
    codeAny (model P w) callerA (.call (.ref fa) ⟨[.ref a], []⟩) (fun r s' => r = .ok (.ret (.bool true)) ∧ OldK st.heap s'.heap ∧ s'.os = st.os ∧ AllBare s'.gens) st := by
  have rv := vals_ints hi
  suffices go : ∀ H : Hp, Only H → SqL K H a (ns.map V.int) → HOk P w H st.heap → (∀ b, H b ≠ none → b = a) → (H a ≠ none → K.lookup a = none) →
      codeAny (model P w) callerA (.call (.ref fa) ⟨[.ref a], []⟩) (fun r s' => r = .ok (.ret (.bool true)) ∧ OldK st.heap s'.heap ∧ s'.os = st.os ∧ AllBare s'.gens) st by
    cases hk : K.lookup a with
    | some o =>
      have e := KX a o hk
      rw [ha] at e
      cases e
      exact go (fun _ => none) (fun _ => .inl rfl) (.inr ⟨_, vs.toArray, _, hk, rfl, rfl, rfl, by rw [List.size_toArray, hi.length]; exact hl, by simpa using rv⟩) (fun _ _ z => nomatch z) (fun _ z => (z rfl).elim) fun z => (z rfl).elim
    | none =>
      have at_ : ∀ b : Addr, (b = a ∧ (if b = a then some (HO.frz { cls := .type "list", data := .seq vs.toArray } (.lst (ns.map V.int))) else none) = some (.frz { cls := .type "list", data := .seq vs.toArray } (.lst (ns.map V.int)))) ∨
          (if b = a then some (HO.frz { cls := .type "list", data := .seq vs.toArray } (.lst (ns.map V.int))) else none) = none := fun b => by
        by_cases q : b = a
        · exact .inl ⟨q, if_pos q⟩
        · exact .inr (if_neg q)
      refine go (fun b => if b = a then some (.frz { cls := .type "list", data := .seq vs.toArray } (.lst (ns.map V.int))) else none) (fun b => ?_) (.inl (.inr ⟨{ cls := .type "list", data := .seq vs.toArray }, if_pos rfl⟩)) (fun b u z => ?_) (fun b z => ?_) fun _ => hk
      · rcases at_ b with ⟨_, q⟩ | q
        · exact .inr ⟨_, _, q⟩
        · exact .inl q
      · rcases at_ b with ⟨rfl, q⟩ | q
        · cases q.symm.trans z
          exact ⟨ha, by rw [List.length_map]; exact hl, vs, _, rv, ha⟩
        · cases q.symm.trans z
      · rcases at_ b with ⟨e, _⟩ | q
        · exact e
        · exact absurd q z
  intro H hO hS hok hA hK
  obtain ⟨k1, k2, e0⟩ := lone_env KX hns hb hbb hlim hg ha hok hA hK
  refine codeAny_mono ((F _ k1 k2).go callerA [] st H ⟨[.ref a], []⟩ [.ref a] [.ref a] _ _ rfl hr e0 (hbind st (.ref a)) (.cons rfl .nil) (hsp H hO hS)) ?_
  intro r s' h
  match r, h with
  | .error e, h => exact (hCX H e s' h).elim
  | .ok .next, h => exact h.elim
  | .ok .brk, h => exact h.elim
  | .ok .cont, h => exact h.elim
  | .ok (.ret u), ⟨v, H', os, bare, un, hok', r', q⟩ =>
    cases (show v = .bl true from q)
    cases (show u = Value.bool true from r')
    refine ⟨rfl, OldK.of_keep fun b o e => ?_, os, bare⟩
    rcases hO b with z | ⟨ob, xs, z⟩
    · exact un.keep b o e z (by intro z; exact absurd (show b ∈ ([] : List Addr) from z) (by simp)) (by simp)
    · obtain ⟨e1, _⟩ := hok b _ z
      rw [e] at e1
      cases e1
      exact (hok' b _ (un.frzs b _ _ z)).1
end
structure OwesG (Pg : Program) (n k : Nat) (x : Str) (w : World) (mg : Str → Option Value) (fa : Addr) (h : Heap) : Prop where
  ex : ∃ (K : PySem.W.Frag) (fd : FuncData) (sp : Sp), (K.In h ∧ ∀ (s : Shared) (u : Value), BindsTo s fd ⟨[u], []⟩ [(x, u)]) ∧
    (∀ (H : Hp) (a : Addr) (ns : List Int), ns.length ≤ n → Only H → SqL K H a (ns.map V.int) → sp [.ref a] H (fun v _ => v = .bl true) fun _ _ _ => False) ∧ ∀ B : Heap, K.In B → B.Ns mainGlobals mg → FnG Pg w K mg B k fa fd [x] sp
theorem walk_ofG {l : PySem.W.OpenLaw} {n k : Nat} {q : Program} {loose : List Str} {XP : (Str → Option Value) → Heap → Prop} {YP : World → Heap → Prop} {d : DefRec} {x : Str} (hn : l.most = some n) (hn2 : n ≤ sizeLine) (hdf : d.params.defaults = []) (hr : Room k callerA)
    (F : ∀ (w : World) (mg : Str → Option Value) (fa : Addr) (h : Heap), YP w h → h.Ns mainGlobals mg → mg d.name = some (.ref fa) → OwesG l.prog n k x w mg fa h) : PySem.W.WalkO q loose XP YP l.row.toRowW d [] (fun f vs => PySem.call f vs) := by
  refine Att.attach_call hn hdf ?_
  intro w s₀ s₁ mg mb fa o pm cd doc a vs ns G Y ho hd hcd hmg hobj hints hlen hg
  obtain ⟨K, fd, sp, ⟨KX, hb⟩, hsp, hF⟩ := (F w mg fa _ Y G.T.g hmg).ex
  refine law_callG KX G.T.g G.T.b G.T.builtins G.T.nolimit hg hobj hints (Nat.le_trans hlen hn2) hr hF hb (fun H hO hS => hsp H a ns hlen hO hS) ?_
  rintro H e s' ⟨_, _, _, _, _, _, _, _, _, _, _, _, z⟩
  exact z.elim
/-- a def that asks for known guards, known to a caller -/
structure FTG (P : Program) (w : World) (K : PySem.W.Frag) (mg : Str → Option Value) (base : Heap) (x : Str) (k : Nat) (ps : List Str) (sp : SpD) (f : Addr) (fd : FuncData) : Prop where
  ok : FnG P w K mg base k f fd ps (LP K mg ps.length sp)
  hm : mg x = some (.ref f)
  hk : PySem.W.keepIn K (.ref f) = true
  hb : Binds K fd ps []
end Q
namespace Q
open PySem
open Spec PyProof.Rows L2

/-! ### xs.insert(i, y), xs[::-1] of a list -/
def rIns : RMD := fun d ds S k _ => match d, ds with
  | .ref n, [.int i, y] => ∃ xs, S[n]? = some (.lst xs) ∧ xs.length < sizeLine ∧ 0 ≤ i ∧ i < 2 ^ 63 ∧ k .non (S.set n (.lst (xs.take i.toNat ++ [y] ++ xs.drop i.toNat)))
  | _, _ => False
theorem m_ins {X : Cx} {E : XK} : MtR X "list.insert" (LLm (cy X E) rIns) := by
  intro pins s σ H x vs v us Q I rx rv ⟨d, ds, al, S, kd, xd, rs, rd, rds, q, up, ux⟩
  unfold rIns at q
  split at q
  · obtain ⟨xs, h1, hz, h0, h63, q⟩ := q
    obtain ⟨a, us', e1, ha, hH, r1⟩ := lst_at rs h1 rd
    obtain ⟨z, y, e2, rz, ry⟩ := rds2 rds
    cases (show z = _ from rz)
    exact mt_insert pins s σ H x vs v us Q I rx rv ⟨a, us', _, y, e1, e2, hH, by rw [RDs.length r1]; exact hz, h0, h63, up .non _ al _ .non (set_lst rs h1 ha (RDs.append (RDs.append (RDs.take _ r1) (RDs.one ry)) (RDs.drop _ r1))) rfl q⟩
  · exact q.elim
def kRev (k : KD) : KD := fun d S => match d with
  | .ref n => ∃ xs, isL S n xs ∧ k (.ref S.length) (S ++ [.lst xs.reverse])
  | _ => False
def dRevL (te : TED) : TED := fun sg S k x => te sg S (kRev k) x
theorem rds_rev {K : PySem.W.Frag} {H : Hp} {al : List Addr} : ∀ {ds : List D} {vs : List V}, RDs K H al ds vs → RDs K H al ds.reverse vs.reverse
  | [], _, h => by rw [show _ = [] from h]; exact rfl
  | d :: ds, _, ⟨v, r, e, h1, h2⟩ => by
    subst e
    rw [List.reverse_cons, List.reverse_cons]
    exact RDs.append (rds_rev h2) (RDs.one h1)
theorem q_revL {X : Cx} {E : XK} {e : Expr} {te : TED} {k : Nat} {p1 p2 p3 pos : Pos} (he : QE X E e te) : QE X E (.Subscript e (.Slice none none (some (.UnaryOp .USub (.Constant (.int 1) k p1) p2)) p3) pos) (dRevL te) :=
  pe_imp (pe_revL he) fun s H Q ⟨sg, al, S, kd, xd, rs, rl, q, up, ux⟩ => ⟨sg, al, S, kRev kd, xd, rs, rl, q, fun d S1 al1 H1 v f1 r1 q1 => by
    unfold kRev at q1
    split at q1
    · obtain ⟨xs, hl, q1⟩ := q1
      obtain ⟨a, vs, e2, _, h1, rv⟩ := isL_at f1.rs hl r1
      exact ⟨a, vs, e2, h1, fun p hp => up_new (up.mono f1) f1.rs hp (rds_rev rv) q1⟩
    · exact q1.elim, ux⟩
/-- a comprehension whose element may change the store -/
theorem lc_ind {it : ItD} {i : Nat} {te : TED} {sg : Sl} {k : KD} {S : Sto} (I : List D → List D → Sto → Prop) (h0 : I it.items [] (S ++ [.lst []])) (hend : ∀ acc T, I [] acc T → it.grd T ∧ k (.ref S.length) T)
    (hs : ∀ d r acc T (kk : KD), I (d :: r) acc T → (∀ y T2, T2[S.length]? = some (.lst acc) → acc.length < sizeLine → I r (acc ++ [y]) (T2.set S.length (.lst (acc ++ [y]))) → kk y T2) → it.grd T ∧ te (sg.set i (some d)) T kk XF) : kLc (gNm i) dYes te sg k it S := by
  have go : ∀ (items acc : List D) (T : Sto), I items acc T → wLc it.grd (gNm i) dYes te sg S.length (fun S' => k (.ref S.length) S') items T := by
    intro items
    induction items with
    | nil => exact fun acc T h => hend acc T h
    | cons d r ih =>
      intro acc T h
      have q := hs d r acc T (kLc3 S.length (wLc it.grd (gNm i) dYes te sg S.length (fun S' => k (.ref S.length) S') r)) h fun y T2 h1 h2 h3 => ⟨acc, h1, h2, ih _ _ h3⟩
      exact ⟨q.1, ⟨fun _ => q.2, fun z => nomatch z⟩⟩
  exact go _ _ _ h0
theorem set_mid {A G G2 : Sto} {o u : O} {m : Nat} (h : A.length + G.length = m) : (A ++ (G ++ o :: G2)).set m u = A ++ (G ++ u :: G2) := by
  subst h
  rw [← List.append_assoc, ← List.length_append, set_at0, List.append_assoc]
theorem get_mid {A G G2 : Sto} {o : O} {m : Nat} (h : A.length + G.length = m) : (A ++ (G ++ o :: G2))[m]? = some o := by
  subst h
  rw [← List.append_assoc, ← List.length_append, get_at0]
theorem set_in {A G : Sto} {u : O} {m r : Nat} (h : A.length + r = m) : (A ++ G).set m u = A ++ G.set r u := by
  subst h
  exact set_at
end Q
open Q
local macro_rules | `(tactic| walk_at "dx") => `(tactic| try simp only [dSeq, dDrop, kDrop, dRet, dRetN, dIf, kIf, dNever, dNext, dBreak, dCont, dSet, kSet, dPar, kPar, dPar3, kPar3, dAug, kAug, dAsg, kAsg, gNm, gsNil, gsCons, gTp, gSb, kGs1, kGs2, rSet, dFor, kFor, dLc, dYes, wipeD,
  dC, dVar, dUn, dOp, kOp1, kOp2, dTst, kB, dAnd, kAnd, dOr, kOr, dNot, kNot, dAndV, kAndV, dOrV, kOrV, dNotV, kNotV, dIfE, kIfE, dNil, dCons, kCons1, kCons2, dTup, kTup, dLst, kLst, dCall, kCall, spN, dCallK, kCK1, kCK2, pick, dMet, kM1, kM2, isLst, rApp, dSl, kSl1, kSl2, kSl3, rSl, dNoP, dPart, kPart,
  rAdd, rSub, rMul, rFdiv, rMod, rPow, rShl, rShr, rAnd, rXor, rNeg, rEq, rNe, rLt, rLe, rGt, rGe, rIs, rIsNot, isNon, rIx, rIsi, rIsi2, isTy, spLen, spInt, spTuple, spAll, spAny, spMax, spMin, spAbs, rIn, rNotIn, rIns, dRevL, kRev, iSq, iRg1, kRg1, iRg2, kRg2, rIAdd, endsD,
  isL_iff, atI0, atI1, atI2, get_at0, get_at, List.set_set, List.length_set, lget_at0, lget_at, lget_hd, lget_tl, set_at0, set_at, app1, List.nil_append, List.cons_append, List.length_cons, List.length_nil, List.length_append,
  List.getElem?_cons_zero, List.getElem?_cons_succ, List.set_cons_zero, List.set_cons_succ, List.getElem?_nil, List.filterMap_cons, List.filterMap_nil, List.append_nil,
  Option.some.injEq, O.lst.injEq, exists_eq_left', exists_eq_left, exists_eq', List.cons.injEq, D.int.injEq, D.bl.injEq, D.tup.injEq, D.ref.injEq, D.str.injEq, Int.natCast_inj, true_and, and_true, and_self, Nat.reduceAdd, Nat.zero_add, Bool.not_true, Bool.not_false, reduceCtorEq, forall_const, imp_self, not_true_eq_false, not_false_eq_true, false_implies, true_implies, implies_true, Bool.true_eq_false, Bool.false_eq_true, Bool.true_or, Bool.or_true, Bool.false_or, Bool.or_false, Bool.and_true, Bool.true_and, decide_eq_true_eq, decide_eq_false_iff_not, Bool.not_eq_true', Bool.not_eq_false', decide_true, decide_false, or_false, false_or, exists_false, exists_and_left, and_assoc])
local macro_rules | `(tactic| walk_at "dz") => `(tactic| try simp only [dDrop, kDrop, dRet, dRetN, dIf, kIf, dNever, dNext, dBreak, dCont, dSet, kSet, dPar, kPar, dPar3, kPar3, dAug, kAug, dAsg, kAsg, gNm, gsNil, gsCons, gTp, gSb, kGs1, kGs2, rSet, dFor, kFor, dLc, dYes, wipeD,
  dC, dVar, dUn, dOp, kOp1, kOp2, dTst, kB, dAnd, kAnd, dOr, kOr, dNot, kNot, dAndV, kAndV, dOrV, kOrV, dNotV, kNotV, dIfE, kIfE, dNil, dCons, kCons1, kCons2, dTup, kTup, dLst, kLst, dCall, kCall, spN, dCallK, kCK1, kCK2, pick, dMet, kM1, kM2, isLst, rApp, dSl, kSl1, kSl2, kSl3, rSl, dNoP, dPart, kPart,
  rAdd, rSub, rMul, rFdiv, rMod, rPow, rShl, rShr, rAnd, rXor, rNeg, rEq, rNe, rLt, rLe, rGt, rGe, rIs, rIsNot, isNon, rIx, rIsi, rIsi2, isTy, spLen, spInt, spTuple, spAll, spAny, spMax, spMin, spAbs, rIn, rNotIn, rIns, dRevL, kRev, iSq, iRg1, kRg1, iRg2, kRg2, rIAdd, endsD,
  isL_iff, atI0, atI1, atI2, get_at0, get_at, List.set_set, List.length_set, lget_at0, lget_at, lget_hd, lget_tl, set_at0, set_at, app1, List.nil_append, List.cons_append, List.length_cons, List.length_nil, List.length_append,
  List.getElem?_cons_zero, List.getElem?_cons_succ, List.set_cons_zero, List.set_cons_succ, List.getElem?_nil, List.filterMap_cons, List.filterMap_nil, List.append_nil,
  Option.some.injEq, O.lst.injEq, exists_eq_left', exists_eq_left, exists_eq', List.cons.injEq, D.int.injEq, D.bl.injEq, D.tup.injEq, D.ref.injEq, D.str.injEq, Int.natCast_inj, true_and, and_true, and_self, Nat.reduceAdd, Nat.zero_add, Bool.not_true, Bool.not_false, reduceCtorEq, forall_const, imp_self, not_true_eq_false, not_false_eq_true, false_implies, true_implies, implies_true, Bool.true_eq_false, Bool.false_eq_true, Bool.true_or, Bool.or_true, Bool.false_or, Bool.or_false, Bool.and_true, Bool.true_and, decide_eq_true_eq, decide_eq_false_iff_not, Bool.not_eq_true', Bool.not_eq_false', decide_true, decide_false, or_false, false_or, exists_false, exists_and_left, and_assoc])
namespace Q
open PySem
open Spec PyProof.Rows L2
/-! ### fresh.py, words.py -/
/-- a value that may be looked at -/
def okD (S : Sto) (d : D) : Prop := ∀ n, d = .ref n → ∃ ds, lget S n = some ds
def isIntD : D → Bool
  | .int _ => true
  | _ => false
def isNatD : D → Bool
  | .int i => decide (0 ≤ i)
  | _ => false
def sp_is_integer : SpD := fun ds S k _ => ∃ d, ds = [d] ∧ okD S d ∧ k (.bl (isIntD d)) S
def sp_is_natural : SpD := fun ds S k _ => ∃ d, ds = [d] ∧ okD S d ∧ k (.bl (isNatD d)) S
def bitsFrom (p : Nat) : Nat → Nat → List Nat
  | 0, _ => []
  | fuel + 1, r => if r = 0 then [] else if r % 2 = 1 then p :: bitsFrom (p + 1) fuel (r / 2) else bitsFrom (p + 1) fuel (r / 2)
/-- the places of the bits of a word -/
def bitsN (n : Nat) : List Nat := bitsFrom 0 n n
def intsN (l : List Nat) : List D := l.map fun i : Nat => D.int (i : Int)
theorem pds_ints (n : Nat) : ∀ l : List Nat, pds n (intsN l) = true
  | [] => rfl
  | a :: l => by
    show (pd n (.int a) && pds n (intsN l)) = true
    rw [pds_ints n l]
    cases n <;> rfl
def sp_bits_of : SpD := fun ds S k _ => ∃ n : Nat, ds = [.int n] ∧ n < 2 ^ 100000 ∧ k (.tup (intsN (bitsN n))) S
def sp_check_word : SpD := fun ds S k _ => ∃ n : Nat, ds = [.int n] ∧ k .non S
def sp_check_wide : SpD := fun ds S k _ => ∃ n : Nat, ds = [.int n] ∧ 1 ≤ n ∧ k .non S
def sp_added : SpD := fun ds S k _ => ∃ m n : Nat, ds = [.int m, .int n] ∧ k (.int ((m ^^^ n : Nat) : Int)) S
def sp_bits : SpD := sp_bits_of
/-- the least width -/
def widthN (n : Nat) : Nat := if n = 0 then 1 else n.log2 + 1
def sp_width_of : SpD := fun ds S k _ => ∃ n : Nat, ds = [.int n] ∧ n < 2 ^ 100000 ∧ k (.int (widthN n)) S
def sp_width : SpD := sp_width_of
def isWordD (w : Nat) : D → Bool
  | .int i => decide (0 ≤ i ∧ i < 2 ^ w)
  | _ => false
def sp_is_word_of : SpD := fun ds S k _ => ∃ (w : Nat) (d : D), ds = [.int w, d] ∧ okD S d ∧ 1 ≤ w ∧ (∀ i, d = .int i → i < 2 ^ 100000) ∧ k (.bl (isWordD w d)) S
def sp_is_word : SpD := sp_is_word_of
/-- is_integer(value); slots: 0 value -/
def t_is_integer : TSD := (dRet (dAndV (dUn (rIsi .int) (dVar 0)) (dNotV (dUn (rIsi .bool) (dVar 0)))))
/-- is_natural(value); slots: 0 value -/
def t_is_natural : TSD := (dRet (dAndV (dCall (spN 1 sp_is_integer) (dCons (dVar 0) dNil)) (dOp rGe (dVar 0) (dC (.int 0)))))
/-- bits_of(a); slots: 0 a, 1 found, 2 place, 3 rest -/
def t_bits_of : TSD := (dSeq (dPar3 1 2 3 (dCons (dLst dNil) (dCons (dC (.int 0)) (dCons (dVar 0) dNil)))) (dSeq (dWhile (dTst (dOp rGt (dVar 3) (dC (.int 0)))) (dSeq (dIf (dTst (dOp rEq (dOp rMod (dVar 3) (dC (.int 2))) (dC (.int 1)))) (dDrop (dMet rApp (dVar 1) (dCons (dVar 2) dNil))) dNext) (dPar 3 2 (dCons (dOp rFdiv (dVar 3) (dC (.int 2))) (dCons (dOp rAdd (dVar 2) (dC (.int 1))) dNil))))) (dRet (dCall spTuple (dCons (dVar 1) dNil)))))
/-- check_word(a); slots: 0 a -/
def t_check_word : TSD := (dIf (dNot (dTst (dCall (spN 1 sp_is_natural) (dCons (dVar 0) dNil)))) dNever dNext)
/-- added(a, b); slots: 0 a, 1 b -/
def t_added : TSD := (dSeq (dDrop (dCall (spN 1 sp_check_word) (dCons (dVar 0) dNil))) (dSeq (dDrop (dCall (spN 1 sp_check_word) (dCons (dVar 1) dNil))) (dRet (dOp rXor (dVar 0) (dVar 1)))))
/-- bits(a); slots: 0 a -/
def t_bits : TSD := (dSeq (dDrop (dCall (spN 1 sp_check_word) (dCons (dVar 0) dNil))) (dRet (dCall (spN 1 sp_bits_of) (dCons (dVar 0) dNil))))

local macro_rules | `(tactic| walk_at "dzs") => `(tactic| try simp only [sp_is_integer, sp_is_natural, sp_bits_of, sp_check_word, sp_added, sp_bits, isIntD, isNatD, dDrop, kDrop, dRet, dRetN, dIf, kIf, dNever, dNext, dBreak, dCont, dSet, kSet, dPar, kPar, dPar3, kPar3, dAug, kAug, dAsg, kAsg, gNm, gsNil, gsCons, gTp, gSb, kGs1, kGs2, rSet, dFor, kFor, dLc, dYes, wipeD,
  dC, dVar, dUn, dOp, kOp1, kOp2, dTst, kB, dAnd, kAnd, dOr, kOr, dNot, kNot, dAndV, kAndV, dOrV, kOrV, dNotV, kNotV, dIfE, kIfE, dNil, dCons, kCons1, kCons2, dTup, kTup, dLst, kLst, dCall, kCall, spN, dCallK, kCK1, kCK2, pick, dMet, kM1, kM2, isLst, rApp, dSl, kSl1, kSl2, kSl3, rSl, dNoP, dPart, kPart,
  rAdd, rSub, rMul, rFdiv, rMod, rPow, rShl, rShr, rAnd, rXor, rNeg, rEq, rNe, rLt, rLe, rGt, rGe, rIs, rIsNot, isNon, rIx, rIsi, rIsi2, isTy, spLen, spInt, spTuple, spAll, spAny, spMax, spMin, spAbs, rIn, rNotIn, rIns, dRevL, kRev, iSq, iRg1, kRg1, iRg2, kRg2, rIAdd, endsD,
  isL_iff, atI0, atI1, atI2, get_at0, get_at, List.set_set, List.length_set, lget_at0, lget_at, lget_hd, lget_tl, set_at0, set_at, app1, List.nil_append, List.cons_append, List.length_cons, List.length_nil, List.length_append,
  List.getElem?_cons_zero, List.getElem?_cons_succ, List.set_cons_zero, List.set_cons_succ, List.getElem?_nil, List.filterMap_cons, List.filterMap_nil, List.append_nil,
  Option.some.injEq, O.lst.injEq, exists_eq_left', exists_eq_left, exists_eq', List.cons.injEq, D.int.injEq, D.bl.injEq, D.tup.injEq, D.ref.injEq, D.str.injEq, Int.natCast_inj, true_and, and_true, and_self, Nat.reduceAdd, Nat.zero_add, Bool.not_true, Bool.not_false, reduceCtorEq, forall_const, imp_self, not_true_eq_false, not_false_eq_true, false_implies, true_implies, implies_true, Bool.true_eq_false, Bool.false_eq_true, Bool.true_or, Bool.or_true, Bool.false_or, Bool.or_false, Bool.and_true, Bool.true_and, decide_eq_true_eq, decide_eq_false_iff_not, Bool.not_eq_true', Bool.not_eq_false', decide_true, decide_false, or_false, false_or, exists_false, exists_and_left, and_assoc])
local macro_rules | `(tactic| walk_at "ds") => `(tactic| try simp only [sp_is_integer, sp_is_natural, sp_bits_of, sp_check_word, sp_added, sp_bits, isIntD, isNatD, dSeq, dDrop, kDrop, dRet, dRetN, dIf, kIf, dNever, dNext, dBreak, dCont, dSet, kSet, dPar, kPar, dPar3, kPar3, dAug, kAug, dAsg, kAsg, gNm, gsNil, gsCons, gTp, gSb, kGs1, kGs2, rSet, dFor, kFor, dLc, dYes, wipeD,
  dC, dVar, dUn, dOp, kOp1, kOp2, dTst, kB, dAnd, kAnd, dOr, kOr, dNot, kNot, dAndV, kAndV, dOrV, kOrV, dNotV, kNotV, dIfE, kIfE, dNil, dCons, kCons1, kCons2, dTup, kTup, dLst, kLst, dCall, kCall, spN, dCallK, kCK1, kCK2, pick, dMet, kM1, kM2, isLst, rApp, dSl, kSl1, kSl2, kSl3, rSl, dNoP, dPart, kPart,
  rAdd, rSub, rMul, rFdiv, rMod, rPow, rShl, rShr, rAnd, rXor, rNeg, rEq, rNe, rLt, rLe, rGt, rGe, rIs, rIsNot, isNon, rIx, rIsi, rIsi2, isTy, spLen, spInt, spTuple, spAll, spAny, spMax, spMin, spAbs, rIn, rNotIn, rIns, dRevL, kRev, iSq, iRg1, kRg1, iRg2, kRg2, rIAdd, endsD,
  isL_iff, atI0, atI1, atI2, get_at0, get_at, List.set_set, List.length_set, lget_at0, lget_at, lget_hd, lget_tl, set_at0, set_at, app1, List.nil_append, List.cons_append, List.length_cons, List.length_nil, List.length_append,
  List.getElem?_cons_zero, List.getElem?_cons_succ, List.set_cons_zero, List.set_cons_succ, List.getElem?_nil, List.filterMap_cons, List.filterMap_nil, List.append_nil,
  Option.some.injEq, O.lst.injEq, exists_eq_left', exists_eq_left, exists_eq', List.cons.injEq, D.int.injEq, D.bl.injEq, D.tup.injEq, D.ref.injEq, D.str.injEq, Int.natCast_inj, true_and, and_true, and_self, Nat.reduceAdd, Nat.zero_add, Bool.not_true, Bool.not_false, reduceCtorEq, forall_const, imp_self, not_true_eq_false, not_false_eq_true, false_implies, true_implies, implies_true, Bool.true_eq_false, Bool.false_eq_true, Bool.true_or, Bool.or_true, Bool.false_or, Bool.or_false, Bool.and_true, Bool.true_and, decide_eq_true_eq, decide_eq_false_iff_not, Bool.not_eq_true', Bool.not_eq_false', decide_true, decide_false, or_false, false_or, exists_false, exists_and_left, and_assoc])
theorem k_is_integer : Keeps 1 1 t_is_integer sp_is_integer := by
  intro ds S k x hl cS cd h
  obtain ⟨d, rfl, hd, h⟩ := h
  show t_is_integer (endsD S.length k x) [some d] S
  have h' := wk_now (n := S.length) h
  cases d with
  | ref n =>
    obtain ⟨xs, hx⟩ := hd n rfl
    simp only [t_is_integer]
    walk_at "dx"
    simp only [tyR_of hx, Option.some.injEq, exists_eq_left', isTy]
    exact ⟨fun z => (nomatch z), fun _ => h'⟩
  | _ => simp only [t_is_integer]; walk_at "dx"; exact h'
theorem k_is_natural : Keeps 1 1 t_is_natural sp_is_natural := by
  intro ds S k x hl cS cd h
  obtain ⟨d, rfl, hd, h⟩ := h
  show t_is_natural (endsD S.length k x) [some d] S
  have h' := wk_now (n := S.length) h
  simp only [t_is_natural]
  walk_at "dx"
  refine ⟨d, rfl, hd, ?_⟩
  cases d <;> (simp only [isIntD]; walk_at "dx"; simpa [isNatD] using h')
theorem bits_fuel : ∀ (f g p r : Nat), r ≤ f → r ≤ g → bitsFrom p f r = bitsFrom p g r
  | 0, 0, _, _, _, _ => rfl
  | 0, g + 1, p, r, h, _ => by
    have : r = 0 := by omega
    subst this
    simp [bitsFrom]
  | f + 1, 0, p, r, _, h => by
    have : r = 0 := by omega
    subst this
    simp [bitsFrom]
  | f + 1, g + 1, p, r, h, h' => by
    unfold bitsFrom
    rw [bits_fuel f g (p + 1) (r / 2) (by omega) (by omega)]
theorem bits_step (p r : Nat) (h : 0 < r) : bitsFrom p r r = (if r % 2 = 1 then [p] else []) ++ bitsFrom (p + 1) (r / 2) (r / 2) := by
  obtain ⟨f, rfl⟩ : ∃ f, r = f + 1 := ⟨r - 1, by omega⟩
  rw [bitsFrom, if_neg (by omega), bits_fuel f ((f + 1) / 2) (p + 1) ((f + 1) / 2) (by omega) (by omega)]
  split <;> simp
theorem cl_ints (m : Nat) : ∀ l : List Nat, clDs m (intsN l)
  | [] => trivial
  | a :: l => ⟨trivial, cl_ints m l⟩
theorem intsN_app (l m : List Nat) : intsN (l ++ m) = intsN l ++ intsN m := by simp [intsN]
theorem intsN_len (l : List Nat) : (intsN l).length = l.length := by simp [intsN]
theorem k_bits_of : Keeps 1 4 t_bits_of sp_bits_of := by
  intro ds S k x hl cS cd h
  obtain ⟨n, rfl, hn, h⟩ := h
  show t_bits_of (endsD S.length k x) [some (.int n), none, none, none] S
  simp only [t_bits_of]
  walk_at "dx"
  refine ⟨by decide, dWhile_by (fun m sg S' => ∃ (p r : Nat) (acc : List Nat), sg = [some (.int n), some (.ref S.length), some (.int p), some (.int r)] ∧ S' = S ++ [.lst (intsN acc)] ∧ acc ++ bitsFrom p r r = bitsN n ∧ m = r ∧ acc.length ≤ p ∧ r * 2 ^ p ≤ n) n
    ⟨0, n, [], rfl, rfl, rfl, rfl, Nat.le_refl _, by omega⟩ ?_⟩
  rintro m sg S' nx ⟨p, r, acc, rfl, rfl, hb, rfl, ha, hp⟩ hnx
  walk_at "dx"
  refine ⟨fun h0 => ?_, fun h0 => ?_⟩
  · have h0 : 0 < m := by omega
    have hp2 : 2 ^ p < 2 ^ 100000 := Nat.lt_of_le_of_lt (Nat.le_trans (Nat.le_mul_of_pos_left _ h0) hp) hn
    have hpl : p < 100000 := (Nat.pow_lt_pow_iff_right (by decide)).mp hp2
    have hc : CDivW (m : Int) 2 := ⟨by decide, by decide⟩
    have hq : m / 2 * 2 ^ (p + 1) ≤ n := by
      rw [Nat.pow_succ, Nat.mul_comm (2 ^ p) 2, ← Nat.mul_assoc]
      exact Nat.le_trans (Nat.mul_le_mul_right _ (Nat.div_mul_le_self m 2)) hp
    refine ⟨by decide, fun h1 => ⟨by rw [intsN_len, sl16]; omega, hc, hnx (m / 2) _ _ (by omega) ⟨p + 1, m / 2, acc ++ [p], by simp, by rw [intsN_app]; rfl, ?_, rfl, by simp; omega, hq⟩⟩, fun h1 => ⟨hc, hnx (m / 2) _ _ (by omega) ⟨p + 1, m / 2, acc, by simp, rfl, ?_, rfl, by omega, hq⟩⟩⟩
    · rw [← hb, bits_step p m h0, if_pos (by omega), List.append_assoc]
    · rw [← hb, bits_step p m h0, if_neg (by omega), List.nil_append]
  · have h0 : m = 0 := by omega
    subst h0
    rw [show bitsFrom p 0 0 = [] from rfl, List.append_nil] at hb
    rw [hb]
    exact wk_drop rfl cS (cl_ints _ _) h
theorem k_check_word : Keeps 1 1 t_check_word sp_check_word := by
  intro ds S k x hl cS cd h
  obtain ⟨n, rfl, h⟩ := h
  show t_check_word (endsD S.length k x) [some (.int n)] S
  have h' := wk_now (n := S.length) h
  simp only [t_check_word]
  walk_at "ds"
  exact ⟨fun m e => (by cases e), fun z => absurd (Int.natCast_nonneg n) z, fun _ => h'⟩
theorem add_eq (m : Nat) : ∀ n : Nat, m + n = (m ^^^ n) + 2 * (m &&& n) := by
  induction m using Nat.strongRecOn with
  | ind m ih =>
    intro n
    by_cases h : m = 0
    · subst h; simp
    · have i := ih (m / 2) (by omega) (n / 2)
      have b := Nat.and_div_two (a := m) (b := n)
      have c := Nat.xor_div_two (a := m) (b := n)
      have e := @Nat.and_mod_two_eq_one m n
      have f := @Nat.xor_mod_two_eq_one m n
      omega
theorem xor_nat (m n : Nat) : Builtin.bitXor (m : Int) (n : Int) = ((m ^^^ n : Nat) : Int) := by
  rw [PyProof.Rows.bitXor_and]
  have h : Builtin.bitAnd (m : Int) (n : Int) = ((m &&& n : Nat) : Int) := by
    unfold Builtin.bitAnd
    rw [decide_eq_true (Int.natCast_nonneg m), decide_eq_true (Int.natCast_nonneg n)]
    rfl
  rw [h]
  have := add_eq m n
  omega
theorem k_added : Keeps 2 2 t_added sp_added := by
  intro ds S k x hl cS cd h
  obtain ⟨m, n, rfl, h⟩ := h
  show t_added (endsD S.length k x) [some (.int m), some (.int n)] S
  have h' := wk_now (n := S.length) h
  simp only [t_added]
  walk_at "ds"
  rw [xor_nat]
  exact h'
theorem k_bits : Keeps 1 1 t_bits sp_bits := by
  intro ds S k x hl cS cd h
  obtain ⟨n, rfl, hn, h⟩ := h
  show t_bits (endsD S.length k x) [some (.int n)] S
  have h' := wk_now (n := S.length) h
  simp only [t_bits]
  walk_at "ds"
  exact ⟨hn, h'⟩
theorem bits_last : ∀ (n p : Nat), 0 < n → ∃ l, bitsFrom p n n = l ++ [p + n.log2] := by
  intro n
  induction n using Nat.strongRecOn with
  | ind n ih =>
    intro p h
    rw [bits_step p n h]
    by_cases h1 : n / 2 = 0
    · have : n = 1 := by omega
      subst this
      exact ⟨[], rfl⟩
    · obtain ⟨l, hl⟩ := ih (n / 2) (by omega) (p + 1) (by omega)
      rw [hl]
      refine ⟨(if n % 2 = 1 then [p] else []) ++ l, ?_⟩
      rw [List.append_assoc]
      congr 2
      have : n.log2 = (n / 2).log2 + 1 := by
        rw [Nat.log2_def, if_pos (by omega)]
      rw [this]
      simp
      omega
theorem width_le (w n : Nat) (h : 1 ≤ w) : widthN n ≤ w ↔ n < 2 ^ w := by
  unfold widthN
  by_cases h0 : n = 0
  · subst h0
    rw [if_pos rfl]
    exact ⟨fun _ => Nat.two_pow_pos w, fun _ => h⟩
  · rw [if_neg h0, ← Nat.log2_lt h0]
    exact Iff.rfl
end Q
open Q
local macro_rules | `(tactic| walk_at "dx") => `(tactic| try simp only [dSeq, dDrop, kDrop, dRet, dRetN, dIf, kIf, dNever, dNext, dBreak, dCont, dSet, kSet, dPar, kPar, dPar3, kPar3, dAug, kAug, dAsg, kAsg, gNm, gsNil, gsCons, gTp, gSb, kGs1, kGs2, rSet, dFor, kFor, dLc, dYes, wipeD,
  dC, dVar, dUn, dOp, kOp1, kOp2, dTst, kB, dAnd, kAnd, dOr, kOr, dNot, kNot, dAndV, kAndV, dOrV, kOrV, dNotV, kNotV, dIfE, kIfE, dNil, dCons, kCons1, kCons2, dTup, kTup, dLst, kLst, dCall, kCall, spN, dCallK, kCK1, kCK2, pick, dMet, kM1, kM2, isLst, rApp, dSl, kSl1, kSl2, kSl3, rSl, dNoP, dPart, kPart,
  rAdd, rSub, rMul, rFdiv, rMod, rPow, rShl, rShr, rAnd, rXor, rNeg, rEq, rNe, rLt, rLe, rGt, rGe, rIs, rIsNot, isNon, rIx, rIsi, rIsi2, isTy, spLen, spInt, spTuple, spAll, spAny, spMax, spMin, spAbs, rIn, rNotIn, rIns, dRevL, kRev, iSq, iRg1, kRg1, iRg2, kRg2, rIAdd, endsD,
  isL_iff, atI0, atI1, atI2, get_at0, get_at, List.set_set, List.length_set, lget_at0, lget_at, lget_hd, lget_tl, set_at0, set_at, app1, List.nil_append, List.cons_append, List.length_cons, List.length_nil, List.length_append,
  List.getElem?_cons_zero, List.getElem?_cons_succ, List.set_cons_zero, List.set_cons_succ, List.getElem?_nil, List.filterMap_cons, List.filterMap_nil, List.append_nil,
  Option.some.injEq, O.lst.injEq, exists_eq_left', exists_eq_left, exists_eq', List.cons.injEq, D.int.injEq, D.bl.injEq, D.tup.injEq, D.ref.injEq, D.str.injEq, Int.natCast_inj, true_and, and_true, and_self, Nat.reduceAdd, Nat.zero_add, Bool.not_true, Bool.not_false, reduceCtorEq, forall_const, imp_self, not_true_eq_false, not_false_eq_true, false_implies, true_implies, implies_true, Bool.true_eq_false, Bool.false_eq_true, Bool.true_or, Bool.or_true, Bool.false_or, Bool.or_false, Bool.and_true, Bool.true_and, decide_eq_true_eq, decide_eq_false_iff_not, Bool.not_eq_true', Bool.not_eq_false', decide_true, decide_false, or_false, false_or, exists_false, exists_and_left, and_assoc])
local macro_rules | `(tactic| walk_at "dz") => `(tactic| try simp only [dDrop, kDrop, dRet, dRetN, dIf, kIf, dNever, dNext, dBreak, dCont, dSet, kSet, dPar, kPar, dPar3, kPar3, dAug, kAug, dAsg, kAsg, gNm, gsNil, gsCons, gTp, gSb, kGs1, kGs2, rSet, dFor, kFor, dLc, dYes, wipeD,
  dC, dVar, dUn, dOp, kOp1, kOp2, dTst, kB, dAnd, kAnd, dOr, kOr, dNot, kNot, dAndV, kAndV, dOrV, kOrV, dNotV, kNotV, dIfE, kIfE, dNil, dCons, kCons1, kCons2, dTup, kTup, dLst, kLst, dCall, kCall, spN, dCallK, kCK1, kCK2, pick, dMet, kM1, kM2, isLst, rApp, dSl, kSl1, kSl2, kSl3, rSl, dNoP, dPart, kPart,
  rAdd, rSub, rMul, rFdiv, rMod, rPow, rShl, rShr, rAnd, rXor, rNeg, rEq, rNe, rLt, rLe, rGt, rGe, rIs, rIsNot, isNon, rIx, rIsi, rIsi2, isTy, spLen, spInt, spTuple, spAll, spAny, spMax, spMin, spAbs, rIn, rNotIn, rIns, dRevL, kRev, iSq, iRg1, kRg1, iRg2, kRg2, rIAdd, endsD,
  isL_iff, atI0, atI1, atI2, get_at0, get_at, List.set_set, List.length_set, lget_at0, lget_at, lget_hd, lget_tl, set_at0, set_at, app1, List.nil_append, List.cons_append, List.length_cons, List.length_nil, List.length_append,
  List.getElem?_cons_zero, List.getElem?_cons_succ, List.set_cons_zero, List.set_cons_succ, List.getElem?_nil, List.filterMap_cons, List.filterMap_nil, List.append_nil,
  Option.some.injEq, O.lst.injEq, exists_eq_left', exists_eq_left, exists_eq', List.cons.injEq, D.int.injEq, D.bl.injEq, D.tup.injEq, D.ref.injEq, D.str.injEq, Int.natCast_inj, true_and, and_true, and_self, Nat.reduceAdd, Nat.zero_add, Bool.not_true, Bool.not_false, reduceCtorEq, forall_const, imp_self, not_true_eq_false, not_false_eq_true, false_implies, true_implies, implies_true, Bool.true_eq_false, Bool.false_eq_true, Bool.true_or, Bool.or_true, Bool.false_or, Bool.or_false, Bool.and_true, Bool.true_and, decide_eq_true_eq, decide_eq_false_iff_not, Bool.not_eq_true', Bool.not_eq_false', decide_true, decide_false, or_false, false_or, exists_false, exists_and_left, and_assoc])
namespace Q
open PySem
open Spec PyProof.Rows L2
/-! ### the laws' draws (decks) and the laws' own comparison -/
abbrev deckO (a b : Nat) : O := .lst [.int (a : Int), .int (b : Int)]
def sp__law_deck : SpD := fun ds S k _ => ∃ (n p : Nat) (ns : List Int), ds = [.ref n, .int p] ∧ S[n]? = some (.ro (ns.map D.int)) ∧ p < 2 ^ 32 ∧ ns.length ≤ sizeLine ∧ ∀ a b : Nat, b < 2 ^ 64 → k (.ref S.length) (S ++ [deckO a b])
def sp__law_take : SpD := fun ds S k _ => ∃ (n a b many : Nat), ds = [.ref n, .int many] ∧ 0 < many ∧ many < 2 ^ 100 ∧ S[n]? = some (deckO a b) ∧ b < 2 ^ 64 ∧ ∀ r a' b' : Nat, r < many → b' < 2 ^ 64 → k (.int r) (S.set n (deckO a' b'))
def spr__law_same : Nat → SpD
  | 0 => fun _ _ _ _ => False
  | n + 1 => fun ds S k _ => ∃ d e, ds = [d, e] ∧ sameD S n d e ∧ k (.bl true) S
def sp__law_same : SpD := spr__law_same 9
theorem spr__law_same_zero {ds : List D} {S : Sto} {k : KD} {x : XD} (h : spr__law_same 0 ds S k x) : False := h
local macro_rules | `(tactic| walk_at "dzs") => `(tactic| try simp only [sp__law_deck, sp__law_take, sp__law_same, dDrop, kDrop, dRet, dRetN, dIf, kIf, dNever, dNext, dBreak, dCont, dSet, kSet, dPar, kPar, dPar3, kPar3, dAug, kAug, dAsg, kAsg, gNm, gsNil, gsCons, gTp, gSb, kGs1, kGs2, rSet, dFor, kFor, dLc, dYes, wipeD,
  dC, dVar, dUn, dOp, kOp1, kOp2, dTst, kB, dAnd, kAnd, dOr, kOr, dNot, kNot, dAndV, kAndV, dOrV, kOrV, dNotV, kNotV, dIfE, kIfE, dNil, dCons, kCons1, kCons2, dTup, kTup, dLst, kLst, dCall, kCall, spN, dCallK, kCK1, kCK2, pick, dMet, kM1, kM2, isLst, rApp, dSl, kSl1, kSl2, kSl3, rSl, dNoP, dPart, kPart,
  rAdd, rSub, rMul, rFdiv, rMod, rPow, rShl, rShr, rAnd, rXor, rNeg, rEq, rNe, rLt, rLe, rGt, rGe, rIs, rIsNot, isNon, rIx, rIsi, rIsi2, isTy, spLen, spInt, spTuple, spAll, spAny, spMax, spMin, spAbs, rIn, rNotIn, rIns, dRevL, kRev, iSq, iRg1, kRg1, iRg2, kRg2, rIAdd, endsD,
  isL_iff, atI0, atI1, atI2, get_at0, get_at, List.set_set, List.length_set, lget_at0, lget_at, lget_hd, lget_tl, set_at0, set_at, app1, List.nil_append, List.cons_append, List.length_cons, List.length_nil, List.length_append,
  List.getElem?_cons_zero, List.getElem?_cons_succ, List.set_cons_zero, List.set_cons_succ, List.getElem?_nil, List.filterMap_cons, List.filterMap_nil, List.append_nil,
  Option.some.injEq, O.lst.injEq, exists_eq_left', exists_eq_left, exists_eq', List.cons.injEq, D.int.injEq, D.bl.injEq, D.tup.injEq, D.ref.injEq, D.str.injEq, Int.natCast_inj, true_and, and_true, and_self, Nat.reduceAdd, Nat.zero_add, Bool.not_true, Bool.not_false, reduceCtorEq, forall_const, imp_self, not_true_eq_false, not_false_eq_true, false_implies, true_implies, implies_true, Bool.true_eq_false, Bool.false_eq_true, Bool.true_or, Bool.or_true, Bool.false_or, Bool.or_false, Bool.and_true, Bool.true_and, decide_eq_true_eq, decide_eq_false_iff_not, Bool.not_eq_true', Bool.not_eq_false', decide_true, decide_false, or_false, false_or, exists_false, exists_and_left, and_assoc])
local macro_rules | `(tactic| walk_at "ds") => `(tactic| try simp only [sp__law_deck, sp__law_take, sp__law_same, dSeq, dDrop, kDrop, dRet, dRetN, dIf, kIf, dNever, dNext, dBreak, dCont, dSet, kSet, dPar, kPar, dPar3, kPar3, dAug, kAug, dAsg, kAsg, gNm, gsNil, gsCons, gTp, gSb, kGs1, kGs2, rSet, dFor, kFor, dLc, dYes, wipeD,
  dC, dVar, dUn, dOp, kOp1, kOp2, dTst, kB, dAnd, kAnd, dOr, kOr, dNot, kNot, dAndV, kAndV, dOrV, kOrV, dNotV, kNotV, dIfE, kIfE, dNil, dCons, kCons1, kCons2, dTup, kTup, dLst, kLst, dCall, kCall, spN, dCallK, kCK1, kCK2, pick, dMet, kM1, kM2, isLst, rApp, dSl, kSl1, kSl2, kSl3, rSl, dNoP, dPart, kPart,
  rAdd, rSub, rMul, rFdiv, rMod, rPow, rShl, rShr, rAnd, rXor, rNeg, rEq, rNe, rLt, rLe, rGt, rGe, rIs, rIsNot, isNon, rIx, rIsi, rIsi2, isTy, spLen, spInt, spTuple, spAll, spAny, spMax, spMin, spAbs, rIn, rNotIn, rIns, dRevL, kRev, iSq, iRg1, kRg1, iRg2, kRg2, rIAdd, endsD,
  isL_iff, atI0, atI1, atI2, get_at0, get_at, List.set_set, List.length_set, lget_at0, lget_at, lget_hd, lget_tl, set_at0, set_at, app1, List.nil_append, List.cons_append, List.length_cons, List.length_nil, List.length_append,
  List.getElem?_cons_zero, List.getElem?_cons_succ, List.set_cons_zero, List.set_cons_succ, List.getElem?_nil, List.filterMap_cons, List.filterMap_nil, List.append_nil,
  Option.some.injEq, O.lst.injEq, exists_eq_left', exists_eq_left, exists_eq', List.cons.injEq, D.int.injEq, D.bl.injEq, D.tup.injEq, D.ref.injEq, D.str.injEq, Int.natCast_inj, true_and, and_true, and_self, Nat.reduceAdd, Nat.zero_add, Bool.not_true, Bool.not_false, reduceCtorEq, forall_const, imp_self, not_true_eq_false, not_false_eq_true, false_implies, true_implies, implies_true, Bool.true_eq_false, Bool.false_eq_true, Bool.true_or, Bool.or_true, Bool.false_or, Bool.or_false, Bool.and_true, Bool.true_and, decide_eq_true_eq, decide_eq_false_iff_not, Bool.not_eq_true', Bool.not_eq_false', decide_true, decide_false, or_false, false_or, exists_false, exists_and_left, and_assoc])
/-- _law_deck(script, at); slots: 0 script, 1 at, 2 cell, 3 stir -/
def t__law_deck : TSD := (dSeq (dSet 2 (dC (.int 0))) (dSeq (dIf (dTst (dOp rLt (dVar 1) (dCall spLen (dCons (dVar 0) dNil)))) (dSet 2 (dOp rIx (dVar 0) (dVar 1))) dNext) (dSeq (dSet 3 (dOp rMod (dCall spInt (dCons (dOp rAdd (dOp rAdd (dVar 2) (dOp rMul (dC (.int 7919)) (dVar 1))) (dC (.int 104729))) dNil)) (dC (.int 2305843009213693951)))) (dSeq (dSet 3 (dOp rMod (dCall spInt (dCons (dOp rAdd (dOp rAdd (dOp rMul (dOp rMul (dVar 3) (dVar 3)) (dVar 3)) (dOp rMul (dC (.int 31)) (dVar 1))) (dC (.int 7))) dNil)) (dC (.int 2305843009213693951)))) (dSeq (dIf (dTst (dOp rLt (dVar 2) (dOp rPow (dC (.int 10)) (dC (.int 18))))) (dRet (dLst (dCons (dC (.int 0)) (dCons (dVar 3) dNil)))) dNext) (dRet (dLst (dCons (dOp rSub (dVar 2) (dOp rPow (dC (.int 10)) (dC (.int 18)))) (dCons (dVar 3) dNil)))))))))
/-- _law_take(deck, many); slots: 0 deck, 1 many, 2 taken -/
def t__law_take : TSD := (dSeq (dIf (dTst (dOp rGt (dOp rIx (dVar 0) (dC (.int 0))) (dC (.int 0)))) (dSeq (dSet 2 (dOp rMod (dCall spInt (dCons (dOp rIx (dVar 0) (dC (.int 0))) dNil)) (dVar 1))) (dSeq (dAsg (dOp rFdiv (dOp rIx (dVar 0) (dC (.int 0))) (dVar 1)) (gSb (dVar 0) (dC (.int 0)))) (dRet (dVar 2)))) dNext) (dSeq (dAsg (dOp rMod (dCall spInt (dCons (dOp rAdd (dOp rMul (dOp rIx (dVar 0) (dC (.int 1))) (dC (.int 6364136223846793005))) (dC (.int 1442695040888963407))) dNil)) (dOp rPow (dC (.int 2)) (dC (.int 64)))) (gSb (dVar 0) (dC (.int 1)))) (dRet (dOp rMod (dOp rFdiv (dOp rIx (dVar 0) (dC (.int 1))) (dOp rPow (dC (.int 2)) (dC (.int 33)))) (dVar 1)))))
/-- _law_same(found, due); slots: 0 found, 1 due, 2 at -/
def t__law_same (r : SpD) : TSD := (dSeq (dIf (dTst (dUn (rIsi2 .tuple .list) (dVar 1))) (dSeq (dIf (dOr (dTst (dOp rNe (dUn (rIsi .tuple) (dVar 0)) (dUn (rIsi .tuple) (dVar 1)))) (dTst (dOp rNe (dUn (rIsi .list) (dVar 0)) (dUn (rIsi .list) (dVar 1))))) (dRet (dC (.bl false))) dNext) (dSeq (dIf (dTst (dOp rNe (dCall spLen (dCons (dVar 0) dNil)) (dCall spLen (dCons (dVar 1) dNil)))) (dRet (dC (.bl false))) dNext) (dRet (dOp rEq (dLc (iRg1 (dCons (dCall spLen (dCons (dVar 1) dNil)) dNil)) (gNm 2) (dNot (dTst (dCall (spN 2 r) (dCons (dOp rIx (dVar 0) (dVar 2)) (dCons (dOp rIx (dVar 1) (dVar 2)) dNil))))) (dVar 2) [2]) (dLst dNil))))) dNext) (dSeq (dIf (dTst (dOp rIs (dVar 1) (dC .non))) (dRet (dOp rIs (dVar 0) (dC .non))) dNext) (dSeq (dIf (dTst (dUn (rIsi .str) (dVar 1))) (dRet (dAndV (dUn (rIsi .str) (dVar 0)) (dOp rEq (dVar 0) (dVar 1)))) dNext) (dSeq (dIf (dOr (dTst (dUn (rIsi .bool) (dVar 1))) (dTst (dUn (rIsi .bool) (dVar 0)))) (dRet (dAndV (dUn (rIsi .bool) (dVar 1)) (dAndV (dUn (rIsi .bool) (dVar 0)) (dOp rEq (dVar 0) (dVar 1))))) dNext) (dRet (dAndV (dUn (rIsi .int) (dVar 0)) (dOp rEq (dVar 0) (dVar 1))))))))

theorem ix20 : ixN 2 0 = some 0 := by decide
theorem ix21 : ixN 2 1 = some 1 := by decide
theorem divW {a m : Nat} (h0 : 0 < m) (hm : m < 2 ^ 100) : CDivW (a : Int) (m : Int) := ⟨by omega, Nat.lt_of_lt_of_le (log_lt (n := 100) (by simpa using hm) (by decide)) (by decide)⟩
theorem k__law_take : Keeps 2 3 t__law_take sp__law_take := by
  intro ds S k x hl cS cd h
  obtain ⟨n, a, b, many, rfl, h0, hm, hd, hb, h⟩ := h
  show t__law_take (endsD S.length k x) [some (.ref n), some (.int many), none] S
  have hL := lget_lst hd
  have hlt := get_lt hd
  simp only [t__law_take]
  walk_at "dx"
  simp only [hL, hd, atI0, atI1, Option.some.injEq, exists_eq_left', lget_set_self hd, O.lst.injEq, ix20, ix21, List.length_cons, List.length_nil, Nat.reduceAdd, List.set_cons_zero, List.set_cons_succ]
  refine ⟨fun ha => ⟨by omega, divW h0 hm, ?_⟩, fun ha => ⟨.inl (.inl ⟨by omega, by omega⟩), .inl ⟨by decide, by decide, by decide⟩, by decide, .inl ⟨by decide, by decide, by decide⟩, ⟨by decide, by decide +kernel⟩, by omega, ?_⟩⟩
  · exact wk_now (h (a % many) (a / many) b (Nat.mod_lt _ h0) hb)
  · have e : ((b : Int) * 6364136223846793005 + 1442695040888963407) % 2 ^ Int.toNat 64 = (((b * 6364136223846793005 + 1442695040888963407) % 2 ^ 64 : Nat) : Int) := by
      show _ % (2 : Int) ^ 64 = _
      omega
    rw [e]
    have e2 : (((b * 6364136223846793005 + 1442695040888963407) % 2 ^ 64 : Nat) : Int) / 2 ^ Int.toNat 33 % (many : Int) = ((((b * 6364136223846793005 + 1442695040888963407) % 2 ^ 64) / 2 ^ 33 % many : Nat) : Int) := rfl
    rw [e2]
    exact wk_now (h _ a _ (Nat.mod_lt _ h0) (Nat.mod_lt _ (by decide)))
theorem stir_ok (c p : Int) : MulOk (c % 2305843009213693951) (c % 2305843009213693951) ∧ MulOk (c % 2305843009213693951 * (c % 2305843009213693951)) (c % 2305843009213693951) ∧
    ∃ b : Nat, b < 2 ^ 64 ∧ (c % 2305843009213693951 * (c % 2305843009213693951) * (c % 2305843009213693951) + p) % 2305843009213693951 = (b : Int) := by
  generalize hs : c % 2305843009213693951 = s
  refine ⟨.inl (.inl ⟨by omega, by omega⟩), .inl (.inr ⟨by omega, by omega⟩), ?_⟩
  generalize s * s * s + p = t
  exact ⟨(t % 2305843009213693951).toNat, by omega, by omega⟩
theorem k__law_deck : Keeps 2 4 t__law_deck sp__law_deck := by
  intro ds S k x hl cS cd h
  obtain ⟨n, p, ns, rfl, hd, hp, hz, h⟩ := h
  show t__law_deck (endsD S.length k x) [some (.ref n), some (.int p), none, none] S
  have hL : lget S n = some (ns.map D.int) := by unfold lget; rw [hd]
  have fin : ∀ a b : Nat, b < 2 ^ 64 → wk S.length k (.ref S.length) (S ++ [.lst [.int (a : Int), .int (b : Int)]]) := fun a b hb => .inl (h a b hb)
  have m1 : MulOk 7919 (p : Int) := .inl (.inl ⟨by decide, by decide⟩)
  have m2 : MulOk 31 (p : Int) := .inl (.inl ⟨by decide, by decide⟩)
  have cp : PowOk 10 18 := .inl ⟨by decide, by decide, by decide⟩
  have two : 2 ≤ sizeLine := by decide
  have e18 : (10 : Int) ^ Int.toNat 18 = 1000000000000000000 := by decide
  by_cases hlt : p < ns.length
  · have hA : atI (ns.map D.int) (p : Int) = some (.int ns[p]) := atI_nat (by rw [List.getElem?_map, List.getElem?_eq_getElem hlt]; rfl)
    have hlt' : (p : Int) < (ns.length : Int) := by omega
    simp only [t__law_deck]
    walk_at "dx"
    simp only [hL, Option.some.injEq, exists_eq_left', List.length_map, hA, hlt', forall_const, not_true_eq_false, false_implies, and_true, true_implies, e18, m1, m2, cp, two, true_and]
    obtain ⟨q1, q2, b, hb, q3⟩ := stir_ok (ns[p] + 7919 * (p : Int) + 104729) (31 * (p : Int) + 7)
    rw [← Int.add_assoc] at q3
    rw [q3]
    refine ⟨by decide, q1, q2, by decide, fun h1 => fin 0 b hb, fun h1 => ?_⟩
    have e : ns[p] - 1000000000000000000 = ((ns[p] - 1000000000000000000).toNat : Int) := by omega
    rw [e]
    exact fin _ b hb
  · have hlt' : ¬ (p : Int) < (ns.length : Int) := by omega
    simp only [t__law_deck]
    walk_at "dx"
    simp only [hL, Option.some.injEq, exists_eq_left', List.length_map, hlt', forall_const, not_true_eq_false, false_implies, and_true, true_implies, e18, m1, m2, cp, two, true_and, not_false_eq_true]
    obtain ⟨q1, q2, b, hb, q3⟩ := stir_ok (0 + 7919 * (p : Int) + 104729) (31 * (p : Int) + 7)
    rw [← Int.add_assoc] at q3
    rw [q3]
    exact ⟨by decide, q1, q2, by decide, fun h1 => fin 0 b hb, fun h1 => absurd (show (0 : Int) < 1000000000000000000 by decide) h1⟩
theorem k__law_same (n : Nat) : Keeps 2 3 (t__law_same (spr__law_same n)) (spr__law_same (n + 1)) := by
  intro ds S k x hl cS cd h
  obtain ⟨d, e, rfl, hs, h⟩ := h
  show t__law_same (spr__law_same n) (endsD S.length k x) [some d, some e, none] S
  have h' := wk_now (n := S.length) h
  have flat : flatD d = true → d = e → t__law_same (spr__law_same n) (endsD S.length k x) [some d, some e, none] S := by
    intro f e1
    subst e1
    cases d <;> first | (exact absurd f Bool.false_ne_true) | (simp only [t__law_same]; walk_at "dx"; simpa using h')
  have cl0 : ∀ G, wk S.length k (.bl true) (S ++ G) := fun G => wk_drop rfl cS trivial h
  cases n with
  | zero => exact flat hs.1 hs.2
  | succ n =>
    have item : ∀ (m : Nat) (d : D), d ∈ (List.range ((m : Nat) : Int).toNat).map (fun i : Nat => D.int (0 + (i : Int))) → ∃ j : Nat, j < m ∧ d = .int (j : Int) := fun m d hd => by
      obtain ⟨j, hj, e⟩ := List.mem_map.mp hd
      have := List.mem_range.mp hj
      exact ⟨j, by omega, by rw [← e]; simp⟩
    rcases hs with ⟨f, e1⟩ | ⟨xs, ys, rfl, rfl, hz, hp⟩ | ⟨a, b, xs, ys, rfl, rfl, ha, hb, hz, hp⟩
    · exact flat f e1
    · have hlen := paired_len hp
      have hz' := hz
      rw [sl16] at hz'
      simp only [t__law_same]
      walk_at "dx"
      simp only [hlen]
      walk_at "dx"
      refine ⟨by omega, by omega, lc_filter (fun _ => false) id (fun d hd acc kk hk => ?_) (fun d hd z => nomatch z) (fun _ => trivial) (by simpa using hz) ?_⟩
      · obtain ⟨j, hj, rfl⟩ := item ys.length d hd
        have h1 : xs[j]? = some xs[j] := List.getElem?_eq_getElem (by omega)
        have h2 : ys[j]? = some ys[j] := List.getElem?_eq_getElem hj
        have hk : kk false (S ++ [.lst acc]) := hk
        walk_at "dx"
        simp only [atI_nat h1, atI_nat h2, Option.some.injEq, exists_eq_left']
        exact ⟨xs[j], ys[j], rfl, sameD_mono n _ _ (paired_get hp h1 h2), hk⟩
      · walk_at "dx"
        refine ⟨Nat.zero_le _, eqG_lst (xs := []) (ys := []) 0 0 ?_ ?_ rfl rfl ?_⟩
        · simp [lget]
        · simp [lget]
        · exact cl0 _
    · have hlen := paired_len hp
      have hz' := hz
      rw [sl16] at hz'
      simp only [t__law_same]
      walk_at "dx"
      simp only [ha, hb, tyR_of ha, tyR_of hb, Option.some.injEq, exists_eq_left', hlen, isTy]
      walk_at "dx"
      refine ⟨by omega, by omega, lc_filter (fun _ => false) id (fun d hd acc kk hk => ?_) (fun d hd z => nomatch z) (fun _ => trivial) (by simpa using hz) ?_⟩
      · obtain ⟨j, hj, rfl⟩ := item ys.length d hd
        have h1 : xs[j]? = some xs[j] := List.getElem?_eq_getElem (by omega)
        have h2 : ys[j]? = some ys[j] := List.getElem?_eq_getElem hj
        have hk : kk false (S ++ [.lst acc]) := hk
        walk_at "dx"
        simp only [lget_app ha, lget_app hb, atI_nat h1, atI_nat h2, Option.some.injEq, exists_eq_left']
        exact ⟨xs[j], ys[j], rfl, sameD_mono n _ _ (paired_get hp h1 h2), hk⟩
      · walk_at "dx"
        refine ⟨Nat.zero_le _, eqG_lst (xs := []) (ys := []) 0 0 ?_ ?_ rfl rfl ?_⟩
        · simp [lget]
        · simp [lget]
        · exact cl0 _
/-- a draw, where the deck stands written, with more behind it -/
theorem take_set {S G : Sto} {n a b many : Nat} {o : O} {k : KD} {x : XD} (hd : S[n]? = some o) (h0 : 0 < many) (hm : many < 2 ^ 100) (hb : b < 2 ^ 64) (h : ∀ r a' b' : Nat, r < many → b' < 2 ^ 64 → k (.int r) (S.set n (deckO a' b') ++ G)) :
    sp__law_take [.ref n, .int many] (S.set n (deckO a b) ++ G) k x := by
  have hl : n < (S.set n (deckO a b)).length := by rw [List.length_set]; exact get_lt hd
  refine ⟨n, a, b, many, rfl, h0, hm, get_app (get_set_self hd), hb, fun r a' b' hr hb' => ?_⟩
  rw [set_app hl, List.set_set]
  exact h r a' b' hr hb'
theorem take_set0 {S : Sto} {n a b many : Nat} {o : O} {k : KD} {x : XD} (hd : S[n]? = some o) (h0 : 0 < many) (hm : many < 2 ^ 100) (hb : b < 2 ^ 64) (h : ∀ r a' b' : Nat, r < many → b' < 2 ^ 64 → k (.int r) (S.set n (deckO a' b'))) :
    sp__law_take [.ref n, .int many] (S.set n (deckO a b)) k x := by
  refine ⟨n, a, b, many, rfl, h0, hm, get_set_self hd, hb, fun r a' b' hr hb' => ?_⟩
  rw [List.set_set]
  exact h r a' b' hr hb'
theorem take_app {S G : Sto} {n a b many : Nat} {k : KD} {x : XD} (hd : S[n]? = some (deckO a b)) (h0 : 0 < many) (hm : many < 2 ^ 100) (hb : b < 2 ^ 64) (h : ∀ r a' b' : Nat, r < many → b' < 2 ^ 64 → k (.int r) (S.set n (deckO a' b') ++ G)) :
    sp__law_take [.ref n, .int many] (S ++ G) k x := by
  refine ⟨n, a, b, many, rfl, h0, hm, get_app hd, hb, fun r a' b' hr hb' => ?_⟩
  rw [set_app (get_lt hd)]
  exact h r a' b' hr hb'
theorem same_call {S : Sto} {d e : D} {k : KD} {x : XD} (h : sameD S 8 d e) (hk : k (.bl true) S) : sp__law_same [d, e] S k x := ⟨d, e, rfl, h, hk⟩
theorem same_flat {S : Sto} {n : Nat} (xs : List D) (h : xs.all flatD = true) : Paired (sameD S n) xs xs := paired_same (f := fun _ => True) xs fun d hd => sameD_flat (List.all_eq_true.mp h d hd) n
theorem cl_deck (m a b : Nat) : clO m (deckO a b) := ⟨trivial, trivial, trivial⟩
end Q
open Q
local macro_rules | `(tactic| walk_at "dx") => `(tactic| try simp only [dSeq, dDrop, kDrop, dRet, dRetN, dIf, kIf, dNever, dNext, dBreak, dCont, dSet, kSet, dPar, kPar, dPar3, kPar3, dAug, kAug, dAsg, kAsg, gNm, gsNil, gsCons, gTp, gSb, kGs1, kGs2, rSet, dFor, kFor, dLc, dYes, wipeD,
  dC, dVar, dUn, dOp, kOp1, kOp2, dTst, kB, dAnd, kAnd, dOr, kOr, dNot, kNot, dAndV, kAndV, dOrV, kOrV, dNotV, kNotV, dIfE, kIfE, dNil, dCons, kCons1, kCons2, dTup, kTup, dLst, kLst, dCall, kCall, spN, dCallK, kCK1, kCK2, pick, dMet, kM1, kM2, isLst, rApp, dSl, kSl1, kSl2, kSl3, rSl, dNoP, dPart, kPart,
  rAdd, rSub, rMul, rFdiv, rMod, rPow, rShl, rShr, rAnd, rXor, rNeg, rEq, rNe, rLt, rLe, rGt, rGe, rIs, rIsNot, isNon, rIx, rIsi, rIsi2, isTy, spLen, spInt, spTuple, spAll, spAny, spMax, spMin, spAbs, rIn, rNotIn, rIns, dRevL, kRev, iSq, iRg1, kRg1, iRg2, kRg2, rIAdd, endsD,
  isL_iff, atI0, atI1, atI2, get_at0, get_at, List.set_set, List.length_set, lget_at0, lget_at, lget_hd, lget_tl, set_at0, set_at, app1, List.nil_append, List.cons_append, List.length_cons, List.length_nil, List.length_append,
  List.getElem?_cons_zero, List.getElem?_cons_succ, List.set_cons_zero, List.set_cons_succ, List.getElem?_nil, List.filterMap_cons, List.filterMap_nil, List.append_nil,
  Option.some.injEq, O.lst.injEq, exists_eq_left', exists_eq_left, exists_eq', List.cons.injEq, D.int.injEq, D.bl.injEq, D.tup.injEq, D.ref.injEq, D.str.injEq, Int.natCast_inj, true_and, and_true, and_self, Nat.reduceAdd, Nat.zero_add, Bool.not_true, Bool.not_false, reduceCtorEq, forall_const, imp_self, not_true_eq_false, not_false_eq_true, false_implies, true_implies, implies_true, Bool.true_eq_false, Bool.false_eq_true, Bool.true_or, Bool.or_true, Bool.false_or, Bool.or_false, Bool.and_true, Bool.true_and, decide_eq_true_eq, decide_eq_false_iff_not, Bool.not_eq_true', Bool.not_eq_false', decide_true, decide_false, or_false, false_or, exists_false, exists_and_left, and_assoc])
local macro_rules | `(tactic| walk_at "dz") => `(tactic| try simp only [dDrop, kDrop, dRet, dRetN, dIf, kIf, dNever, dNext, dBreak, dCont, dSet, kSet, dPar, kPar, dPar3, kPar3, dAug, kAug, dAsg, kAsg, gNm, gsNil, gsCons, gTp, gSb, kGs1, kGs2, rSet, dFor, kFor, dLc, dYes, wipeD,
  dC, dVar, dUn, dOp, kOp1, kOp2, dTst, kB, dAnd, kAnd, dOr, kOr, dNot, kNot, dAndV, kAndV, dOrV, kOrV, dNotV, kNotV, dIfE, kIfE, dNil, dCons, kCons1, kCons2, dTup, kTup, dLst, kLst, dCall, kCall, spN, dCallK, kCK1, kCK2, pick, dMet, kM1, kM2, isLst, rApp, dSl, kSl1, kSl2, kSl3, rSl, dNoP, dPart, kPart,
  rAdd, rSub, rMul, rFdiv, rMod, rPow, rShl, rShr, rAnd, rXor, rNeg, rEq, rNe, rLt, rLe, rGt, rGe, rIs, rIsNot, isNon, rIx, rIsi, rIsi2, isTy, spLen, spInt, spTuple, spAll, spAny, spMax, spMin, spAbs, rIn, rNotIn, rIns, dRevL, kRev, iSq, iRg1, kRg1, iRg2, kRg2, rIAdd, endsD,
  isL_iff, atI0, atI1, atI2, get_at0, get_at, List.set_set, List.length_set, lget_at0, lget_at, lget_hd, lget_tl, set_at0, set_at, app1, List.nil_append, List.cons_append, List.length_cons, List.length_nil, List.length_append,
  List.getElem?_cons_zero, List.getElem?_cons_succ, List.set_cons_zero, List.set_cons_succ, List.getElem?_nil, List.filterMap_cons, List.filterMap_nil, List.append_nil,
  Option.some.injEq, O.lst.injEq, exists_eq_left', exists_eq_left, exists_eq', List.cons.injEq, D.int.injEq, D.bl.injEq, D.tup.injEq, D.ref.injEq, D.str.injEq, Int.natCast_inj, true_and, and_true, and_self, Nat.reduceAdd, Nat.zero_add, Bool.not_true, Bool.not_false, reduceCtorEq, forall_const, imp_self, not_true_eq_false, not_false_eq_true, false_implies, true_implies, implies_true, Bool.true_eq_false, Bool.false_eq_true, Bool.true_or, Bool.or_true, Bool.false_or, Bool.or_false, Bool.and_true, Bool.true_and, decide_eq_true_eq, decide_eq_false_iff_not, Bool.not_eq_true', Bool.not_eq_false', decide_true, decide_false, or_false, false_or, exists_false, exists_and_left, and_assoc])
namespace Q
open PySem
open Spec PyProof.Rows L2
/-! ### law k02: the plain side -/
def xorA (l : List Nat) : Nat := l.foldr (· ^^^ ·) 0
theorem xorA_app (l m : List Nat) : xorA (l ++ m) = xorA l ^^^ xorA m := by
  induction l with
  | nil => show xorA m = 0 ^^^ xorA m; rw [Nat.zero_xor]
  | cons a l ih => show a ^^^ xorA (l ++ m) = (a ^^^ xorA l) ^^^ xorA m; rw [ih, Nat.xor_assoc]
theorem xorA_perm {l m : List Nat} (h : l.Perm m) : xorA l = xorA m := by
  induction h with
  | nil => rfl
  | cons a _ ih => show a ^^^ xorA _ = a ^^^ xorA _; rw [ih]
  | swap a b l => show b ^^^ (a ^^^ xorA l) = a ^^^ (b ^^^ xorA l); rw [← Nat.xor_assoc, ← Nat.xor_assoc, Nat.xor_comm b a]
  | trans _ _ h1 h2 => exact h1.trans h2
theorem xorA_lt {e : Nat} : ∀ {l : List Nat}, (∀ a ∈ l, a < 2 ^ e) → xorA l < 2 ^ e
  | [], _ => Nat.two_pow_pos e
  | a :: l, h => Nat.xor_lt_two_pow (h a List.mem_cons_self) (xorA_lt fun b hb => h b (List.mem_cons_of_mem _ hb))
theorem bits_zero (p f : Nat) : bitsFrom p f 0 = [] := by cases f <;> rfl
theorem bits_range : ∀ (k p r : Nat), r < 2 ^ k → bitsFrom p r r = ((List.range k).filter fun j => r.testBit j).map (p + ·)
  | 0, p, r, h => by
    have : r = 0 := by simpa using h
    subst this
    rfl
  | k + 1, p, r, h => by
    by_cases h0 : r = 0
    · subst h0
      rw [bits_zero]
      simp
    · rw [bits_step p r (by omega), bits_range k (p + 1) (r / 2) (by rw [Nat.pow_succ] at h; omega), List.range_succ_eq_map, List.filter_cons, List.filter_map]
      have e1 : ((fun j => r.testBit j) ∘ Nat.succ) = fun j => (r / 2).testBit j := funext fun j => Nat.testBit_succ r j
      have e2 : r.testBit 0 = decide (r % 2 = 1) := Nat.testBit_zero r
      rw [e1, e2]
      by_cases h2 : r % 2 = 1
      · simp [h2, List.map_map, Function.comp_def, Nat.add_assoc, Nat.add_comm 1]
      · simp [h2, List.map_map, Function.comp_def, Nat.add_assoc, Nat.add_comm 1]
theorem bitsN_range {n k : Nat} (h : n < 2 ^ k) : bitsN n = (List.range k).filter fun j => n.testBit j := by
  unfold bitsN
  rw [bits_range k 0 n h]
  simp
theorem par_bit (at_ : Nat) : ∀ ws : List Nat, (ws.map fun w => w / 2 ^ at_ % 2).sum % 2 = if (xorA ws).testBit at_ then 1 else 0
  | [] => by simp [xorA]
  | a :: ws => by
    have ih := par_bit at_ ws
    rw [List.map_cons, List.sum_cons, show xorA (a :: ws) = a ^^^ xorA ws from rfl, Nat.testBit_xor, Nat.add_mod, ih, Nat.testBit_eq_decide_div_mod_eq (x := a)]
    have : a / 2 ^ at_ % 2 = 0 ∨ a / 2 ^ at_ % 2 = 1 := by omega
    cases hx : (xorA ws).testBit at_ <;> rcases this with h | h <;> simp [h]
theorem sum_cast (l : List Nat) : (l.map fun n : Nat => (n : Int)).sum = ((l.sum : Nat) : Int) := by
  induction l with
  | nil => rfl
  | cons a l ih => rw [List.map_cons, List.sum_cons, List.sum_cons, ih]; push_cast; rfl
def toI : D → Int
  | .int i => i
  | _ => 0
/-! ### the text of a list of words -/
def textL (ws : List Nat) : Str := PyData.shown (.list (pyDs (intsN ws)))
theorem shown_ok : ∀ ws : List Nat, (∀ w ∈ ws, w < 2 ^ 62) → PyData.showableAll (pyDs (intsN ws)) = true ∧ PyData.hasDictAll (pyDs (intsN ws)) = false ∧ ((PyData.shownAll (pyDs (intsN ws))).map (·.length)).sum ≤ 1921 * ws.length ∧ (PyData.shownAll (pyDs (intsN ws))).length = ws.length
  | [], _ => ⟨rfl, rfl, Nat.le_refl _, rfl⟩
  | w :: ws, h => by
    obtain ⟨h1, h2, h3, h4⟩ := shown_ok ws fun y hy => h y (List.mem_cons_of_mem _ hy)
    have hw := h w List.mem_cons_self
    have hlog : ((w : Int).natAbs).log2 < 1920 := Nat.lt_of_lt_of_le (log_lt (n := 62) (by simpa using hw) (by decide)) (by decide)
    have hlen := int_text_len_1921 hlog
    refine ⟨?_, ?_, ?_, ?_⟩
    · show (decide (((w : Int).natAbs).log2 < 1920) && PyData.showableAll (pyDs (intsN ws))) = true
      rw [h1, decide_eq_true hlog]
      rfl
    · show (false || PyData.hasDictAll (pyDs (intsN ws))) = false
      rw [h2]
      rfl
    · show (((Str.ofString (toString (w : Int))) :: PyData.shownAll (pyDs (intsN ws))).map (·.length)).sum ≤ 1921 * (ws.length + 1)
      rw [List.map_cons, List.sum_cons]
      omega
    · show ((Str.ofString (toString (w : Int))) :: PyData.shownAll (pyDs (intsN ws))).length = ws.length + 1
      rw [List.length_cons, h4]
theorem repr_at {S : Sto} {r : Nat} {ws : List Nat} {k : KD} {x : XD} (h : lget S r = some (intsN ws)) (hl : ws.length ≤ 1000) (hw : ∀ w ∈ ws, w < 2 ^ 62) (hk : k (.str (textL ws)) S) : spRepr [.ref r] S k x := by
  obtain ⟨h1, h2, h3, h4⟩ := shown_ok ws hw
  obtain ⟨p1, _, p3⟩ := pds_py (S := S) (intsN ws) 0 (pds_ints 0 ws)
  refine ⟨.ref r, .list (pyDs (intsN ws)), rfl, .ref (isL_iff.mpr h) p1, rfl, h1, h2, ?_, ?_, hk⟩
  · show PyData.depthAll (pyDs (intsN ws)) + 1 ≤ 60
    omega
  · refine Nat.le_trans (listText_len_le _) ?_
    rw [h4, sl16]
    omega
/-! ### the program -/
def rowL (S : Sto) (d : D) (ds : List D) : Prop := d = .tup ds ∨ ∃ n, d = .ref n ∧ lget S n = some ds
theorem rowL_app {S : Sto} {d : D} {ds : List D} (G : Sto) (h : rowL S d ds) : rowL (S ++ G) d ds := h.imp id fun ⟨n, e, q⟩ => ⟨n, e, lget_app q⟩
def sp_is_row_or_list : SpD := fun ds S k _ => ∃ d xs, ds = [d] ∧ rowL S d xs ∧ k (.bl true) S
def sp_sum_of_words : SpD := fun ds S k _ => ∃ (d : D) (ws : List Nat), ds = [d] ∧ rowL S d (intsN ws) ∧ ws.length ≤ 1000000 ∧ k (.int (xorA ws : Nat)) S
def sp_added_all : SpD := sp_sum_of_words
/-- is_row_or_list(value); slots: 0 value -/
def t_is_row_or_list : TSD := (dRet (dUn (rIsi2 .list .tuple) (dVar 0)))
/-- sum_of_words(words); slots: 0 words, 1 total, 2 word -/
def t_sum_of_words : TSD := (dSeq (dSet 1 (dC (.int 0))) (dSeq (dFor (iSq (dVar 0)) (gNm 2) (dSet 1 (dOp rXor (dVar 1) (dVar 2)))) (dRet (dVar 1))))
/-- added_all(some); slots: 0 some, 1 a -/
def t_added_all : TSD := (dSeq (dIf (dOr (dNot (dTst (dCall (spN 1 sp_is_row_or_list) (dCons (dVar 0) dNil)))) (dNot (dTst (dCall spAll (dCons (dLc (iSq (dVar 0)) (gNm 1) dYes (dCall (spN 1 sp_is_natural) (dCons (dVar 1) dNil)) [1]) dNil))))) dNever dNext) (dRet (dCall (spN 1 sp_sum_of_words) (dCons (dVar 0) dNil))))

local macro_rules | `(tactic| walk_at "dzs") => `(tactic| try simp only [sp_is_integer, sp_is_natural, sp_bits_of, sp_check_word, sp_added, sp_bits, sp_is_row_or_list, sp_sum_of_words, isIntD, isNatD, dDrop, kDrop, dRet, dRetN, dIf, kIf, dNever, dNext, dBreak, dCont, dSet, kSet, dPar, kPar, dPar3, kPar3, dAug, kAug, dAsg, kAsg, gNm, gsNil, gsCons, gTp, gSb, kGs1, kGs2, rSet, dFor, kFor, dLc, dYes, wipeD,
  dC, dVar, dUn, dOp, kOp1, kOp2, dTst, kB, dAnd, kAnd, dOr, kOr, dNot, kNot, dAndV, kAndV, dOrV, kOrV, dNotV, kNotV, dIfE, kIfE, dNil, dCons, kCons1, kCons2, dTup, kTup, dLst, kLst, dCall, kCall, spN, dCallK, kCK1, kCK2, pick, dMet, kM1, kM2, isLst, rApp, dSl, kSl1, kSl2, kSl3, rSl, dNoP, dPart, kPart,
  rAdd, rSub, rMul, rFdiv, rMod, rPow, rShl, rShr, rAnd, rXor, rNeg, rEq, rNe, rLt, rLe, rGt, rGe, rIs, rIsNot, isNon, rIx, rIsi, rIsi2, isTy, spLen, spInt, spTuple, spAll, spAny, spMax, spMin, spAbs, rIn, rNotIn, rIns, dRevL, kRev, iSq, iRg1, kRg1, iRg2, kRg2, rIAdd, endsD,
  isL_iff, atI0, atI1, atI2, get_at0, get_at, List.set_set, List.length_set, lget_at0, lget_at, lget_hd, lget_tl, set_at0, set_at, app1, List.nil_append, List.cons_append, List.length_cons, List.length_nil, List.length_append,
  List.getElem?_cons_zero, List.getElem?_cons_succ, List.set_cons_zero, List.set_cons_succ, List.getElem?_nil, List.filterMap_cons, List.filterMap_nil, List.append_nil,
  Option.some.injEq, O.lst.injEq, exists_eq_left', exists_eq_left, exists_eq', List.cons.injEq, D.int.injEq, D.bl.injEq, D.tup.injEq, D.ref.injEq, D.str.injEq, Int.natCast_inj, true_and, and_true, and_self, Nat.reduceAdd, Nat.zero_add, Bool.not_true, Bool.not_false, reduceCtorEq, forall_const, imp_self, not_true_eq_false, not_false_eq_true, false_implies, true_implies, implies_true, Bool.true_eq_false, Bool.false_eq_true, Bool.true_or, Bool.or_true, Bool.false_or, Bool.or_false, Bool.and_true, Bool.true_and, decide_eq_true_eq, decide_eq_false_iff_not, Bool.not_eq_true', Bool.not_eq_false', decide_true, decide_false, or_false, false_or, exists_false, exists_and_left, and_assoc])
local macro_rules | `(tactic| walk_at "ds") => `(tactic| try simp only [sp_is_integer, sp_is_natural, sp_bits_of, sp_check_word, sp_added, sp_bits, sp_is_row_or_list, sp_sum_of_words, isIntD, isNatD, dSeq, dDrop, kDrop, dRet, dRetN, dIf, kIf, dNever, dNext, dBreak, dCont, dSet, kSet, dPar, kPar, dPar3, kPar3, dAug, kAug, dAsg, kAsg, gNm, gsNil, gsCons, gTp, gSb, kGs1, kGs2, rSet, dFor, kFor, dLc, dYes, wipeD,
  dC, dVar, dUn, dOp, kOp1, kOp2, dTst, kB, dAnd, kAnd, dOr, kOr, dNot, kNot, dAndV, kAndV, dOrV, kOrV, dNotV, kNotV, dIfE, kIfE, dNil, dCons, kCons1, kCons2, dTup, kTup, dLst, kLst, dCall, kCall, spN, dCallK, kCK1, kCK2, pick, dMet, kM1, kM2, isLst, rApp, dSl, kSl1, kSl2, kSl3, rSl, dNoP, dPart, kPart,
  rAdd, rSub, rMul, rFdiv, rMod, rPow, rShl, rShr, rAnd, rXor, rNeg, rEq, rNe, rLt, rLe, rGt, rGe, rIs, rIsNot, isNon, rIx, rIsi, rIsi2, isTy, spLen, spInt, spTuple, spAll, spAny, spMax, spMin, spAbs, rIn, rNotIn, rIns, dRevL, kRev, iSq, iRg1, kRg1, iRg2, kRg2, rIAdd, endsD,
  isL_iff, atI0, atI1, atI2, get_at0, get_at, List.set_set, List.length_set, lget_at0, lget_at, lget_hd, lget_tl, set_at0, set_at, app1, List.nil_append, List.cons_append, List.length_cons, List.length_nil, List.length_append,
  List.getElem?_cons_zero, List.getElem?_cons_succ, List.set_cons_zero, List.set_cons_succ, List.getElem?_nil, List.filterMap_cons, List.filterMap_nil, List.append_nil,
  Option.some.injEq, O.lst.injEq, exists_eq_left', exists_eq_left, exists_eq', List.cons.injEq, D.int.injEq, D.bl.injEq, D.tup.injEq, D.ref.injEq, D.str.injEq, Int.natCast_inj, true_and, and_true, and_self, Nat.reduceAdd, Nat.zero_add, Bool.not_true, Bool.not_false, reduceCtorEq, forall_const, imp_self, not_true_eq_false, not_false_eq_true, false_implies, true_implies, implies_true, Bool.true_eq_false, Bool.false_eq_true, Bool.true_or, Bool.or_true, Bool.false_or, Bool.or_false, Bool.and_true, Bool.true_and, decide_eq_true_eq, decide_eq_false_iff_not, Bool.not_eq_true', Bool.not_eq_false', decide_true, decide_false, or_false, false_or, exists_false, exists_and_left, and_assoc])
theorem k_is_row_or_list : Keeps 1 1 t_is_row_or_list sp_is_row_or_list := by
  intro ds S k x hl cS cd h
  obtain ⟨d, xs, rfl, hd, h⟩ := h
  show t_is_row_or_list (endsD S.length k x) [some d] S
  have h' := wk_now (n := S.length) h
  simp only [t_is_row_or_list]
  rcases hd with rfl | ⟨n, rfl, hn⟩
  · walk_at "dx"
    exact h'
  · walk_at "dx"
    simp only [tyR_of hn, Option.some.injEq, exists_eq_left', isTy]
    exact h'
theorem k_sum_of_words : Keeps 1 3 t_sum_of_words sp_sum_of_words := by
  intro ds S k x hl cS cd h
  obtain ⟨d, ws, rfl, hd, hz, h⟩ := h
  show t_sum_of_words (endsD S.length k x) [some d, none, none] S
  simp only [t_sum_of_words]
  have fin : ∀ (grd : Sto → Prop), grd S → wFor grd (gNm 2) (dSet 1 (dOp rXor (dVar 1) (dVar 2))) { nx := dRet (dVar 1) (endsD S.length k x), rt := (endsD S.length k x).rt, bk := (endsD S.length k x).bk, ct := (endsD S.length k x).ct, ex := (endsD S.length k x).ex } (intsN ws) [some d, some (.int 0), none] S := by
    intro grd hg
    refine wFor_ind (fun r sg S' => ∃ (rest : List Nat) (tot : Nat) (t : Option D), r = intsN rest ∧ sg = [some d, some (.int tot), t] ∧ S' = S ∧ tot ^^^ xorA rest = xorA ws) ?_ ?_ _ _ _ ⟨ws, 0, none, rfl, rfl, rfl, Nat.zero_xor _⟩
    · rintro sg S' ⟨rest, tot, t, hr, rfl, rfl, hx⟩
      cases rest with
      | cons a l => cases hr
      | nil =>
        refine ⟨hg, ?_⟩
        walk_at "dx"
        rw [show tot = xorA ws by rw [← hx]; exact (Nat.xor_zero tot).symm]
        exact wk_now h
    · rintro d1 r sg S' nx ⟨rest, tot, t, hr, rfl, rfl, hx⟩ hnx
      cases rest with
      | nil => cases hr
      | cons a l =>
        cases hr
        refine ⟨hg, ?_⟩
        walk_at "dx"
        rw [xor_nat]
        exact hnx _ _ ⟨l, tot ^^^ a, _, rfl, rfl, rfl, by rw [Nat.xor_assoc]; exact hx⟩
  rcases hd with rfl | ⟨n, rfl, hn⟩
  · walk_at "dx"
    exact fin _ trivial
  · walk_at "dx"
    exact ⟨_, hn, fin _ hn⟩
theorem all_nat (ws : List Nat) : (intsN ws).all isNatD = true := by
  refine List.all_eq_true.mpr fun d hd => ?_
  obtain ⟨j, _, rfl⟩ := List.mem_map.mp hd
  show decide (0 ≤ (j : Int)) = true
  exact decide_eq_true (by omega)
theorem k_added_all : Keeps 1 2 t_added_all sp_added_all := by
  intro ds S k x hl cS cd h
  obtain ⟨d, ws, rfl, hd, hz, h⟩ := h
  show t_added_all (endsD S.length k x) [some d, none] S
  simp only [t_added_all]
  have hlen : (intsN ws).length ≤ sizeLine := by rw [intsN_len]; exact sl_ok _ hz
  have el : ∀ (d1 : D), d1 ∈ intsN ws → ∀ (acc : List D) (kk : KD), kk (.bl (isNatD d1)) (S ++ [.lst acc]) → dCall (spN 1 sp_is_natural) (dCons (dVar 1) dNil) [some d, some d1] (S ++ [.lst acc]) kk XF := fun d1 h1 acc kk hk => by
    obtain ⟨j, _, rfl⟩ := List.mem_map.mp h1
    walk_at "dx"
    exact ⟨_, rfl, fun _ e => (nomatch e), hk⟩
  rcases hd with rfl | ⟨n, rfl, hn⟩
  · walk_at "dx"
    refine ⟨_, _, rfl, .inl rfl, ?_⟩
    walk_at "dx"
    refine lc_map (fun d => .bl (isNatD d)) el (fun _ => trivial) hlen ?_
    walk_at "dx"
    refine ⟨(intsN ws).map isNatD, by rw [List.map_map]; rfl, ?_⟩
    have e1 : ((intsN ws).map isNatD).all id = (intsN ws).all isNatD := by rw [List.all_map]; rfl
    rw [e1, all_nat]
    walk_at "dx"
    exact ⟨_, ws, rfl, .inl rfl, hz, wk_drop rfl cS trivial h⟩
  · walk_at "dx"
    refine ⟨_, _, rfl, .inr ⟨n, rfl, hn⟩, ?_⟩
    walk_at "dx"
    refine ⟨_, hn, lc_map (fun d => .bl (isNatD d)) el (fun _ => lget_app hn) hlen ?_⟩
    walk_at "dx"
    refine ⟨(intsN ws).map isNatD, by rw [List.map_map]; rfl, ?_⟩
    have e1 : ((intsN ws).map isNatD).all id = (intsN ws).all isNatD := by rw [List.all_map]; rfl
    rw [e1, all_nat]
    walk_at "dx"
    exact ⟨_, ws, rfl, .inr ⟨n, rfl, lget_app hn⟩, hz, wk_drop rfl cS trivial h⟩
/-! ### the law's words -/
def sp__law_word : SpD := fun ds S k _ => ∃ (n a b most : Nat), ds = [.ref n, .int most] ∧ most ≤ 1000 ∧ S[n]? = some (deckO a b) ∧ b < 2 ^ 64 ∧ ∀ w a' b' : Nat, w ≤ 2 ^ most + 1 → b' < 2 ^ 64 → k (.int w) (S.set n (deckO a' b'))
def sp__law_sum : SpD := fun ds S k _ => ∃ a b : Nat, ds = [.int a, .int b] ∧ a < 2 ^ 2000 ∧ b < 2 ^ 2000 ∧ k (.int ((a ^^^ b : Nat) : Int)) S
def sp__law_right : SpD := fun ds S k _ => ∃ n a b : Nat, ds = [.ref n] ∧ S[n]? = some (deckO a b) ∧ b < 2 ^ 64 ∧ ∀ a' b' : Nat, k (.bl true) (S.set n (deckO a' b'))
def sp_law : SpD := fun ds S k _ => ∃ (n : Nat) (ns : List Int), ds = [.ref n] ∧ S[n]? = some (.ro (ns.map D.int)) ∧ ns.length ≤ 63 ∧ k (.bl true) S
/-- _law_word(deck, most); slots: 0 deck, 1 most, 2 wide, 3 found, 4 power, 5 turn -/
def t__law_word : TSD := (dSeq (dPar3 2 3 4 (dCons (dCall (spN 2 sp__law_take) (dCons (dVar 0) (dCons (dOp rAdd (dVar 1) (dC (.int 1))) dNil))) (dCons (dC (.int 0)) (dCons (dC (.int 1)) dNil)))) (dSeq (dFor (iRg1 (dCons (dVar 2) dNil)) (gNm 5) (dSeq (dSet 3 (dOp rAdd (dVar 3) (dOp rMul (dVar 4) (dCall (spN 2 sp__law_take) (dCons (dVar 0) (dCons (dC (.int 2)) dNil)))))) (dSet 4 (dOp rMul (dC (.int 2)) (dVar 4))))) (dRet (dOp rIx (dLst (dCons (dVar 3) (dCons (dVar 3) (dCons (dVar 4) (dCons (dOp rSub (dVar 4) (dC (.int 1))) (dCons (dOp rAdd (dVar 4) (dC (.int 1))) dNil)))))) (dCall (spN 2 sp__law_take) (dCons (dVar 0) (dCons (dC (.int 5)) dNil)))))))
/-- _law_sum(a_word, b_word); slots: 0 a_word, 1 b_word, 2 found, 3 power -/
def t__law_sum : TSD := (dSeq (dAsg (dTup (dCons (dC (.int 0)) (dCons (dC (.int 1)) dNil))) (gTp 2 (gsCons (gNm 2) (gsCons (gNm 3) gsNil)))) (dSeq (dWhile (dOr (dTst (dOp rGt (dVar 0) (dC (.int 0)))) (dTst (dOp rGt (dVar 1) (dC (.int 0))))) (dSeq (dSet 2 (dOp rAdd (dVar 2) (dOp rMul (dVar 3) (dCall spInt (dCons (dOp rNe (dOp rMod (dCall spInt (dCons (dVar 0) dNil)) (dC (.int 2))) (dOp rMod (dCall spInt (dCons (dVar 1) dNil)) (dC (.int 2)))) dNil))))) (dPar3 0 1 3 (dCons (dOp rFdiv (dVar 0) (dC (.int 2))) (dCons (dOp rFdiv (dVar 1) (dC (.int 2))) (dCons (dOp rMul (dC (.int 2)) (dVar 3)) dNil)))))) (dRet (dVar 2))))
/-- _law_right(deck); slots: 0 deck, 1 many, 2 words, 3 turn, 4 due, 5 kept, 6 word, 7 found, 8 twice, 9 odd, 10 at -/
def t__law_right : TSD := (dSeq (dSet 1 (dCall (spN 2 sp__law_take) (dCons (dVar 0) (dCons (dOp rIx (dLst (dCons (dC (.int 13)) (dCons (dC (.int 13)) (dCons (dC (.int 41)) dNil)))) (dCall (spN 2 sp__law_take) (dCons (dVar 0) (dCons (dC (.int 3)) dNil)))) dNil)))) (dSeq (dSet 2 (dLc (iRg1 (dCons (dVar 1) dNil)) (gNm 3) dYes (dCall (spN 2 sp__law_word) (dCons (dVar 0) (dCons (dOp rIx (dLst (dCons (dC (.int 4)) (dCons (dC (.int 60)) dNil))) (dCall (spN 2 sp__law_take) (dCons (dVar 0) (dCons (dC (.int 2)) dNil)))) dNil))) [3])) (dSeq (dFor (iRg1 (dCons (dCall (spN 2 sp__law_take) (dCons (dVar 0) (dCons (dC (.int 3)) dNil))) dNil)) (gNm 3) (dIf (dAnd (dTst (dOp rNe (dVar 2) (dLst dNil))) (dTst (dOp rLt (dCall spLen (dCons (dVar 2) dNil)) (dC (.int 40))))) (dDrop (dMet rIns (dVar 2) (dCons (dCall (spN 2 sp__law_take) (dCons (dVar 0) (dCons (dOp rAdd (dCall spLen (dCons (dVar 2) dNil)) (dC (.int 1))) dNil))) (dCons (dOp rIx (dVar 2) (dCall (spN 2 sp__law_take) (dCons (dVar 0) (dCons (dCall spLen (dCons (dVar 2) dNil)) dNil)))) dNil)))) dNext)) (dSeq (dPar 4 5 (dCons (dC (.int 0)) (dCons (dCall spRepr (dCons (dVar 2) dNil)) dNil))) (dSeq (dFor (iSq (dVar 2)) (gNm 6) (dSet 4 (dCall (spN 2 sp__law_sum) (dCons (dVar 4) (dCons (dVar 6) dNil))))) (dSeq (dSet 7 (dLst (dCons (dCall (spN 1 sp_added_all) (dCons (dVar 2) dNil)) (dCons (dCallK (spN 1 sp_added_all) 0 1 [0] dNil (dCons (dCall spTuple (dCons (dVar 2) dNil)) dNil)) (dCons (dCall (spN 1 sp_added_all) (dCons (dRevL (dVar 2)) dNil)) (dCons (dCall (spN 1 sp_added_all) (dCons (dCall spSorted (dCons (dVar 2) dNil)) dNil)) dNil)))))) (dSeq (dIf (dOr (dNot (dTst (dCall (spN 2 sp__law_same) (dCons (dVar 7) (dCons (dOp rMul (dLst (dCons (dVar 4) dNil)) (dC (.int 4))) dNil))))) (dTst (dOp rNe (dCall spRepr (dCons (dVar 2) dNil)) (dVar 5)))) (dRet (dC (.bl false))) dNext) (dSeq (dSet 8 (dCall (spN 2 sp__law_word) (dCons (dVar 0) (dCons (dC (.int 60)) dNil)))) (dSeq (dIf (dNot (dTst (dCall (spN 2 sp__law_same) (dCons (dLst (dCons (dCall (spN 1 sp_added_all) (dCons (dOp rAdd (dOp rAdd (dLst (dCons (dVar 8) dNil)) (dVar 2)) (dLst (dCons (dVar 8) dNil))) dNil)) (dCons (dCall (spN 1 sp_added_all) (dCons (dOp rAdd (dVar 2) (dVar 2)) dNil)) dNil))) (dCons (dLst (dCons (dVar 4) (dCons (dC (.int 0)) dNil))) dNil))))) (dRet (dC (.bl false))) dNext) (dSeq (dSet 9 (dLst dNil)) (dSeq (dFor (iRg1 (dCons (dC (.int 62)) dNil)) (gNm 10) (dSeq (dSet 1 (dCall spSum (dCons (dLc (iSq (dVar 2)) (gNm 6) dYes (dOp rMod (dCall spInt (dCons (dVar 6) dNil)) (dC (.int 2))) [6]) dNil))) (dSeq (dSet 2 (dLc (iSq (dVar 2)) (gNm 6) dYes (dOp rFdiv (dVar 6) (dC (.int 2))) [6])) (dIf (dTst (dOp rEq (dOp rMod (dCall spInt (dCons (dVar 1) dNil)) (dC (.int 2))) (dC (.int 1)))) (dDrop (dMet rApp (dVar 9) (dCons (dVar 10) dNil))) dNext)))) (dSeq (dIf (dNot (dTst (dCall (spN 2 sp__law_same) (dCons (dCall (spN 1 sp_bits) (dCons (dVar 4) dNil)) (dCons (dCall spTuple (dCons (dVar 9) dNil)) dNil))))) (dRet (dC (.bl false))) dNext) (dRet (dCall (spN 2 sp__law_same) (dCons (dLst (dCons (dCall (spN 1 sp_added_all) (dCons (dLst dNil) dNil)) (dCons (dCall (spN 1 sp_added_all) (dCons (dTup dNil) dNil)) (dCons (dCall (spN 2 sp_added) (dCons (dVar 4) (dCons (dC (.int 0)) dNil))) (dCons (dCall (spN 1 sp_added_all) (dCons (dLst (dCons (dVar 4) dNil)) dNil)) dNil))))) (dCons (dLst (dCons (dC (.int 0)) (dCons (dC (.int 0)) (dCons (dVar 4) (dCons (dVar 4) dNil))))) dNil))))))))))))))))
/-- law(script); slots: 0 script, 1 at -/
def t_law : TSD := (dSeq (dFor (iRg1 (dCons (dCall spMax (dCons (dC (.int 2)) (dCons (dCall spMin (dCons (dCall spLen (dCons (dVar 0) dNil)) (dCons (dC (.int 15)) dNil))) dNil))) dNil)) (gNm 1) (dIf (dNot (dTst (dCall (spN 1 sp__law_right) (dCons (dCall (spN 2 sp__law_deck) (dCons (dVar 0) (dCons (dVar 1) dNil))) dNil)))) (dRet (dC (.bl false))) dNext)) (dRet (dC (.bl true))))

theorem k__law_word : Keeps 2 6 t__law_word sp__law_word := by
  intro ds S k x hl cS cd h
  obtain ⟨n, a, b, most, rfl, hm, hd, hb, h⟩ := h
  show t__law_word (endsD S.length k x) [some (.ref n), some (.int most), none, none, none, none] S
  have hlt := get_lt hd
  simp only [t__law_word]
  walk_at "dx"
  refine ⟨n, a, b, most + 1, rfl, by omega, by omega, hd, hb, fun wide a1 b1 hw hb1 => ?_⟩
  walk_at "dx"
  refine ⟨by omega, by omega, ?_⟩
  refine wFor_rng wide (fun i sg S' => ∃ (a b f : Nat) (t : Option D), sg = [some (.ref n), some (.int most), some (.int wide), some (.int f), some (.int ((2 ^ i : Nat) : Int)), t] ∧ S' = S.set n (deckO a b) ∧ b < 2 ^ 64 ∧ f < 2 ^ i)
    ⟨a1, b1, 0, none, rfl, rfl, hb1, by decide⟩ ?_ ?_
  · rintro sg S' ⟨a2, b2, f, t, rfl, rfl, hb2, hf⟩
    refine ⟨trivial, ?_⟩
    walk_at "dx"
    refine ⟨by decide, take_set hd (many := 5) (by decide) (by decide) hb2 fun r a3 b3 hr hb3 => ?_⟩
    have hp : 2 ^ wide ≤ 2 ^ 1000 := Nat.pow_le_pow_right (by decide) (by omega)
    have hpm : 2 ^ wide ≤ 2 ^ most := Nat.pow_le_pow_right (by decide) (by omega)
    have hpos : 0 < 2 ^ wide := Nat.two_pow_pos _
    have big : ∀ w : Nat, w ≤ 2 ^ wide + 1 → wk S.length k (.int (w : Int)) (S.set n (deckO a3 b3) ++ [.lst [.int (f : Int), .int (f : Int), .int ((2 ^ wide : Nat) : Int), .int (((2 ^ wide : Nat) : Int) - 1), .int (((2 ^ wide : Nat) : Int) + 1)]]) := fun w hw =>
      wk_drop (by simp) (clS_set cS (cl_deck _ _ _)) trivial (h w a3 b3 (by omega) hb3)
    walk_at "dx"
    obtain ⟨d, hd1, hd2⟩ := atI_in [D.int (f : Int), .int (f : Int), .int ((2 ^ wide : Nat) : Int), .int (((2 ^ wide : Nat) : Int) - 1), .int (((2 ^ wide : Nat) : Int) + 1)] r hr
    refine ⟨_, lget_end (by simp), d, hd1, ?_⟩
    simp only [List.mem_cons, List.not_mem_nil, or_false] at hd2
    have e1 : ((2 ^ wide : Nat) : Int) - 1 = ((2 ^ wide - 1 : Nat) : Int) := by omega
    have e2 : ((2 ^ wide : Nat) : Int) + 1 = ((2 ^ wide + 1 : Nat) : Int) := by omega
    rcases hd2 with rfl | rfl | rfl | rfl | rfl
    · exact big f (by omega)
    · exact big f (by omega)
    · exact big _ (by omega)
    · have q := big (2 ^ wide - 1) (by omega)
      rw [← e1] at q
      exact q
    · have q := big (2 ^ wide + 1) (by omega)
      rw [← e2] at q
      exact q
  · rintro i sg S' nx hi ⟨a2, b2, f, t, rfl, rfl, hb2, hf⟩ hnx
    refine ⟨trivial, ?_⟩
    walk_at "dx"
    refine take_set0 hd (many := 2) (by decide) (by decide) hb2 fun r a3 b3 hr hb3 => ?_
    walk_at "dx"
    have hi2 : 2 ^ i ≤ 2 ^ 1000 := Nat.pow_le_pow_right (by decide) (by omega)
    refine ⟨.inl (.inr ⟨by omega, by omega⟩), .inl (.inl ⟨by decide, by decide⟩), hnx _ _ ⟨a3, b3, f + 2 ^ i * r, some (.int (0 + (i : Int))), ?_, rfl, hb3, ?_⟩⟩
    · have e1 : (f : Int) + ((2 ^ i : Nat) : Int) * (r : Int) = ((f + 2 ^ i * r : Nat) : Int) := by push_cast; rfl
      have e2 : (2 : Int) * ((2 ^ i : Nat) : Int) = ((2 ^ (i + 1) : Nat) : Int) := by rw [Nat.pow_succ]; push_cast; omega
      rw [e1, e2]
    · rw [Nat.pow_succ]
      have : r = 0 ∨ r = 1 := by omega
      rcases this with rfl | rfl <;> omega
theorem xor_step (a b : Nat) : a ^^^ b = 2 * ((a / 2) ^^^ (b / 2)) + (if a % 2 = b % 2 then 0 else 1) := by
  have c := Nat.xor_div_two (a := a) (b := b)
  have f := @Nat.xor_mod_two_eq_one a b
  split <;> omega
theorem k__law_sum : Keeps 2 4 t__law_sum sp__law_sum := by
  intro ds S k x hl cS cd h
  obtain ⟨a, b, rfl, ha, hb, h⟩ := h
  show t__law_sum (endsD S.length k x) [some (.int a), some (.int b), none, none] S
  simp only [t__law_sum]
  walk_at "dx"
  refine ⟨by decide, dWhile_by (fun m sg S' => ∃ (p q f i : Nat), sg = [some (.int p), some (.int q), some (.int f), some (.int ((2 ^ i : Nat) : Int))] ∧ S' = S ∧ m = p + q ∧ f + 2 ^ i * (p ^^^ q) = a ^^^ b) (a + b) ⟨a, b, 0, 0, rfl, rfl, rfl, by omega⟩ ?_⟩
  rintro m sg S' nx ⟨p, q, f, i, rfl, rfl, rfl, hf⟩ hnx
  walk_at "dx"
  have mo : MulOk ((2 ^ i : Nat) : Int) (if ¬ (p : Int) % 2 = (q : Int) % 2 then 1 else 0) := by
    refine .inl (.inr ?_)
    split <;> exact ⟨by decide, by decide⟩
  have mo2 : MulOk 2 ((2 ^ i : Nat) : Int) := .inl (.inl ⟨by decide, by decide⟩)
  have d2 : ∀ z : Nat, CDivW (z : Int) 2 := fun z => ⟨by decide, by decide⟩
  have step : 0 < p + q → nx [some (D.int ((p : Int) / 2)), some (D.int ((q : Int) / 2)), some (D.int ((f : Int) + ((2 ^ i : Nat) : Int) * if ¬(p : Int) % 2 = (q : Int) % 2 then 1 else 0)), some (D.int (2 * ((2 ^ i : Nat) : Int)))] S' := by
    intro h0
    refine hnx (p / 2 + q / 2) _ _ (by omega) ⟨p / 2, q / 2, f + 2 ^ i * (if p % 2 = q % 2 then 0 else 1), i + 1, ?_, rfl, rfl, ?_⟩
    · have e2 : (2 : Int) * ((2 ^ i : Nat) : Int) = ((2 ^ (i + 1) : Nat) : Int) := by rw [Nat.pow_succ]; push_cast; omega
      have e1 : (f : Int) + ((2 ^ i : Nat) : Int) * (if ¬(p : Int) % 2 = (q : Int) % 2 then 1 else 0) = ((f + 2 ^ i * (if p % 2 = q % 2 then 0 else 1) : Nat) : Int) := by
        by_cases hh : p % 2 = q % 2
        · rw [if_pos hh, if_neg (by omega)]; simp
        · rw [if_neg hh, if_pos (by omega)]; push_cast; omega
      rw [e1, e2]
      rfl
    · rw [← hf, xor_step p q, Nat.pow_succ, Nat.mul_add, Nat.add_assoc, Nat.mul_assoc]
      congr 1
      omega
  refine ⟨fun h0 => ⟨by decide, by decide, mo, d2 p, d2 q, mo2, step (by omega)⟩, fun h0 => ⟨fun h1 => ⟨by decide, by decide, mo, d2 p, d2 q, mo2, step (by omega)⟩, fun h1 => ?_⟩⟩
  have hp : p = 0 := by omega
  have hq : q = 0 := by omega
  subst hp hq
  have : f = a ^^^ b := by simpa using hf
  subst this
  exact wk_now h
theorem word_set {S G : Sto} {n a b most : Nat} {o : O} {k : KD} {x : XD} (hd : S[n]? = some o) (hm : most ≤ 1000) (hb : b < 2 ^ 64) (h : ∀ w a' b' : Nat, w ≤ 2 ^ most + 1 → b' < 2 ^ 64 → k (.int w) (S.set n (deckO a' b') ++ G)) :
    sp__law_word [.ref n, .int most] (S.set n (deckO a b) ++ G) k x := by
  have hl : n < (S.set n (deckO a b)).length := by rw [List.length_set]; exact get_lt hd
  refine ⟨n, a, b, most, rfl, hm, get_app (get_set_self hd), hb, fun r a' b' hr hb' => ?_⟩
  rw [set_app hl, List.set_set]
  exact h r a' b' hr hb'
theorem nat_perm {ms : List Int} {ws : List Nat} (h : ms.Perm (ws.map fun c : Nat => (c : Int))) : ∃ l : List Nat, ms = l.map (fun c : Nat => (c : Int)) ∧ l.Perm ws := by
  refine ⟨ms.map Int.toNat, ?_, ?_⟩
  · rw [List.map_map]
    conv => lhs; rw [← List.map_id ms]
    refine List.map_congr_left fun i hi => ?_
    obtain ⟨c, _, rfl⟩ := List.mem_map.mp (h.mem_iff.mp hi)
    rfl
  · have := h.map Int.toNat
    rw [List.map_map] at this
    have e : ws.map (Int.toNat ∘ fun c : Nat => (c : Int)) = ws := by
      conv => rhs; rw [← List.map_id ws]
      exact List.map_congr_left fun c _ => rfl
    rwa [e] at this
theorem k__law_right : Keeps 1 11 t__law_right sp__law_right := by
  intro ds S k x hl cS cd h
  obtain ⟨n, a, b, rfl, hd, hb, h⟩ := h
  show t__law_right (endsD S.length k x) [some (.ref n), none, none, none, none, none, none, none, none, none, none] S
  simp only [t__law_right]
  refine dSeq_cut (fun sg S' => ∃ many a b : Nat, sg = [some (.ref n), some (.int many), none, none, none, none, none, none, none, none, none] ∧ many ≤ 40 ∧ b < 2 ^ 64 ∧ ∃ G, S' = S.set n (deckO a b) ++ G) (fun nx hnx => ?_) ?_
  · walk_at "dz"
    refine ⟨by decide, take_app hd (many := 3) (by decide) (by decide) hb fun r1 a1 b1 hr1 hb1 => ?_⟩
    walk_at "dz"
    obtain ⟨d, hd1, hd2⟩ := atI_in [D.int 13, D.int 13, D.int 41] r1 hr1
    obtain ⟨most, rfl, hmo, hm0⟩ : ∃ most : Nat, d = .int (most : Int) ∧ most ≤ 41 ∧ 0 < most := by
      simp only [List.mem_cons, List.not_mem_nil, or_false] at hd2
      rcases hd2 with rfl | rfl | rfl
      · exact ⟨13, rfl, by decide, by decide⟩
      · exact ⟨13, rfl, by decide, by decide⟩
      · exact ⟨41, rfl, by decide, by decide⟩
    refine ⟨_, lget_end (by simp), _, hd1, take_set hd hm0 (by omega) hb1 fun r2 a2 b2 hr2 hb2 => ?_⟩
    exact hnx _ _ ⟨r2, a2, b2, rfl, by omega, hb2, _, rfl⟩
  · rintro sg S' ⟨many, a, b, rfl, hm, hb, G, rfl⟩
    refine dSeq_cut (fun sg S' => ∃ (ws : List Nat) (m a b r : Nat) (t3 : Option D), sg = [some (.ref n), some (.int m), some (.ref (S.length + r)), t3, none, none, none, none, none, none, none] ∧ ws.length ≤ 40 ∧ b < 2 ^ 64 ∧ (∀ w ∈ ws, w < 2 ^ 62) ∧ ∃ G, S' = S.set n (deckO a b) ++ G ∧ G[r]? = some (.lst (intsN ws))) (fun nx hnx => ?_) ?_
    · walk_at "dz"
      refine ⟨by omega, by omega, lc_ind (fun items acc T => ∃ (ws : List Nat) (a b : Nat) (G2 : Sto), acc = intsN ws ∧ ws.length + items.length ≤ 40 ∧ (∀ w ∈ ws, w < 2 ^ 62) ∧ b < 2 ^ 64 ∧ T = S.set n (deckO a b) ++ (G ++ .lst acc :: G2)) ⟨[], a, b, [], rfl, by simpa using hm, fun _ h => (nomatch h), hb, by simp⟩ ?_ ?_⟩
      · rintro acc T ⟨ws, a2, b2, G2, rfl, hl2, hw, hb2, rfl⟩
        refine ⟨trivial, ?_⟩
        refine hnx _ _ ⟨ws, many, a2, b2, G.length, none, ?_, by simpa using hl2, hb2, hw, _, rfl, by simp⟩
        simp
      · rintro d rest acc T kk ⟨ws, a2, b2, G2, rfl, hl2, hw, hb2, rfl⟩ hkk
        refine ⟨trivial, ?_⟩
        walk_at "dz"
        refine ⟨by decide, take_set hd (many := 2) (by decide) (by decide) hb2 fun q1 a3 b3 hq1 hb3 => ?_⟩
        walk_at "dz"
        obtain ⟨d1, hd1, hd2⟩ := atI_in [D.int 4, D.int 60] q1 hq1
        obtain ⟨most, rfl, hmo⟩ : ∃ most : Nat, d1 = .int (most : Int) ∧ most ≤ 60 := by
          simp only [List.mem_cons, List.not_mem_nil, or_false] at hd2
          rcases hd2 with rfl | rfl
          · exact ⟨4, rfl, by decide⟩
          · exact ⟨60, rfl, by decide⟩
        refine ⟨_, lget_k (G.length + (G2.length + 1)) (by simp) (lget_k (G2.length + 1) rfl (lget_k (A := O.lst (intsN ws) :: G2) 0 (by simp) rfl)), _, hd1, word_set hd (by omega) hb3 fun w a4 b4 hw4 hb4 => ?_⟩
        have hpw : 2 ^ most ≤ 2 ^ 60 := Nat.pow_le_pow_right (by decide) hmo
        refine hkk _ _ (get_mid (by simp)) (by rw [intsN_len, sl16]; rw [List.length_cons] at hl2; omega) ⟨ws ++ [w], a4, b4, _, by rw [intsN_app]; rfl, by rw [List.length_append, List.length_singleton]; rw [List.length_cons] at hl2; omega, ?_, hb4, by rw [set_mid (by simp)]⟩
        intro y hy
        rcases List.mem_append.mp hy with hy | hy
        · exact hw y hy
        · cases List.mem_singleton.mp hy
          omega
    · rintro sg S' ⟨ws, m, a, b, r, t3, rfl, hm, hb, hw, G, rfl, hG⟩
      refine dSeq_cut (fun sg S' => ∃ (ws : List Nat) (m a b r : Nat) (t3 : Option D), sg = [some (.ref n), some (.int m), some (.ref (S.length + r)), t3, none, none, none, none, none, none, none] ∧ ws.length ≤ 40 ∧ b < 2 ^ 64 ∧ (∀ w ∈ ws, w < 2 ^ 62) ∧ ∃ G, S' = S.set n (deckO a b) ++ G ∧ G[r]? = some (.lst (intsN ws))) (fun nx hnx => ?_) ?_
      · walk_at "dz"
        refine take_set hd (many := 3) (by decide) (by decide) hb fun q1 a3 b3 hq1 hb3 => ?_
        walk_at "dz"
        refine ⟨by omega, by omega, wFor_rng _ (fun i sg S' => ∃ (ws : List Nat) (m a b r : Nat) (t3 : Option D), sg = [some (.ref n), some (.int m), some (.ref (S.length + r)), t3, none, none, none, none, none, none, none] ∧ ws.length ≤ 40 ∧ b < 2 ^ 64 ∧ (∀ w ∈ ws, w < 2 ^ 62) ∧ ∃ G, S' = S.set n (deckO a b) ++ G ∧ G[r]? = some (.lst (intsN ws))) ⟨ws, m, a3, b3, r, t3, rfl, hm, hb3, hw, G, rfl, hG⟩ ?_ ?_⟩
        · rintro sg S' ⟨ws, m, a, b, r, t3, rfl, hm, hb, hw, G, rfl, hG⟩
          exact ⟨trivial, hnx _ _ ⟨ws, m, a, b, r, t3, rfl, hm, hb, hw, G, rfl, hG⟩⟩
        · rintro i sg S' nx2 hi ⟨ws, m, a, b, r, t3, rfl, hm, hb, hw, G, rfl, hG⟩ hnx2
          refine ⟨trivial, ?_⟩
          walk_at "dx"
          have hG2 : (G ++ [O.lst []])[r]? = some (.lst (intsN ws)) := get_app hG
          have hL : ∀ a b, lget (S.set n (deckO a b) ++ (G ++ [O.lst []])) (S.length + r) = some (intsN ws) := fun a b => lget_k r (by simp) (lget_lst hG2)
          refine ⟨Nat.zero_le _, eqG_lst (xs := intsN ws) (ys := []) 0 0 (hL a b) (lget_k G.length (by simp) (lget_k (A := G) 0 rfl rfl)) (pds_ints 0 ws) rfl ?_⟩
          rw [eqDs_nil]
          refine ⟨fun he => ⟨_, hL a b, fun hlt => ⟨⟨_, hL a b⟩, _, hL a b, ?_⟩, fun _ => hnx2 _ _ ⟨ws, m, a, b, r, _, rfl, hm, hb, hw, _, rfl, hG2⟩⟩, fun _ => hnx2 _ _ ⟨ws, m, a, b, r, _, rfl, hm, hb, hw, _, rfl, hG2⟩⟩
          have hne : 0 < ws.length := by
            cases ws with
            | nil => cases he
            | cons a l => exact Nat.succ_pos _
          rw [intsN_len] at hlt ⊢
          rw [show ((ws.length : Nat) : Int) + 1 = ((ws.length + 1 : Nat) : Int) by push_cast; rfl]
          refine take_set hd (by omega) (by omega) hb fun q2 a4 b4 hq2 hb4 => ?_
          walk_at "dx"
          refine ⟨_, hL a4 b4, ?_⟩
          rw [intsN_len]
          refine take_set hd hne (by omega) hb4 fun q3 a5 b5 hq3 hb5 => ?_
          walk_at "dx"
          refine ⟨_, hL a5 b5, .int (ws[q3] : Nat), atI_nat (by unfold intsN; rw [List.getElem?_map, List.getElem?_eq_getElem hq3]; rfl), intsN ws, get_k r (by simp) hG2, by rw [intsN_len, sl16]; omega, by omega, by omega, ?_⟩
          rw [set_in (r := r) (by simp), Int.toNat_natCast]
          refine hnx2 _ _ ⟨ws.take q2 ++ [ws[q3]] ++ ws.drop q2, m, a5, b5, r, _, rfl, ?_, hb5, ?_, _, rfl, ?_⟩
          · simp only [List.length_append, List.length_take, List.length_drop, List.length_singleton]
            omega
          · intro y hy
            rcases List.mem_append.mp hy with hy | hy
            · rcases List.mem_append.mp hy with hy | hy
              · exact hw y (List.mem_of_mem_take hy)
              · cases List.mem_singleton.mp hy
                exact hw _ (List.getElem_mem hq3)
            · exact hw y (List.mem_of_mem_drop hy)
          · rw [List.getElem?_set_self (get_lt hG2)]
            simp [intsN, List.map_take, List.map_drop]
      · rintro sg S' ⟨ws, m, a, b, r, t3, rfl, hm, hb, hw, G, rfl, hG⟩
        have hL : lget (S.set n (deckO a b) ++ G) (S.length + r) = some (intsN ws) := lget_k r (by simp) (lget_lst hG)
        refine dSeq_cut (fun sg S' => ∃ (t3 t6 : Option D), sg = [some (.ref n), some (.int m), some (.ref (S.length + r)), t3, some (.int 0), some (.str (textL ws)), t6, none, none, none, none] ∧ S' = S.set n (deckO a b) ++ G) (fun nx hnx => ?_) ?_
        · walk_at "dz"
          refine repr_at hL (by omega) hw ?_
          walk_at "dz"
          exact hnx _ _ ⟨_, _, rfl, rfl⟩
        · rintro sg S' ⟨t3, t6, rfl, rfl⟩
          have w20 : ∀ z : Nat, z < 2 ^ 62 → z < 2 ^ 2000 := fun z hz => Nat.lt_of_lt_of_le hz (Nat.pow_le_pow_right (by decide) (by decide))
          refine dSeq_cut (fun sg S' => ∃ (t3 t6 : Option D), sg = [some (.ref n), some (.int m), some (.ref (S.length + r)), t3, some (.int (xorA ws : Nat)), some (.str (textL ws)), t6, none, none, none, none] ∧ S' = S.set n (deckO a b) ++ G) (fun nx hnx => ?_) ?_
          · walk_at "dz"
            refine ⟨_, hL, wFor_ind (fun rs sg S' => ∃ (rest : List Nat) (tot : Nat) (t6 : Option D), rs = intsN rest ∧ sg = [some (.ref n), some (.int m), some (.ref (S.length + r)), t3, some (.int tot), some (.str (textL ws)), t6, none, none, none, none] ∧ S' = S.set n (deckO a b) ++ G ∧ tot ^^^ xorA rest = xorA ws ∧ tot < 2 ^ 62 ∧ ∀ w ∈ rest, w < 2 ^ 62) ?_ ?_ _ _ _ ⟨ws, 0, t6, rfl, rfl, rfl, Nat.zero_xor _, by decide, hw⟩⟩
            · rintro sg S' ⟨rest, tot, t6, hr, rfl, rfl, hx, ht, hrw⟩
              cases rest with
              | cons a l => cases hr
              | nil =>
                rw [show tot = xorA ws by rw [← hx]; exact (Nat.xor_zero tot).symm]
                exact ⟨hL, hnx _ _ ⟨_, _, rfl, rfl⟩⟩
            · rintro d1 rs sg S' nx2 ⟨rest, tot, t6, hr, rfl, rfl, hx, ht, hrw⟩ hnx2
              cases rest with
              | nil => cases hr
              | cons a l =>
                cases hr
                have ha := hrw a List.mem_cons_self
                refine ⟨hL, ?_⟩
                walk_at "dz"
                exact ⟨tot, a, rfl, w20 _ ht, w20 _ ha, hnx2 _ _ ⟨l, tot ^^^ a, _, rfl, rfl, rfl, by rw [Nat.xor_assoc]; exact hx, Nat.xor_lt_two_pow ht ha, fun w hw => hrw w (List.mem_cons_of_mem _ hw)⟩⟩
          · rintro sg S' ⟨t3, t6, rfl, rfl⟩
            refine dSeq_go ?_
            walk_at "dz"
            have z40 : ws.length ≤ 1000000 := by omega
            refine ⟨_, ws, rfl, .inr ⟨_, rfl, hL⟩, z40, ?_⟩
            walk_at "dz"
            refine ⟨_, hL, ?_⟩
            refine ⟨_, ws, rfl, .inl rfl, z40, ?_⟩
            walk_at "dz"
            have hLa : ∀ X : Sto, lget (S.set n (deckO a b) ++ (G ++ X)) (S.length + r) = some (intsN ws) := fun X => lget_k r (by simp) (lget_app (lget_lst hG))
            refine ⟨_, hL, _, ws.reverse, rfl, .inr ⟨_, rfl, lget_k G.length (by simp) (lget_k (A := G) 0 rfl (by simp [lget, intsN]))⟩, by simpa using z40, ?_⟩
            rw [xorA_perm (List.reverse_perm ws)]
            walk_at "dz"
            refine sorted_at (ns := ws.map fun c : Nat => (c : Int)) (by rw [map_natint]; exact hLa _) fun ms hp _ => ?_
            obtain ⟨l, rfl, hpl⟩ := nat_perm hp
            rw [map_natint]
            walk_at "dz"
            refine ⟨_, l, rfl, .inr ⟨_, rfl, lget_k (G.length + 1) (by simp) (lget_k (A := G) 1 rfl rfl)⟩, by rw [hpl.length_eq]; exact z40, ?_⟩
            rw [xorA_perm hpl]
            walk_at "dz"
            refine ⟨by decide, ?_⟩
            refine dSeq_cut (fun sg S' => ∃ (t3 t6 t7 : Option D) (G : Sto), sg = [some (.ref n), some (.int m), some (.ref (S.length + r)), t3, some (.int (xorA ws : Nat)), some (.str (textL ws)), t6, t7, none, none, none] ∧ S' = S.set n (deckO a b) ++ G ∧ G[r]? = some (.lst (intsN ws))) (fun nx hnx => ?_) ?_
            · walk_at "dz"
              refine ⟨by decide, _, get_k (G.length + 3) (by simp) (get_k (A := G) 3 rfl rfl), by decide, by decide, sl_ok _ (by simp), same_call (sameD_lst (lget_k (G.length + 2) (by simp) (lget_k (A := G) 2 rfl rfl)) (lget_k (G.length + 4) (by simp) (lget_k (A := G) 4 rfl rfl)) (sl_ok _ (by simp)) (same_flat [D.int (xorA ws : Nat), D.int (xorA ws : Nat), D.int (xorA ws : Nat), D.int (xorA ws : Nat)] rfl)) ?_⟩
              walk_at "dz"
              refine repr_at (hLa _) (by omega) hw ?_
              walk_at "dz"
              exact hnx _ _ ⟨_, _, _, _, rfl, rfl, get_app hG⟩
            · rintro sg S' ⟨t3, t6, t7, G, rfl, rfl, hG⟩
              have hL : ∀ a b, lget (S.set n (deckO a b) ++ G) (S.length + r) = some (intsN ws) := fun a b => lget_k r (by simp) (lget_lst hG)
              have hLa : ∀ a b (X : Sto), lget (S.set n (deckO a b) ++ (G ++ X)) (S.length + r) = some (intsN ws) := fun a b X => lget_k r (by simp) (lget_app (lget_lst hG))
              have hGa : ∀ a b (X : Sto), (S.set n (deckO a b) ++ (G ++ X))[S.length + r]? = some (.lst (intsN ws)) := fun a b X => get_k r (by simp) (get_app hG)
              refine dSeq_go ?_
              walk_at "dz"
              refine word_set hd (by decide) hb fun tw a2 b2 htw hb2 => ?_
              walk_at "dz"
              refine dSeq_cut (fun sg S' => ∃ (t3 t6 t7 t8 : Option D) (G : Sto), sg = [some (.ref n), some (.int m), some (.ref (S.length + r)), t3, some (.int (xorA ws : Nat)), some (.str (textL ws)), t6, t7, t8, none, none] ∧ S' = S.set n (deckO a2 b2) ++ G ∧ G[r]? = some (.lst (intsN ws))) (fun nx hnx => ?_) ?_
              · walk_at "dz"
                have l1 : 1 + (intsN ws).length ≤ sizeLine := by rw [intsN_len]; exact sl_ok _ (by omega)
                refine ⟨by decide, _, get_k G.length (by simp) (get_k (A := G) 0 rfl rfl), intsN ws, hGa _ _ _, l1, by decide, _, get_k (G.length + 1) (by simp) (get_k (A := G) 1 rfl rfl), _, get_k (G.length + 2) (by simp) (get_k (A := G) 2 rfl rfl), by rw [List.length_append, intsN_len]; exact sl_ok _ (by simp; omega), ?_⟩
                refine ⟨_, tw :: ws ++ [tw], rfl, .inr ⟨_, rfl, lget_k (G.length + 3) (by simp) (lget_k (A := G) 3 rfl (by simp [lget, intsN]))⟩, by simp; omega, ?_⟩
                rw [show xorA (tw :: ws ++ [tw]) = xorA ws by rw [xorA_app, show xorA (tw :: ws) = tw ^^^ xorA ws from rfl, show xorA [tw] = tw from Nat.xor_zero tw, Nat.xor_comm tw, Nat.xor_assoc, Nat.xor_self, Nat.xor_zero]]
                walk_at "dz"
                refine ⟨intsN ws, hGa _ _ _, intsN ws, hGa _ _ _, by rw [intsN_len]; exact sl_ok _ (by omega), _, ws ++ ws, rfl, .inr ⟨_, rfl, lget_k (G.length + 4) (by simp) (lget_k (A := G) 4 rfl (by simp [lget, intsN]))⟩, by simp; omega, ?_⟩
                rw [show xorA (ws ++ ws) = 0 by rw [xorA_app, Nat.xor_self]]
                walk_at "dz"
                refine ⟨by decide, by decide, same_call (sameD_lst (lget_k (G.length + 5) (by simp) (lget_k (A := G) 5 rfl rfl)) (lget_k (G.length + 6) (by simp) (lget_k (A := G) 6 rfl rfl)) (sl_ok _ (by simp)) (same_flat [D.int (xorA ws : Nat), D.int (0 : Nat)] rfl)) ?_⟩
                walk_at "dz"
                exact hnx _ _ ⟨_, _, _, _, _, rfl, rfl, get_app hG⟩
              · rintro sg S' ⟨t3, t6, t7, t8, G, rfl, rfl, hG⟩
                have hx62 : xorA ws < 2 ^ 62 := xorA_lt hw
                refine dSeq_go ?_
                walk_at "dz"
                refine ⟨Nat.zero_le _, ?_⟩
                refine dSeq_cut (fun sg S' => ∃ (t1 t2 t3 t6 t7 t8 t10 : Option D) (G2 : Sto), sg = [some (.ref n), t1, t2, t3, some (.int (xorA ws : Nat)), some (.str (textL ws)), t6, t7, t8, some (.ref (S.length + G.length)), t10] ∧ S' = S.set n (deckO a2 b2) ++ G2 ∧ G2[G.length]? = some (.lst (intsN ((List.range 62).filter fun j => (xorA ws).testBit j)))) (fun nx hnx => ?_) ?_
                · walk_at "dz"
                  refine ⟨by decide, by decide, wFor_rng 62 (fun j sg S' => ∃ (t1 t3 t6 t7 t8 t10 : Option D) (r2 : Nat) (G2 : Sto), sg = [some (.ref n), t1, some (.ref (S.length + r2)), t3, some (.int (xorA ws : Nat)), some (.str (textL ws)), t6, t7, t8, some (.ref (S.length + G.length)), t10] ∧ S' = S.set n (deckO a2 b2) ++ G2 ∧ G2[r2]? = some (.lst (intsN (ws.map fun w => w / 2 ^ j))) ∧ G2[G.length]? = some (.lst (intsN ((List.range j).filter fun j => (xorA ws).testBit j)))) ⟨_, _, _, _, _, _, r, _, rfl, rfl, ?_, ?_⟩ ?_ ?_⟩
                  · rw [show (ws.map fun w => w / 2 ^ 0) = ws by simp]
                    exact get_app hG
                  · simp [intsN]
                  · rintro sg S' ⟨t1, t3, t6, t7, t8, t10, r2, G2, rfl, rfl, _, h2⟩
                    exact ⟨trivial, hnx _ _ ⟨_, _, _, _, _, _, _, G2, rfl, rfl, h2⟩⟩
                  · rintro j sg S' nx2 hj ⟨t1, t3, t6, t7, t8, t10, r2, G2, rfl, rfl, h1, h2⟩ hnx2
                    refine ⟨trivial, ?_⟩
                    walk_at "dz"
                    refine dSeq_go ?_
                    walk_at "dz"
                    have h1L : ∀ X : Sto, lget (S.set n (deckO a2 b2) ++ (G2 ++ X)) (S.length + r2) = some (intsN (ws.map fun w => w / 2 ^ j)) := fun X => lget_k r2 (by simp) (lget_app (lget_lst h1))
                    have h1L0 : lget (S.set n (deckO a2 b2) ++ G2) (S.length + r2) = some (intsN (ws.map fun w => w / 2 ^ j)) := lget_k r2 (by simp) (lget_lst h1)
                    have lj : (intsN (ws.map fun w => w / 2 ^ j)).length ≤ sizeLine := by rw [intsN_len, List.length_map]; exact sl_ok _ (by omega)
                    refine ⟨_, h1L0, lc_map (fun d => .int (toI d % 2)) (fun d hd acc kk hk => ?_) (fun acc => lget_app h1L0) lj ?_⟩
                    · obtain ⟨w, _, rfl⟩ := List.mem_map.mp hd
                      simp only [app1] at hk
                      walk_at "dz"
                      exact ⟨by decide, hk⟩
                    walk_at "dz"
                    refine ⟨(ws.map fun w => w / 2 ^ j % 2).map fun c : Nat => (c : Int), isL_iff.mpr (lget_k G2.length (by simp) (lget_k (A := G2) 0 rfl ?_)), ?_⟩
                    · simp [lget, intsN, toI, Function.comp_def]
                    rw [sum_cast]
                    walk_at "dz"
                    refine dSeq_go ?_
                    walk_at "dz"
                    refine ⟨_, h1L _, lc_map (fun d => .int (toI d / 2)) (fun d hd acc kk hk => ?_) (fun acc => lget_app (h1L _)) lj ?_⟩
                    · obtain ⟨w, _, rfl⟩ := List.mem_map.mp hd
                      simp only [app1, List.cons_append, List.nil_append] at hk
                      walk_at "dz"
                      exact ⟨⟨by decide, by decide⟩, hk⟩
                    have par := par_bit j ws
                    have hrow : (intsN (ws.map fun w => w / 2 ^ j)).map (fun d => D.int (toI d / 2)) = intsN (ws.map fun w => w / 2 ^ (j + 1)) := by
                      unfold intsN
                      rw [List.map_map, List.map_map, List.map_map]
                      refine List.map_congr_left fun w _ => ?_
                      show D.int (((w / 2 ^ j : Nat) : Int) / 2) = D.int ((w / 2 ^ (j + 1) : Nat) : Int)
                      rw [Nat.pow_succ, ← Nat.div_div_eq_div_mul]
                      rfl
                    have hlt := get_lt h2
                    have e0 : (0 : Int) + (j : Int) = (j : Int) := by omega
                    walk_at "dx"
                    simp only [hrow, e0]
                    refine ⟨by decide, fun z => ⟨⟨_, lget_k G.length (by simp) (lget_lst (get_app h2))⟩, _, get_k G.length (by simp) (get_app h2), ?_, ?_⟩, fun z => hnx2 _ _ ⟨_, _, _, _, _, _, G2.length + 1, _, rfl, rfl, get_k (A := G2) 1 rfl rfl, ?_⟩⟩
                    · rw [intsN_len]
                      exact Nat.lt_of_le_of_lt (Nat.le_trans (List.length_filter_le _ _) (by rw [List.length_range]; omega : _ ≤ 100)) (by decide)
                    · have hb1 : (xorA ws).testBit j = true := by
                        cases hx : (xorA ws).testBit j with
                        | true => rfl
                        | false =>
                          rw [hx] at par
                          have : (ws.map fun w => w / 2 ^ j % 2).sum % 2 = 0 := par
                          omega
                      rw [set_in (r := G.length) (by simp)]
                      refine hnx2 _ _ ⟨_, _, _, _, _, _, G2.length + 1, _, rfl, rfl, ?_, ?_⟩
                      · rw [List.getElem?_set_ne (by omega)]
                        exact get_k (A := G2) 1 rfl rfl
                      · rw [List.getElem?_set_self (by simp; omega), List.range_succ, List.filter_append, intsN_app]
                        simp [hb1, intsN]
                    · have hb1 : (xorA ws).testBit j = false := by
                        cases hx : (xorA ws).testBit j with
                        | false => rfl
                        | true =>
                          rw [hx] at par
                          have : (ws.map fun w => w / 2 ^ j % 2).sum % 2 = 1 := par
                          omega
                      rw [List.range_succ, List.filter_append]
                      simp only [List.filter_cons, hb1, List.filter_nil, Bool.false_eq_true, if_false, List.append_nil]
                      exact get_app h2
                · rintro sg S' ⟨t1, t2, t3, t6, t7, t8, t10, G2, rfl, rfl, h2⟩
                  walk_at "dx"
                  have hx5 : xorA ws < 2 ^ 100000 := Nat.lt_of_lt_of_le hx62 (Nat.pow_le_pow_right (by decide) (by decide))
                  refine ⟨_, rfl, hx5, ?_⟩
                  rw [bitsN_range hx62]
                  walk_at "dx"
                  have hfl : ∀ l : List Nat, (intsN l).all flatD = true := fun l => List.all_eq_true.mpr fun d hd => by
                    obtain ⟨j, _, rfl⟩ := List.mem_map.mp hd
                    rfl
                  have hl62 : (intsN ((List.range 62).filter fun j => (xorA ws).testBit j)).length ≤ sizeLine := by
                    rw [intsN_len]
                    exact sl_ok _ (Nat.le_trans (List.length_filter_le _ _) (by simp))
                  refine ⟨_, lget_k G.length (by simp) (lget_lst h2), same_call (sameD_tup hl62 (same_flat _ (hfl _))) ?_⟩
                  walk_at "dx"
                  refine ⟨Nat.zero_le _, _, [], rfl, .inr ⟨_, rfl, lget_k G2.length (by simp) (lget_k (A := G2) 0 rfl rfl)⟩, Nat.zero_le _, ?_⟩
                  walk_at "dx"
                  refine ⟨Nat.zero_le _, _, [], rfl, .inl rfl, Nat.zero_le _, ?_⟩
                  walk_at "dx"
                  refine ⟨xorA ws, 0, rfl, ?_⟩
                  walk_at "dx"
                  refine ⟨by decide, _, [xorA ws], rfl, .inr ⟨_, rfl, lget_k (G2.length + 1) (by simp) (lget_k (A := G2) 1 rfl rfl)⟩, by simp, ?_⟩
                  walk_at "dx"
                  rw [Nat.xor_zero, show xorA [] = 0 from rfl, show xorA [xorA ws] = xorA ws from Nat.xor_zero _]
                  exact ⟨by decide, by decide, same_call (sameD_lst (lget_k (G2.length + 2) (by simp) (lget_k (A := G2) 2 rfl rfl)) (lget_k (G2.length + 3) (by simp) (lget_k (A := G2) 3 rfl rfl)) (sl_ok _ (by simp)) (same_flat [D.int (0 : Nat), D.int (0 : Nat), D.int (xorA ws : Nat), D.int (xorA ws : Nat)] rfl)) (wk_drop (by simp) (clS_set cS (cl_deck _ _ _)) trivial (h _ _))⟩
theorem k_law : Keeps 1 2 t_law sp_law := by
  intro ds S k x hl cS cd h
  obtain ⟨n, ns, rfl, hd, hn, h⟩ := h
  show t_law (endsD S.length k x) [some (.ref n), none] S
  have hL : lget S n = some (ns.map D.int) := by unfold lget; rw [hd]
  simp only [t_law]
  walk_at "dx"
  refine ⟨_, hL, ?_⟩
  rw [List.length_map]
  generalize hN : (if (if (15 : Int) < (ns.length : Int) then (15 : Int) else ns.length) > 2 then (if (15 : Int) < (ns.length : Int) then (15 : Int) else ns.length) else (2 : Int)) = N
  have hN2 : N ≤ 15 := by
    rw [← hN]
    split
    · split
      · omega
      · omega
    · omega
  refine ⟨by rw [← hN]; split <;> omega, by omega, ?_⟩
  refine wFor_rng _ (fun i sg S' => ∃ (G : Sto) (t : Option D), sg = [some (.ref n), t] ∧ S' = S ++ G) ⟨[], none, rfl, by simp⟩ ?_ ?_
  · rintro sg S' ⟨G, t, rfl, rfl⟩
    refine ⟨trivial, ?_⟩
    walk_at "dx"
    exact wk_drop rfl cS trivial h
  · rintro i sg S' nx hi ⟨G, t, rfl, rfl⟩ hnx
    refine ⟨trivial, ?_⟩
    walk_at "dx"
    refine ⟨n, i, ns, by simp, get_app hd, by omega, by rw [sl16]; omega, fun a b hb => ?_⟩
    refine ⟨rfl, (S ++ G).length, a, b, rfl, by simp, hb, fun a' b' => ?_⟩
    rw [set_at0]
    walk_at "dx"
    exact hnx _ _ ⟨G ++ [deckO a' b'], _, rfl, by simp⟩
theorem law_top (ns : List Int) (h : ns.length ≤ 63) : sp_law [.ref 0] [.ro (ns.map D.int)] (fun d _ => d = .bl true) XF := ⟨0, ns, rfl, rfl, h, rfl⟩
end Q
namespace Lk
open PySem PySem.Spec PyProof.Rows L2 Q
def top (i : Nat) : Stmt := PySem.Challenge.pw_keytellers_k02_whole_sums_of_words.main.body.getD i (.Pass ⟨0, 0, 0, 0⟩)
abbrev FnP (K : PySem.W.Frag) (x : Str) (st : Stmt) (f : Addr) (fd : FuncData) : Prop := FunD K x x (defArgs st) (defBody st) (defScope st) [] [] f fd
abbrev s_is_integer : Stmt := top 4
theorem sc_is_integer : FnScope ["value"] ["value"] (defScope s_is_integer) := ⟨rfl, rfl, rfl, by decide +kernel, rfl, by decide +kernel, by decide +kernel⟩
abbrev s_is_natural : Stmt := top 5
theorem sc_is_natural : FnScope ["value"] ["value"] (defScope s_is_natural) := ⟨rfl, rfl, rfl, by decide +kernel, rfl, by decide +kernel, by decide +kernel⟩
abbrev s_is_row_or_list : Stmt := top 6
theorem sc_is_row_or_list : FnScope ["value"] ["value"] (defScope s_is_row_or_list) := ⟨rfl, rfl, rfl, by decide +kernel, rfl, by decide +kernel, by decide +kernel⟩
abbrev s_sum_of_words : Stmt := top 7
theorem sc_sum_of_words : FnScope ["words", "total", "word"] ["words"] (defScope s_sum_of_words) := ⟨rfl, rfl, rfl, by decide +kernel, rfl, by decide +kernel, by decide +kernel⟩
abbrev s_bits_of : Stmt := top 8
theorem sc_bits_of : FnScope ["a", "found", "place", "rest"] ["a"] (defScope s_bits_of) := ⟨rfl, rfl, rfl, by decide +kernel, rfl, by decide +kernel, by decide +kernel⟩
abbrev s_check_word : Stmt := top 10
theorem sc_check_word : FnScope ["a"] ["a"] (defScope s_check_word) := ⟨rfl, rfl, rfl, by decide +kernel, rfl, by decide +kernel, by decide +kernel⟩
abbrev s_added : Stmt := top 11
theorem sc_added : FnScope ["a", "b"] ["a", "b"] (defScope s_added) := ⟨rfl, rfl, rfl, by decide +kernel, rfl, by decide +kernel, by decide +kernel⟩
abbrev s_added_all : Stmt := top 12
theorem sc_added_all : FnScope ["some", "a"] ["some"] (defScope s_added_all) := ⟨rfl, rfl, rfl, by decide +kernel, rfl, by decide +kernel, by decide +kernel⟩
abbrev s_bits : Stmt := top 13
theorem sc_bits : FnScope ["a"] ["a"] (defScope s_bits) := ⟨rfl, rfl, rfl, by decide +kernel, rfl, by decide +kernel, by decide +kernel⟩
abbrev s__law_deck : Stmt := top 15
theorem sc__law_deck : FnScope ["script", "at", "cell", "stir"] ["script", "at"] (defScope s__law_deck) := ⟨rfl, rfl, rfl, by decide +kernel, rfl, by decide +kernel, by decide +kernel⟩
abbrev s__law_take : Stmt := top 16
theorem sc__law_take : FnScope ["deck", "many", "taken"] ["deck", "many"] (defScope s__law_take) := ⟨rfl, rfl, rfl, by decide +kernel, rfl, by decide +kernel, by decide +kernel⟩
abbrev s__law_same : Stmt := top 17
theorem sc__law_same : FnScope ["found", "due", "at"] ["found", "due"] (defScope s__law_same) := ⟨rfl, rfl, rfl, by decide +kernel, rfl, by decide +kernel, by decide +kernel⟩
abbrev s__law_word : Stmt := top 18
theorem sc__law_word : FnScope ["deck", "most", "wide", "found", "power", "turn"] ["deck", "most"] (defScope s__law_word) := ⟨rfl, rfl, rfl, by decide +kernel, rfl, by decide +kernel, by decide +kernel⟩
abbrev s__law_sum : Stmt := top 19
theorem sc__law_sum : FnScope ["a_word", "b_word", "found", "power"] ["a_word", "b_word"] (defScope s__law_sum) := ⟨rfl, rfl, rfl, by decide +kernel, rfl, by decide +kernel, by decide +kernel⟩
abbrev s__law_right : Stmt := top 20
theorem sc__law_right : FnScope ["deck", "many", "words", "turn", "due", "kept", "word", "found", "twice", "odd", "at"] ["deck"] (defScope s__law_right) := ⟨rfl, rfl, rfl, by decide +kernel, rfl, by decide +kernel, by decide +kernel⟩
abbrev s_law : Stmt := top 21
theorem sc_law : FnScope ["script", "at"] ["script"] (defScope s_law) := ⟨rfl, rfl, rfl, by decide +kernel, rfl, by decide +kernel, by decide +kernel⟩
section
variable {P : Program} {w : World} {K : PySem.W.Frag} {mg : Str → Option Value} {base : Heap}
theorem kb_added_all_0_some {f : Addr} {fd : FuncData} (F : FnP K "added_all" s_added_all f fd) : KB K fd ["some"] 0 ["some"] [0] := kb_of F _ _ _ fun _ _ _ _ _ _ us ws h1 h2 => match us, ws, h1, h2 with | [], [_], _, _ => rfl
theorem ok_is_integer {f : Addr} {fd : FuncData} (F : FnP K "is_integer" s_is_integer f fd) (m_isinstance : mg "isinstance" = none) (m_int : mg "int" = none) (m_bool : mg "bool" = none) : FnOk P w K mg base (L2.CX P w) 1 f fd ["value"] (LP K mg 1 sp_is_integer) := def_ok F sc_is_integer (fun cdv A outer s H E hr => by
  have nd := sc_is_integer.nd
  have hu := hr.units
  have hp := own_cx (P := P) (w := w) (K := K) (mg := mg) (base := base) (N := ["value"]) (qual := "is_integer") (scope := defScope s_is_integer) (f := f) (cd := cdv) (A := A) (outer := outer) (s := s) (H := H) (E := E)
  have hx := pass_cx (P := P) (w := w) (K := K) (mg := mg) (base := base) (N := ["value"]) (qual := "is_integer") (scope := defScope s_is_integer) (f := f) (cd := cdv) (A := A) (outer := outer) (s := s) (H := H) (E := E)
  exact (q_one1 (q_ret (q_andV (q_isi .int (by decide) (q_var 0) (by rfl) m_isinstance (by rfl) m_int (by decide +kernel)) (q_one (q_notV (q_isi .bool (by decide) (q_var 0) (by rfl) m_isinstance (by rfl) m_bool (by decide +kernel)))))))) k_is_integer
theorem ok_is_natural {f : Addr} {fd : FuncData} (F : FnP K "is_natural" s_is_natural f fd) {f_is_integer : Addr} {fd_is_integer : FuncData} (T_is_integer : FT P w K mg base "is_integer" 1 ["value"] sp_is_integer f_is_integer fd_is_integer) : FnOk P w K mg base (L2.CX P w) 2 f fd ["value"] (LP K mg 1 sp_is_natural) := def_ok F sc_is_natural (fun cdv A outer s H E hr => by
  have nd := sc_is_natural.nd
  have hu := hr.units
  have hp := own_cx (P := P) (w := w) (K := K) (mg := mg) (base := base) (N := ["value"]) (qual := "is_natural") (scope := defScope s_is_natural) (f := f) (cd := cdv) (A := A) (outer := outer) (s := s) (H := H) (E := E)
  have hx := pass_cx (P := P) (w := w) (K := K) (mg := mg) (base := base) (N := ["value"]) (qual := "is_natural") (scope := defScope s_is_natural) (f := f) (cd := cdv) (A := A) (outer := outer) (s := s) (H := H) (E := E)
  exact (q_one1 (q_ret (q_andV (q_call T_is_integer.ok (hr.mono (by decide)) (by rfl) T_is_integer.hm T_is_integer.hk T_is_integer.hb hx (q_cons (q_var 0) q_nil)) (q_one (q_cmp o_ge (q_var 0) q_int)))))) k_is_natural
theorem ok_is_row_or_list {f : Addr} {fd : FuncData} (F : FnP K "is_row_or_list" s_is_row_or_list f fd) (m_isinstance : mg "isinstance" = none) (m_list : mg "list" = none) (m_tuple : mg "tuple" = none) : FnOk P w K mg base (L2.CX P w) 1 f fd ["value"] (LP K mg 1 sp_is_row_or_list) := def_ok F sc_is_row_or_list (fun cdv A outer s H E hr => by
  have nd := sc_is_row_or_list.nd
  have hu := hr.units
  have hp := own_cx (P := P) (w := w) (K := K) (mg := mg) (base := base) (N := ["value"]) (qual := "is_row_or_list") (scope := defScope s_is_row_or_list) (f := f) (cd := cdv) (A := A) (outer := outer) (s := s) (H := H) (E := E)
  have hx := pass_cx (P := P) (w := w) (K := K) (mg := mg) (base := base) (N := ["value"]) (qual := "is_row_or_list") (scope := defScope s_is_row_or_list) (f := f) (cd := cdv) (A := A) (outer := outer) (s := s) (H := H) (E := E)
  exact (q_one1 (q_ret (q_isi2 .list .tuple (by decide) (by decide) (q_var 0) (by rfl) m_isinstance (by rfl) m_list (by decide +kernel) (by rfl) m_tuple (by decide +kernel))))) k_is_row_or_list
theorem ok_sum_of_words {f : Addr} {fd : FuncData} (F : FnP K "sum_of_words" s_sum_of_words f fd) : FnOk P w K mg base (L2.CX P w) 1 f fd ["words"] (LP K mg 1 sp_sum_of_words) := def_ok F sc_sum_of_words (fun cdv A outer s H E hr => by
  have nd := sc_sum_of_words.nd
  have hu := hr.units
  have hp := own_cx (P := P) (w := w) (K := K) (mg := mg) (base := base) (N := ["words", "total", "word"]) (qual := "sum_of_words") (scope := defScope s_sum_of_words) (f := f) (cd := cdv) (A := A) (outer := outer) (s := s) (H := H) (E := E)
  have hx := pass_cx (P := P) (w := w) (K := K) (mg := mg) (base := base) (N := ["words", "total", "word"]) (qual := "sum_of_words") (scope := defScope s_sum_of_words) (f := f) (cd := cdv) (A := A) (outer := outer) (s := s) (H := H) (E := E)
  exact (q_scons (q_set (i := 1) nd q_int) (q_scons (q_for hp rfl (q_iSq (q_var 0)) (q_gnm (i := 2) nd) (q_one1 (q_set (i := 1) nd (q_op o_xor (q_var 1) (q_var 2))))) (q_one1 (q_ret (q_var 1)))))) k_sum_of_words
theorem ok_bits_of {f : Addr} {fd : FuncData} (F : FnP K "bits_of" s_bits_of f fd) (m_tuple : mg "tuple" = none) : FnOk P w K mg base (L2.CX P w) 1 f fd ["a"] (LP K mg 1 sp_bits_of) := def_ok F sc_bits_of (fun cdv A outer s H E hr => by
  have nd := sc_bits_of.nd
  have hu := hr.units
  have hp := own_cx (P := P) (w := w) (K := K) (mg := mg) (base := base) (N := ["a", "found", "place", "rest"]) (qual := "bits_of") (scope := defScope s_bits_of) (f := f) (cd := cdv) (A := A) (outer := outer) (s := s) (H := H) (E := E)
  have hx := pass_cx (P := P) (w := w) (K := K) (mg := mg) (base := base) (N := ["a", "found", "place", "rest"]) (qual := "bits_of") (scope := defScope s_bits_of) (f := f) (cd := cdv) (A := A) (outer := outer) (s := s) (H := H) (E := E)
  exact (q_scons (q_par3 (i := 1) (j := 2) (l := 3) rfl nd (q_cons (q_lst q_nil) (q_cons q_int (q_cons (q_var 0) q_nil)))) (q_scons (q_while hp (q_tcmp o_gt (q_var 3) q_int) (q_scons (q_if (q_tcmp (o_eq hu) (q_op o_mod (q_var 3) q_int) q_int) (q_one1 (q_expr (q_met PySem.F.slot_list_append PySem.F.type_list_append m_app (q_var 1) (q_cons (q_var 2) q_nil)))) q_snil) (q_one1 (q_par (i := 3) (j := 2) rfl nd (q_cons (q_op o_fdiv (q_var 3) q_int) (q_cons (q_op o_add (q_var 2) q_int) q_nil)))))) (q_one1 (q_ret (q_callTy c_tuple (by rfl) m_tuple boot_tuple (q_cons (q_var 1) q_nil))))))) k_bits_of
theorem ok_check_word {f : Addr} {fd : FuncData} (F : FnP K "check_word" s_check_word f fd) {f_is_natural : Addr} {fd_is_natural : FuncData} (T_is_natural : FT P w K mg base "is_natural" 2 ["value"] sp_is_natural f_is_natural fd_is_natural) : FnOk P w K mg base (L2.CX P w) 3 f fd ["a"] (LP K mg 1 sp_check_word) := def_ok F sc_check_word (fun cdv A outer s H E hr => by
  have nd := sc_check_word.nd
  have hu := hr.units
  have hp := own_cx (P := P) (w := w) (K := K) (mg := mg) (base := base) (N := ["a"]) (qual := "check_word") (scope := defScope s_check_word) (f := f) (cd := cdv) (A := A) (outer := outer) (s := s) (H := H) (E := E)
  have hx := pass_cx (P := P) (w := w) (K := K) (mg := mg) (base := base) (N := ["a"]) (qual := "check_word") (scope := defScope s_check_word) (f := f) (cd := cdv) (A := A) (outer := outer) (s := s) (H := H) (E := E)
  exact (q_one1 (q_if (q_not (q_tval (q_call T_is_natural.ok (hr.mono (by decide)) (by rfl) T_is_natural.hm T_is_natural.hk T_is_natural.hb hx (q_cons (q_var 0) q_nil)))) (q_one1 q_never) q_snil))) k_check_word
theorem ok_added {f : Addr} {fd : FuncData} (F : FnP K "added" s_added f fd) {f_check_word : Addr} {fd_check_word : FuncData} (T_check_word : FT P w K mg base "check_word" 3 ["a"] sp_check_word f_check_word fd_check_word) : FnOk P w K mg base (L2.CX P w) 4 f fd ["a", "b"] (LP K mg 2 sp_added) := def_ok F sc_added (fun cdv A outer s H E hr => by
  have nd := sc_added.nd
  have hu := hr.units
  have hp := own_cx (P := P) (w := w) (K := K) (mg := mg) (base := base) (N := ["a", "b"]) (qual := "added") (scope := defScope s_added) (f := f) (cd := cdv) (A := A) (outer := outer) (s := s) (H := H) (E := E)
  have hx := pass_cx (P := P) (w := w) (K := K) (mg := mg) (base := base) (N := ["a", "b"]) (qual := "added") (scope := defScope s_added) (f := f) (cd := cdv) (A := A) (outer := outer) (s := s) (H := H) (E := E)
  exact (q_scons (q_expr (q_call T_check_word.ok (hr.mono (by decide)) (by rfl) T_check_word.hm T_check_word.hk T_check_word.hb hx (q_cons (q_var 0) q_nil))) (q_scons (q_expr (q_call T_check_word.ok (hr.mono (by decide)) (by rfl) T_check_word.hm T_check_word.hk T_check_word.hb hx (q_cons (q_var 1) q_nil))) (q_one1 (q_ret (q_op o_xor (q_var 0) (q_var 1))))))) k_added
theorem ok_added_all {f : Addr} {fd : FuncData} (F : FnP K "added_all" s_added_all f fd) {f_is_row_or_list : Addr} {fd_is_row_or_list : FuncData} (T_is_row_or_list : FT P w K mg base "is_row_or_list" 1 ["value"] sp_is_row_or_list f_is_row_or_list fd_is_row_or_list) {f_is_natural : Addr} {fd_is_natural : FuncData} (T_is_natural : FT P w K mg base "is_natural" 2 ["value"] sp_is_natural f_is_natural fd_is_natural) {f_sum_of_words : Addr} {fd_sum_of_words : FuncData} (T_sum_of_words : FT P w K mg base "sum_of_words" 1 ["words"] sp_sum_of_words f_sum_of_words fd_sum_of_words) (m_all : mg "all" = none) : FnOk P w K mg base (L2.CX P w) 3 f fd ["some"] (LP K mg 1 sp_added_all) := def_ok F sc_added_all (fun cdv A outer s H E hr => by
  have nd := sc_added_all.nd
  have hu := hr.units
  have hp := own_cx (P := P) (w := w) (K := K) (mg := mg) (base := base) (N := ["some", "a"]) (qual := "added_all") (scope := defScope s_added_all) (f := f) (cd := cdv) (A := A) (outer := outer) (s := s) (H := H) (E := E)
  have hx := pass_cx (P := P) (w := w) (K := K) (mg := mg) (base := base) (N := ["some", "a"]) (qual := "added_all") (scope := defScope s_added_all) (f := f) (cd := cdv) (A := A) (outer := outer) (s := s) (H := H) (E := E)
  exact (q_scons (q_if (q_w (q_or (q_not (q_tval (q_call T_is_row_or_list.ok (hr.mono (by decide)) (by rfl) T_is_row_or_list.hm T_is_row_or_list.hk T_is_row_or_list.hb hx (q_cons (q_var 0) q_nil)))) (q_or1 (q_not (q_tval (q_callB (c_all rfl) (by rfl) m_all boot_all (q_cons (q_lc (own := [("a", 1)]) rfl nd (q_iSq (q_var 0)) (blkOk_by (by kernel_rfl)) (fun _ _ _ _ _ => (q_gnm (i := 1) nd)) (fun _ _ _ _ _ => q_tnil) (fun _ _ _ _ _ => (q_call T_is_natural.ok (hr.mono (by decide)) (by rfl) T_is_natural.hm T_is_natural.hk T_is_natural.hb passE0 (q_cons (q_var 1) q_nil)))) q_nil))))))) (q_one1 q_never) q_snil) (q_one1 (q_ret (q_call T_sum_of_words.ok (hr.mono (by decide)) (by rfl) T_sum_of_words.hm T_sum_of_words.hk T_sum_of_words.hb hx (q_cons (q_var 0) q_nil)))))) k_added_all
theorem ok_bits {f : Addr} {fd : FuncData} (F : FnP K "bits" s_bits f fd) {f_check_word : Addr} {fd_check_word : FuncData} (T_check_word : FT P w K mg base "check_word" 3 ["a"] sp_check_word f_check_word fd_check_word) {f_bits_of : Addr} {fd_bits_of : FuncData} (T_bits_of : FT P w K mg base "bits_of" 1 ["a"] sp_bits_of f_bits_of fd_bits_of) : FnOk P w K mg base (L2.CX P w) 4 f fd ["a"] (LP K mg 1 sp_bits) := def_ok F sc_bits (fun cdv A outer s H E hr => by
  have nd := sc_bits.nd
  have hu := hr.units
  have hp := own_cx (P := P) (w := w) (K := K) (mg := mg) (base := base) (N := ["a"]) (qual := "bits") (scope := defScope s_bits) (f := f) (cd := cdv) (A := A) (outer := outer) (s := s) (H := H) (E := E)
  have hx := pass_cx (P := P) (w := w) (K := K) (mg := mg) (base := base) (N := ["a"]) (qual := "bits") (scope := defScope s_bits) (f := f) (cd := cdv) (A := A) (outer := outer) (s := s) (H := H) (E := E)
  exact (q_scons (q_expr (q_call T_check_word.ok (hr.mono (by decide)) (by rfl) T_check_word.hm T_check_word.hk T_check_word.hb hx (q_cons (q_var 0) q_nil))) (q_one1 (q_ret (q_call T_bits_of.ok (hr.mono (by decide)) (by rfl) T_bits_of.hm T_bits_of.hk T_bits_of.hb hx (q_cons (q_var 0) q_nil)))))) k_bits
theorem ok__law_deck {f : Addr} {fd : FuncData} (F : FnP K "_law_deck" s__law_deck f fd) (m_len : mg "len" = none) (m_int : mg "int" = none) : FnOk P w K mg base (L2.CX P w) 1 f fd ["script", "at"] (LP K mg 2 sp__law_deck) := def_ok F sc__law_deck (fun cdv A outer s H E hr => by
  have nd := sc__law_deck.nd
  have hu := hr.units
  have hp := own_cx (P := P) (w := w) (K := K) (mg := mg) (base := base) (N := ["script", "at", "cell", "stir"]) (qual := "_law_deck") (scope := defScope s__law_deck) (f := f) (cd := cdv) (A := A) (outer := outer) (s := s) (H := H) (E := E)
  have hx := pass_cx (P := P) (w := w) (K := K) (mg := mg) (base := base) (N := ["script", "at", "cell", "stir"]) (qual := "_law_deck") (scope := defScope s__law_deck) (f := f) (cd := cdv) (A := A) (outer := outer) (s := s) (H := H) (E := E)
  exact (q_scons (q_set (i := 2) nd q_int) (q_scons (q_if (q_tcmp o_lt (q_var 1) (q_callB c_len (by rfl) m_len boot_len (q_cons (q_var 0) q_nil))) (q_one1 (q_set (i := 2) nd (q_ix (q_var 0) (q_var 1)))) q_snil) (q_scons (q_set (i := 3) nd (q_op o_mod (q_callTy c_int (by rfl) m_int boot_int (q_cons (q_op o_add (q_op o_add (q_var 2) (q_op o_mul q_int (q_var 1))) q_int) q_nil)) q_int)) (q_scons (q_set (i := 3) nd (q_op o_mod (q_callTy c_int (by rfl) m_int boot_int (q_cons (q_op o_add (q_op o_add (q_op o_mul (q_op o_mul (q_var 3) (q_var 3)) (q_var 3)) (q_op o_mul q_int (q_var 1))) q_int) q_nil)) q_int)) (q_scons (q_if (q_tcmp o_lt (q_var 2) (q_op o_pow q_int q_int)) (q_one1 (q_ret (q_lst (q_cons q_int (q_cons (q_var 3) q_nil))))) q_snil) (q_one1 (q_ret (q_lst (q_cons (q_op o_sub (q_var 2) (q_op o_pow q_int q_int)) (q_cons (q_var 3) q_nil))))))))))) k__law_deck
theorem ok__law_take {f : Addr} {fd : FuncData} (F : FnP K "_law_take" s__law_take f fd) (m_int : mg "int" = none) : FnOk P w K mg base (L2.CX P w) 1 f fd ["deck", "many"] (LP K mg 2 sp__law_take) := def_ok F sc__law_take (fun cdv A outer s H E hr => by
  have nd := sc__law_take.nd
  have hu := hr.units
  have hp := own_cx (P := P) (w := w) (K := K) (mg := mg) (base := base) (N := ["deck", "many", "taken"]) (qual := "_law_take") (scope := defScope s__law_take) (f := f) (cd := cdv) (A := A) (outer := outer) (s := s) (H := H) (E := E)
  have hx := pass_cx (P := P) (w := w) (K := K) (mg := mg) (base := base) (N := ["deck", "many", "taken"]) (qual := "_law_take") (scope := defScope s__law_take) (f := f) (cd := cdv) (A := A) (outer := outer) (s := s) (H := H) (E := E)
  exact (q_scons (q_if (q_tcmp o_gt (q_ix (q_var 0) q_int) q_int) (q_scons (q_set (i := 2) nd (q_op o_mod (q_callTy c_int (by rfl) m_int boot_int (q_cons (q_ix (q_var 0) q_int) q_nil)) (q_var 1))) (q_scons (q_asg (q_op o_fdiv (q_ix (q_var 0) q_int) (q_var 1)) (q_gsb (q_var 0) q_int)) (q_one1 (q_ret (q_var 2))))) q_snil) (q_scons (q_asg (q_op o_mod (q_callTy c_int (by rfl) m_int boot_int (q_cons (q_op o_add (q_op o_mul (q_ix (q_var 0) q_int) q_int) q_int) q_nil)) (q_op o_pow q_int q_int)) (q_gsb (q_var 0) q_int)) (q_one1 (q_ret (q_op o_mod (q_op o_fdiv (q_ix (q_var 0) q_int) (q_op o_pow q_int q_int)) (q_var 1))))))) k__law_take
theorem one__law_same {f : Addr} {fd : FuncData} (F : FnP K "_law_same" s__law_same f fd) (m_isinstance : mg "isinstance" = none) (m_tuple : mg "tuple" = none) (m_list : mg "list" = none) (m_len : mg "len" = none) (m_range : mg "range" = none) (m_str : mg "str" = none) (m_bool : mg "bool" = none) (m_int : mg "int" = none) {j : Nat} {r q : SpD} (hj : 0 ≤ j) (T__law_same : FT P w K mg base "_law_same" j ["found", "due"] r f fd) (hk : Keeps 2 3 (t__law_same r) q) : FnOk P w K mg base (L2.CX P w) (j + 1) f fd ["found", "due"] (LP K mg 2 q) := def_ok F sc__law_same (fun cdv A outer s H E hr => by
  have nd := sc__law_same.nd
  have hu := hr.units
  have hp := own_cx (P := P) (w := w) (K := K) (mg := mg) (base := base) (N := ["found", "due", "at"]) (qual := "_law_same") (scope := defScope s__law_same) (f := f) (cd := cdv) (A := A) (outer := outer) (s := s) (H := H) (E := E)
  have hx := pass_cx (P := P) (w := w) (K := K) (mg := mg) (base := base) (N := ["found", "due", "at"]) (qual := "_law_same") (scope := defScope s__law_same) (f := f) (cd := cdv) (A := A) (outer := outer) (s := s) (H := H) (E := E)
  exact (q_scons (q_if (q_tval (q_isi2 .tuple .list (by decide) (by decide) (q_var 1) (by rfl) m_isinstance (by rfl) m_tuple (by decide +kernel) (by rfl) m_list (by decide +kernel))) (q_scons (q_if (q_w (q_or (q_tcmp (o_ne hu) (q_isi .tuple (by decide) (q_var 0) (by rfl) m_isinstance (by rfl) m_tuple (by decide +kernel)) (q_isi .tuple (by decide) (q_var 1) (by rfl) m_isinstance (by rfl) m_tuple (by decide +kernel))) (q_or1 (q_tcmp (o_ne hu) (q_isi .list (by decide) (q_var 0) (by rfl) m_isinstance (by rfl) m_list (by decide +kernel)) (q_isi .list (by decide) (q_var 1) (by rfl) m_isinstance (by rfl) m_list (by decide +kernel)))))) (q_one1 (q_ret q_bl)) q_snil) (q_scons (q_if (q_tcmp (o_ne hu) (q_callB c_len (by rfl) m_len boot_len (q_cons (q_var 0) q_nil)) (q_callB c_len (by rfl) m_len boot_len (q_cons (q_var 1) q_nil))) (q_one1 (q_ret q_bl)) q_snil) (q_one1 (q_ret (q_cmp (o_eq hu) (q_lc (own := [("at", 2)]) rfl nd (q_rg1 (by rfl) m_range (q_cons (q_callB c_len (by rfl) m_len boot_len (q_cons (q_var 1) q_nil)) q_nil)) (blkOk_by (by kernel_rfl)) (fun _ _ _ _ _ => (q_gnm (i := 2) nd)) (fun _ _ _ _ _ => (q_tone (q_not (q_tval (q_call T__law_same.ok (hr.mono (Nat.le_refl _)) (by rfl) T__law_same.hm T__law_same.hk T__law_same.hb passE0 (q_cons (q_ix (q_var 0) (q_var 2)) (q_cons (q_ix (q_var 1) (q_var 2)) q_nil))))))) (fun _ _ _ _ _ => (q_var 2))) (q_lst q_nil)))))) q_snil) (q_scons (q_if (q_tcmp o_is (q_var 1) q_non) (q_one1 (q_ret (q_cmp o_is (q_var 0) q_non))) q_snil) (q_scons (q_if (q_tval (q_isi .str (by decide) (q_var 1) (by rfl) m_isinstance (by rfl) m_str (by decide +kernel))) (q_one1 (q_ret (q_andV (q_isi .str (by decide) (q_var 0) (by rfl) m_isinstance (by rfl) m_str (by decide +kernel)) (q_one (q_cmp (o_eq hu) (q_var 0) (q_var 1)))))) q_snil) (q_scons (q_if (q_w (q_or (q_tval (q_isi .bool (by decide) (q_var 1) (by rfl) m_isinstance (by rfl) m_bool (by decide +kernel))) (q_or1 (q_tval (q_isi .bool (by decide) (q_var 0) (by rfl) m_isinstance (by rfl) m_bool (by decide +kernel)))))) (q_one1 (q_ret (q_andV (q_isi .bool (by decide) (q_var 1) (by rfl) m_isinstance (by rfl) m_bool (by decide +kernel)) (q_andV (q_isi .bool (by decide) (q_var 0) (by rfl) m_isinstance (by rfl) m_bool (by decide +kernel)) (q_one (q_cmp (o_eq hu) (q_var 0) (q_var 1))))))) q_snil) (q_one1 (q_ret (q_andV (q_isi .int (by decide) (q_var 0) (by rfl) m_isinstance (by rfl) m_int (by decide +kernel)) (q_one (q_cmp (o_eq hu) (q_var 0) (q_var 1))))))))))) hk
theorem ok__law_same {f : Addr} {fd : FuncData} (F : FnP K "_law_same" s__law_same f fd) (hm : mg "_law_same" = some (.ref f)) (hb : Binds K fd ["found", "due"] []) (m_isinstance : mg "isinstance" = none) (m_tuple : mg "tuple" = none) (m_list : mg "list" = none) (m_len : mg "len" = none) (m_range : mg "range" = none) (m_str : mg "str" = none) (m_bool : mg "bool" = none) (m_int : mg "int" = none) : FnOk P w K mg base (L2.CX P w) 9 f fd ["found", "due"] (LP K mg 2 sp__law_same) := by
  have step : ∀ n : Nat, FnOk P w K mg base (L2.CX P w) (0 + n) f fd ["found", "due"] (LP K mg 2 (spr__law_same n)) := by
    intro n
    induction n with
    | zero => exact ⟨fun vs H Q E h => h.1, fun A outer s H args us vs Q E hr e0 hb hv h => (by obtain ⟨_, _, _, _, _, _, _, _, q, _⟩ := h; exact (spr__law_same_zero q).elim)⟩
    | succ n ih => exact one__law_same F m_isinstance m_tuple m_list m_len m_range m_str m_bool m_int (j := 0 + n) (by omega) ⟨ih, hm, F.kp, hb⟩ (k__law_same n)
  exact (step 9).imp fun vs H Q E h => h
theorem ok__law_word {f : Addr} {fd : FuncData} (F : FnP K "_law_word" s__law_word f fd) {f__law_take : Addr} {fd__law_take : FuncData} (T__law_take : FT P w K mg base "_law_take" 1 ["deck", "many"] sp__law_take f__law_take fd__law_take) (m_range : mg "range" = none) : FnOk P w K mg base (L2.CX P w) 2 f fd ["deck", "most"] (LP K mg 2 sp__law_word) := def_ok F sc__law_word (fun cdv A outer s H E hr => by
  have nd := sc__law_word.nd
  have hu := hr.units
  have hp := own_cx (P := P) (w := w) (K := K) (mg := mg) (base := base) (N := ["deck", "most", "wide", "found", "power", "turn"]) (qual := "_law_word") (scope := defScope s__law_word) (f := f) (cd := cdv) (A := A) (outer := outer) (s := s) (H := H) (E := E)
  have hx := pass_cx (P := P) (w := w) (K := K) (mg := mg) (base := base) (N := ["deck", "most", "wide", "found", "power", "turn"]) (qual := "_law_word") (scope := defScope s__law_word) (f := f) (cd := cdv) (A := A) (outer := outer) (s := s) (H := H) (E := E)
  exact (q_scons (q_par3 (i := 2) (j := 3) (l := 4) rfl nd (q_cons (q_call T__law_take.ok (hr.mono (by decide)) (by rfl) T__law_take.hm T__law_take.hk T__law_take.hb hx (q_cons (q_var 0) (q_cons (q_op o_add (q_var 1) q_int) q_nil))) (q_cons q_int (q_cons q_int q_nil)))) (q_scons (q_for hp rfl (q_rg1 (by rfl) m_range (q_cons (q_var 2) q_nil)) (q_gnm (i := 5) nd) (q_scons (q_set (i := 3) nd (q_op o_add (q_var 3) (q_op o_mul (q_var 4) (q_call T__law_take.ok (hr.mono (by decide)) (by rfl) T__law_take.hm T__law_take.hk T__law_take.hb hx (q_cons (q_var 0) (q_cons q_int q_nil)))))) (q_one1 (q_set (i := 4) nd (q_op o_mul q_int (q_var 4)))))) (q_one1 (q_ret (q_ix (q_lst (q_cons (q_var 3) (q_cons (q_var 3) (q_cons (q_var 4) (q_cons (q_op o_sub (q_var 4) q_int) (q_cons (q_op o_add (q_var 4) q_int) q_nil)))))) (q_call T__law_take.ok (hr.mono (by decide)) (by rfl) T__law_take.hm T__law_take.hk T__law_take.hb hx (q_cons (q_var 0) (q_cons q_int q_nil))))))))) k__law_word
theorem ok__law_sum {f : Addr} {fd : FuncData} (F : FnP K "_law_sum" s__law_sum f fd) (m_int : mg "int" = none) : FnOk P w K mg base (L2.CX P w) 1 f fd ["a_word", "b_word"] (LP K mg 2 sp__law_sum) := def_ok F sc__law_sum (fun cdv A outer s H E hr => by
  have nd := sc__law_sum.nd
  have hu := hr.units
  have hp := own_cx (P := P) (w := w) (K := K) (mg := mg) (base := base) (N := ["a_word", "b_word", "found", "power"]) (qual := "_law_sum") (scope := defScope s__law_sum) (f := f) (cd := cdv) (A := A) (outer := outer) (s := s) (H := H) (E := E)
  have hx := pass_cx (P := P) (w := w) (K := K) (mg := mg) (base := base) (N := ["a_word", "b_word", "found", "power"]) (qual := "_law_sum") (scope := defScope s__law_sum) (f := f) (cd := cdv) (A := A) (outer := outer) (s := s) (H := H) (E := E)
  exact (q_scons (q_asg (q_tup (q_cons q_int (q_cons q_int q_nil))) (q_gtp rfl (q_gscons (q_gnm (i := 2) nd) (q_gscons (q_gnm (i := 3) nd) q_gsnil))).p) (q_scons (q_while hp (q_w (q_or (q_tcmp o_gt (q_var 0) q_int) (q_or1 (q_tcmp o_gt (q_var 1) q_int)))) (q_scons (q_set (i := 2) nd (q_op o_add (q_var 2) (q_op o_mul (q_var 3) (q_callTy c_int (by rfl) m_int boot_int (q_cons (q_cmp (o_ne hu) (q_op o_mod (q_callTy c_int (by rfl) m_int boot_int (q_cons (q_var 0) q_nil)) q_int) (q_op o_mod (q_callTy c_int (by rfl) m_int boot_int (q_cons (q_var 1) q_nil)) q_int)) q_nil))))) (q_one1 (q_par3 (i := 0) (j := 1) (l := 3) rfl nd (q_cons (q_op o_fdiv (q_var 0) q_int) (q_cons (q_op o_fdiv (q_var 1) q_int) (q_cons (q_op o_mul q_int (q_var 3)) q_nil))))))) (q_one1 (q_ret (q_var 2)))))) k__law_sum
theorem ok__law_right {f : Addr} {fd : FuncData} (F : FnP K "_law_right" s__law_right f fd) {f__law_take : Addr} {fd__law_take : FuncData} (T__law_take : FT P w K mg base "_law_take" 1 ["deck", "many"] sp__law_take f__law_take fd__law_take) {f__law_word : Addr} {fd__law_word : FuncData} (T__law_word : FT P w K mg base "_law_word" 2 ["deck", "most"] sp__law_word f__law_word fd__law_word) {f__law_sum : Addr} {fd__law_sum : FuncData} (T__law_sum : FT P w K mg base "_law_sum" 1 ["a_word", "b_word"] sp__law_sum f__law_sum fd__law_sum) {f_added_all : Addr} {fd_added_all : FuncData} (T_added_all : FT P w K mg base "added_all" 3 ["some"] sp_added_all f_added_all fd_added_all) {f__law_same : Addr} {fd__law_same : FuncData} (T__law_same : FT P w K mg base "_law_same" 9 ["found", "due"] sp__law_same f__law_same fd__law_same) {f_bits : Addr} {fd_bits : FuncData} (T_bits : FT P w K mg base "bits" 4 ["a"] sp_bits f_bits fd_bits) {f_added : Addr} {fd_added : FuncData} (T_added : FT P w K mg base "added" 4 ["a", "b"] sp_added f_added fd_added) (m_range : mg "range" = none) (m_len : mg "len" = none) (m_repr : mg "repr" = none) (m_sorted : mg "sorted" = none) (m_tuple : mg "tuple" = none) (m_sum : mg "sum" = none) (m_int : mg "int" = none) (kb_added_all_0_some : KB K fd_added_all ["some"] 0 ["some"] [0]) : FnG P w K mg base 10 f fd ["deck"] (LP K mg 1 sp__law_right) := def_okG F sc__law_right (fun cdv A outer s H E hG hr => by
  have nd := sc__law_right.nd
  have hu := hr.units
  have hp := own_cx (P := P) (w := w) (K := K) (mg := mg) (base := base) (N := ["deck", "many", "words", "turn", "due", "kept", "word", "found", "twice", "odd", "at"]) (qual := "_law_right") (scope := defScope s__law_right) (f := f) (cd := cdv) (A := A) (outer := outer) (s := s) (H := H) (E := E)
  have hx := pass_cx (P := P) (w := w) (K := K) (mg := mg) (base := base) (N := ["deck", "many", "words", "turn", "due", "kept", "word", "found", "twice", "odd", "at"]) (qual := "_law_right") (scope := defScope s__law_right) (f := f) (cd := cdv) (A := A) (outer := outer) (s := s) (H := H) (E := E)
  exact (q_scons (q_set (i := 1) nd (q_call T__law_take.ok (hr.mono (by decide)) (by rfl) T__law_take.hm T__law_take.hk T__law_take.hb hx (q_cons (q_var 0) (q_cons (q_ix (q_lst (q_cons q_int (q_cons q_int (q_cons q_int q_nil)))) (q_call T__law_take.ok (hr.mono (by decide)) (by rfl) T__law_take.hm T__law_take.hk T__law_take.hb hx (q_cons (q_var 0) (q_cons q_int q_nil)))) q_nil)))) (q_scons (q_setLc (i := 2) (own := [("turn", 3)]) rfl nd (q_rg1 (by rfl) m_range (q_cons (q_var 1) q_nil)) (blkOk_by (by kernel_rfl)) (fun _ _ _ _ _ => (q_gnm (i := 3) nd)) (fun _ _ _ _ _ => q_tnil) (fun _ _ _ _ _ => (q_call T__law_word.ok (hr.mono (by decide)) (by rfl) T__law_word.hm T__law_word.hk T__law_word.hb passE0 (q_cons (q_var 0) (q_cons (q_ix (q_lst (q_cons q_int (q_cons q_int q_nil))) (q_call T__law_take.ok (hr.mono (by decide)) (by rfl) T__law_take.hm T__law_take.hk T__law_take.hb passE0 (q_cons (q_var 0) (q_cons q_int q_nil)))) q_nil)))) (sw_true rfl rfl rfl (by decide +kernel))) (q_scons (q_for hp rfl (q_rg1 (by rfl) m_range (q_cons (q_call T__law_take.ok (hr.mono (by decide)) (by rfl) T__law_take.hm T__law_take.hk T__law_take.hb hx (q_cons (q_var 0) (q_cons q_int q_nil))) q_nil)) (q_gnm (i := 3) nd) (q_one1 (q_if (q_w (q_and (q_tcmp (o_ne hu) (q_var 2) (q_lst q_nil)) (q_and1 (q_tcmp o_lt (q_callB c_len (by rfl) m_len boot_len (q_cons (q_var 2) q_nil)) q_int)))) (q_one1 (q_expr (q_met PySem.F.slot_list_insert PySem.F.type_list_insert m_ins (q_var 2) (q_cons (q_call T__law_take.ok (hr.mono (by decide)) (by rfl) T__law_take.hm T__law_take.hk T__law_take.hb hx (q_cons (q_var 0) (q_cons (q_op o_add (q_callB c_len (by rfl) m_len boot_len (q_cons (q_var 2) q_nil)) q_int) q_nil))) (q_cons (q_ix (q_var 2) (q_call T__law_take.ok (hr.mono (by decide)) (by rfl) T__law_take.hm T__law_take.hk T__law_take.hb hx (q_cons (q_var 0) (q_cons (q_callB c_len (by rfl) m_len boot_len (q_cons (q_var 2) q_nil)) q_nil)))) q_nil))))) q_snil))) (q_scons (q_par (i := 4) (j := 5) rfl nd (q_cons q_int (q_cons (q_callB (c_repr hG hr) (by rfl) m_repr PyProof.Rows.boot_repr (q_cons (q_var 2) q_nil)) q_nil))) (q_scons (q_for hp rfl (q_iSq (q_var 2)) (q_gnm (i := 6) nd) (q_one1 (q_set (i := 4) nd (q_call T__law_sum.ok (hr.mono (by decide)) (by rfl) T__law_sum.hm T__law_sum.hk T__law_sum.hb hx (q_cons (q_var 4) (q_cons (q_var 6) q_nil)))))) (q_scons (q_set (i := 7) nd (q_lst (q_cons (q_call T_added_all.ok (hr.mono (by decide)) (by rfl) T_added_all.hm T_added_all.hk T_added_all.hb hx (q_cons (q_var 2) q_nil)) (q_cons (q_callK0 T_added_all.ok (hr.mono (by decide)) (by rfl) T_added_all.hm T_added_all.hk kb_added_all_0_some hx (q_kcons (q_callTy c_tuple (by rfl) m_tuple boot_tuple (q_cons (q_var 2) q_nil)) q_knil)) (q_cons (q_call T_added_all.ok (hr.mono (by decide)) (by rfl) T_added_all.hm T_added_all.hk T_added_all.hb hx (q_cons (q_revL (q_var 2)) q_nil)) (q_cons (q_call T_added_all.ok (hr.mono (by decide)) (by rfl) T_added_all.hm T_added_all.hk T_added_all.hb hx (q_cons (q_callB c_sorted (by rfl) m_sorted boot_sorted (q_cons (q_var 2) q_nil)) q_nil)) q_nil)))))) (q_scons (q_if (q_w (q_or (q_not (q_tval (q_call T__law_same.ok (hr.mono (by decide)) (by rfl) T__law_same.hm T__law_same.hk T__law_same.hb hx (q_cons (q_var 7) (q_cons (q_op o_mul (q_lst (q_cons (q_var 4) q_nil)) q_int) q_nil))))) (q_or1 (q_tcmp (o_ne hu) (q_callB (c_repr hG hr) (by rfl) m_repr PyProof.Rows.boot_repr (q_cons (q_var 2) q_nil)) (q_var 5))))) (q_one1 (q_ret q_bl)) q_snil) (q_scons (q_set (i := 8) nd (q_call T__law_word.ok (hr.mono (by decide)) (by rfl) T__law_word.hm T__law_word.hk T__law_word.hb hx (q_cons (q_var 0) (q_cons q_int q_nil)))) (q_scons (q_if (q_not (q_tval (q_call T__law_same.ok (hr.mono (by decide)) (by rfl) T__law_same.hm T__law_same.hk T__law_same.hb hx (q_cons (q_lst (q_cons (q_call T_added_all.ok (hr.mono (by decide)) (by rfl) T_added_all.hm T_added_all.hk T_added_all.hb hx (q_cons (q_op o_add (q_op o_add (q_lst (q_cons (q_var 8) q_nil)) (q_var 2)) (q_lst (q_cons (q_var 8) q_nil))) q_nil)) (q_cons (q_call T_added_all.ok (hr.mono (by decide)) (by rfl) T_added_all.hm T_added_all.hk T_added_all.hb hx (q_cons (q_op o_add (q_var 2) (q_var 2)) q_nil)) q_nil))) (q_cons (q_lst (q_cons (q_var 4) (q_cons q_int q_nil))) q_nil))))) (q_one1 (q_ret q_bl)) q_snil) (q_scons (q_set (i := 9) nd (q_lst q_nil)) (q_scons (q_for hp rfl (q_rg1 (by rfl) m_range (q_cons q_int q_nil)) (q_gnm (i := 10) nd) (q_scons (q_set (i := 1) nd (q_callB (c_sum rfl) (by rfl) m_sum boot_sum (q_cons (q_lc (own := [("word", 6)]) rfl nd (q_iSq (q_var 2)) (blkOk_by (by kernel_rfl)) (fun _ _ _ _ _ => (q_gnm (i := 6) nd)) (fun _ _ _ _ _ => q_tnil) (fun _ _ _ _ _ => (q_op o_mod (q_callTy c_int (by rfl) m_int boot_int (q_cons (q_var 6) q_nil)) q_int))) q_nil))) (q_scons (q_setLc (i := 2) (own := [("word", 6)]) rfl nd (q_iSq (q_var 2)) (blkOk_by (by kernel_rfl)) (fun _ _ _ _ _ => (q_gnm (i := 6) nd)) (fun _ _ _ _ _ => q_tnil) (fun _ _ _ _ _ => (q_op o_fdiv (q_var 6) q_int)) (sw_true rfl rfl rfl (by decide +kernel))) (q_one1 (q_if (q_tcmp (o_eq hu) (q_op o_mod (q_callTy c_int (by rfl) m_int boot_int (q_cons (q_var 1) q_nil)) q_int) q_int) (q_one1 (q_expr (q_met PySem.F.slot_list_append PySem.F.type_list_append m_app (q_var 9) (q_cons (q_var 10) q_nil)))) q_snil))))) (q_scons (q_if (q_not (q_tval (q_call T__law_same.ok (hr.mono (by decide)) (by rfl) T__law_same.hm T__law_same.hk T__law_same.hb hx (q_cons (q_call T_bits.ok (hr.mono (by decide)) (by rfl) T_bits.hm T_bits.hk T_bits.hb hx (q_cons (q_var 4) q_nil)) (q_cons (q_callTy c_tuple (by rfl) m_tuple boot_tuple (q_cons (q_var 9) q_nil)) q_nil))))) (q_one1 (q_ret q_bl)) q_snil) (q_one1 (q_ret (q_call T__law_same.ok (hr.mono (by decide)) (by rfl) T__law_same.hm T__law_same.hk T__law_same.hb hx (q_cons (q_lst (q_cons (q_call T_added_all.ok (hr.mono (by decide)) (by rfl) T_added_all.hm T_added_all.hk T_added_all.hb hx (q_cons (q_lst q_nil) q_nil)) (q_cons (q_call T_added_all.ok (hr.mono (by decide)) (by rfl) T_added_all.hm T_added_all.hk T_added_all.hb hx (q_cons (q_tup q_nil) q_nil)) (q_cons (q_call T_added.ok (hr.mono (by decide)) (by rfl) T_added.hm T_added.hk T_added.hb hx (q_cons (q_var 4) (q_cons q_int q_nil))) (q_cons (q_call T_added_all.ok (hr.mono (by decide)) (by rfl) T_added_all.hm T_added_all.hk T_added_all.hb hx (q_cons (q_lst (q_cons (q_var 4) q_nil)) q_nil)) q_nil))))) (q_cons (q_lst (q_cons q_int (q_cons q_int (q_cons (q_var 4) (q_cons (q_var 4) q_nil))))) q_nil)))))))))))))))))) k__law_right
theorem ok_law {f : Addr} {fd : FuncData} (F : FnP K "law" s_law f fd) {f__law_right : Addr} {fd__law_right : FuncData} (T__law_right : FTG P w K mg base "_law_right" 10 ["deck"] sp__law_right f__law_right fd__law_right) {f__law_deck : Addr} {fd__law_deck : FuncData} (T__law_deck : FT P w K mg base "_law_deck" 1 ["script", "at"] sp__law_deck f__law_deck fd__law_deck) (m_range : mg "range" = none) (m_max : mg "max" = none) (m_min : mg "min" = none) (m_len : mg "len" = none) : FnG P w K mg base 11 f fd ["script"] (LP K mg 1 sp_law) := def_okG F sc_law (fun cdv A outer s H E hG hr => by
  have nd := sc_law.nd
  have hu := hr.units
  have hp := own_cx (P := P) (w := w) (K := K) (mg := mg) (base := base) (N := ["script", "at"]) (qual := "law") (scope := defScope s_law) (f := f) (cd := cdv) (A := A) (outer := outer) (s := s) (H := H) (E := E)
  have hx := pass_cx (P := P) (w := w) (K := K) (mg := mg) (base := base) (N := ["script", "at"]) (qual := "law") (scope := defScope s_law) (f := f) (cd := cdv) (A := A) (outer := outer) (s := s) (H := H) (E := E)
  exact (q_scons (q_for hp rfl (q_rg1 (by rfl) m_range (q_cons (q_callB (c_max rfl) (by rfl) m_max boot_max (q_cons q_int (q_cons (q_callB (c_min rfl) (by rfl) m_min boot_min (q_cons (q_callB c_len (by rfl) m_len boot_len (q_cons (q_var 0) q_nil)) (q_cons q_int q_nil))) q_nil))) q_nil)) (q_gnm (i := 1) nd) (q_one1 (q_if (q_not (q_tval (q_callG hG T__law_right.ok (hr.mono (by decide)) (by rfl) T__law_right.hm T__law_right.hk T__law_right.hb hx (q_cons (q_call T__law_deck.ok (hr.mono (by decide)) (by rfl) T__law_deck.hm T__law_deck.hk T__law_deck.hb hx (q_cons (q_var 0) (q_cons (q_var 1) q_nil))) q_nil)))) (q_one1 (q_ret q_bl)) q_snil))) (q_one1 (q_ret q_bl)))) k_law
end
def d_is_integer : He.DefD := ⟨("is_integer", none), "is_integer", "is_integer", defArgs s_is_integer, defBody s_is_integer, defScope s_is_integer, [], []⟩
def d_is_natural : He.DefD := ⟨("is_natural", none), "is_natural", "is_natural", defArgs s_is_natural, defBody s_is_natural, defScope s_is_natural, [], []⟩
def d_is_row_or_list : He.DefD := ⟨("is_row_or_list", none), "is_row_or_list", "is_row_or_list", defArgs s_is_row_or_list, defBody s_is_row_or_list, defScope s_is_row_or_list, [], []⟩
def d_sum_of_words : He.DefD := ⟨("sum_of_words", none), "sum_of_words", "sum_of_words", defArgs s_sum_of_words, defBody s_sum_of_words, defScope s_sum_of_words, [], []⟩
def d_bits_of : He.DefD := ⟨("bits_of", none), "bits_of", "bits_of", defArgs s_bits_of, defBody s_bits_of, defScope s_bits_of, [], []⟩
def d_check_word : He.DefD := ⟨("check_word", none), "check_word", "check_word", defArgs s_check_word, defBody s_check_word, defScope s_check_word, [], []⟩
def d_added : He.DefD := ⟨("added", none), "added", "added", defArgs s_added, defBody s_added, defScope s_added, [], []⟩
def d_added_all : He.DefD := ⟨("added_all", none), "added_all", "added_all", defArgs s_added_all, defBody s_added_all, defScope s_added_all, [], []⟩
def d_bits : He.DefD := ⟨("bits", none), "bits", "bits", defArgs s_bits, defBody s_bits, defScope s_bits, [], []⟩
def d__law_deck : He.DefD := ⟨("_law_deck", none), "_law_deck", "_law_deck", defArgs s__law_deck, defBody s__law_deck, defScope s__law_deck, [], []⟩
def d__law_take : He.DefD := ⟨("_law_take", none), "_law_take", "_law_take", defArgs s__law_take, defBody s__law_take, defScope s__law_take, [], []⟩
def d__law_same : He.DefD := ⟨("_law_same", none), "_law_same", "_law_same", defArgs s__law_same, defBody s__law_same, defScope s__law_same, [], []⟩
def d__law_word : He.DefD := ⟨("_law_word", none), "_law_word", "_law_word", defArgs s__law_word, defBody s__law_word, defScope s__law_word, [], []⟩
def d__law_sum : He.DefD := ⟨("_law_sum", none), "_law_sum", "_law_sum", defArgs s__law_sum, defBody s__law_sum, defScope s__law_sum, [], []⟩
def d__law_right : He.DefD := ⟨("_law_right", none), "_law_right", "_law_right", defArgs s__law_right, defBody s__law_right, defScope s__law_right, [], []⟩
def d_law : He.DefD := ⟨("law", none), "law", "law", defArgs s_law, defBody s_law, defScope s_law, [], []⟩
def fn : List He.DefD := [d_is_integer, d_is_natural, d_is_row_or_list, d_sum_of_words, d_bits_of, d_check_word, d_added, d_added_all, d_bits, d__law_deck, d__law_take, d__law_same, d__law_word, d__law_sum, d__law_right, d_law]
def fa : List He.Fa := [.glo "is_integer", .glo "is_natural", .glo "is_row_or_list", .glo "sum_of_words", .glo "bits_of", .glo "check_word", .glo "added", .glo "added_all", .glo "bits", .glo "_law_deck", .glo "_law_take", .glo "_law_same", .glo "_law_word", .glo "_law_sum", .glo "_law_right", .glo "law", .free "isinstance", .free "int", .free "bool", .free "list", .free "tuple", .free "all", .free "len", .free "range", .free "str", .free "repr", .free "sorted", .free "sum", .free "max", .free "min"]
def bf : List (Str × Value) := []
abbrev R : PySem.W.OpenRow := PySem.W.OpenLaw.row PySem.Challenge.rw_keytellers_k02_whole_sums_of_words
abbrev hk : PySem.W.Hook := hookB 4 bf fa fn
def ob (s : PySem.W.SharedT) : AlB := obsBG 4 bf fa fn (HandSHeadRun.getT s)
theorem ob_eq (s : PySem.W.SharedT) : ob s = hk.obs s.abs := obsBG_eq (HandSHeadRun.getT_eq s)
def loose0 : List Str := ["TellError", "InvalidWord", "is_integer", "is_natural", "is_row_or_list", "sum_of_words", "bits_of", "check_word", "added", "added_all", "bits", "_law_deck", "_law_take", "_law_same", "_law_word", "_law_sum", "_law_right"]
abbrev loose : List Str := loose0
theorem run (w : World) : HandSHeadRun.RunEq R (PySem.W.view R.prog [21]) hk ob 2000 loose w := by
  intro os
  kernel_rfl
theorem facts {P : Program} {w : World} {K : PySem.W.Frag} {h : Heap} {mg : Str → Option Value} {f : Addr} (X : K.In h) (G : h.Ns mainGlobals mg) (hfa : mg ("law" : Str) = some (.ref f)) (cb : SaysB bf fa fn K) :
    ∃ fd : FuncData, (∀ (s : Shared) (v : Value), BindsTo s fd ⟨[v], []⟩ [("script", v)]) ∧ ∀ base : Heap, K.In base → base.Ns mainGlobals mg → FnG P w K mg base 11 f fd ["script"] (LP K mg 1 sp_law) := by
  have c := cb.2
  obtain ⟨fd_is_integer, F_is_integer⟩ := c.def_ 0 (d := d_is_integer) rfl
  have hm_is_integer := He.glo_ok X G (c.fact 0 (f := .glo "is_integer") rfl)
  obtain ⟨fd_is_natural, F_is_natural⟩ := c.def_ 1 (d := d_is_natural) rfl
  have hm_is_natural := He.glo_ok X G (c.fact 1 (f := .glo "is_natural") rfl)
  obtain ⟨fd_is_row_or_list, F_is_row_or_list⟩ := c.def_ 2 (d := d_is_row_or_list) rfl
  have hm_is_row_or_list := He.glo_ok X G (c.fact 2 (f := .glo "is_row_or_list") rfl)
  obtain ⟨fd_sum_of_words, F_sum_of_words⟩ := c.def_ 3 (d := d_sum_of_words) rfl
  have hm_sum_of_words := He.glo_ok X G (c.fact 3 (f := .glo "sum_of_words") rfl)
  obtain ⟨fd_bits_of, F_bits_of⟩ := c.def_ 4 (d := d_bits_of) rfl
  have hm_bits_of := He.glo_ok X G (c.fact 4 (f := .glo "bits_of") rfl)
  obtain ⟨fd_check_word, F_check_word⟩ := c.def_ 5 (d := d_check_word) rfl
  have hm_check_word := He.glo_ok X G (c.fact 5 (f := .glo "check_word") rfl)
  obtain ⟨fd_added, F_added⟩ := c.def_ 6 (d := d_added) rfl
  have hm_added := He.glo_ok X G (c.fact 6 (f := .glo "added") rfl)
  obtain ⟨fd_added_all, F_added_all⟩ := c.def_ 7 (d := d_added_all) rfl
  have hm_added_all := He.glo_ok X G (c.fact 7 (f := .glo "added_all") rfl)
  obtain ⟨fd_bits, F_bits⟩ := c.def_ 8 (d := d_bits) rfl
  have hm_bits := He.glo_ok X G (c.fact 8 (f := .glo "bits") rfl)
  obtain ⟨fd__law_deck, F__law_deck⟩ := c.def_ 9 (d := d__law_deck) rfl
  have hm__law_deck := He.glo_ok X G (c.fact 9 (f := .glo "_law_deck") rfl)
  obtain ⟨fd__law_take, F__law_take⟩ := c.def_ 10 (d := d__law_take) rfl
  have hm__law_take := He.glo_ok X G (c.fact 10 (f := .glo "_law_take") rfl)
  obtain ⟨fd__law_same, F__law_same⟩ := c.def_ 11 (d := d__law_same) rfl
  have hm__law_same := He.glo_ok X G (c.fact 11 (f := .glo "_law_same") rfl)
  obtain ⟨fd__law_word, F__law_word⟩ := c.def_ 12 (d := d__law_word) rfl
  have hm__law_word := He.glo_ok X G (c.fact 12 (f := .glo "_law_word") rfl)
  obtain ⟨fd__law_sum, F__law_sum⟩ := c.def_ 13 (d := d__law_sum) rfl
  have hm__law_sum := He.glo_ok X G (c.fact 13 (f := .glo "_law_sum") rfl)
  obtain ⟨fd__law_right, F__law_right⟩ := c.def_ 14 (d := d__law_right) rfl
  have hm__law_right := He.glo_ok X G (c.fact 14 (f := .glo "_law_right") rfl)
  obtain ⟨fd_law, F_law⟩ := c.def_ 15 (d := d_law) rfl
  have hm_law := He.glo_ok X G (c.fact 15 (f := .glo "law") rfl)
  have m_isinstance := He.free_ok X G (c.fact 16 (f := .free "isinstance") rfl)
  have m_int := He.free_ok X G (c.fact 17 (f := .free "int") rfl)
  have m_bool := He.free_ok X G (c.fact 18 (f := .free "bool") rfl)
  have m_list := He.free_ok X G (c.fact 19 (f := .free "list") rfl)
  have m_tuple := He.free_ok X G (c.fact 20 (f := .free "tuple") rfl)
  have m_all := He.free_ok X G (c.fact 21 (f := .free "all") rfl)
  have m_len := He.free_ok X G (c.fact 22 (f := .free "len") rfl)
  have m_range := He.free_ok X G (c.fact 23 (f := .free "range") rfl)
  have m_str := He.free_ok X G (c.fact 24 (f := .free "str") rfl)
  have m_repr := He.free_ok X G (c.fact 25 (f := .free "repr") rfl)
  have m_sorted := He.free_ok X G (c.fact 26 (f := .free "sorted") rfl)
  have m_sum := He.free_ok X G (c.fact 27 (f := .free "sum") rfl)
  have m_max := He.free_ok X G (c.fact 28 (f := .free "max") rfl)
  have m_min := He.free_ok X G (c.fact 29 (f := .free "min") rfl)
  have e := hfa.symm.trans hm_law
  cases e
  have b_is_integer : Binds K fd_is_integer ["value"] [] := FunD.bindsN F_is_integer fun _ _ _ _ _ _ us hl => match us, hl with | [_], _ => rfl
  have b_is_natural : Binds K fd_is_natural ["value"] [] := FunD.bindsN F_is_natural fun _ _ _ _ _ _ us hl => match us, hl with | [_], _ => rfl
  have b_is_row_or_list : Binds K fd_is_row_or_list ["value"] [] := FunD.bindsN F_is_row_or_list fun _ _ _ _ _ _ us hl => match us, hl with | [_], _ => rfl
  have b_sum_of_words : Binds K fd_sum_of_words ["words"] [] := FunD.bindsN F_sum_of_words fun _ _ _ _ _ _ us hl => match us, hl with | [_], _ => rfl
  have b_bits_of : Binds K fd_bits_of ["a"] [] := FunD.bindsN F_bits_of fun _ _ _ _ _ _ us hl => match us, hl with | [_], _ => rfl
  have b_check_word : Binds K fd_check_word ["a"] [] := FunD.bindsN F_check_word fun _ _ _ _ _ _ us hl => match us, hl with | [_], _ => rfl
  have b_added : Binds K fd_added ["a", "b"] [] := FunD.bindsN F_added fun _ _ _ _ _ _ us hl => match us, hl with | [_, _], _ => rfl
  have b_added_all : Binds K fd_added_all ["some"] [] := FunD.bindsN F_added_all fun _ _ _ _ _ _ us hl => match us, hl with | [_], _ => rfl
  have b_bits : Binds K fd_bits ["a"] [] := FunD.bindsN F_bits fun _ _ _ _ _ _ us hl => match us, hl with | [_], _ => rfl
  have b__law_deck : Binds K fd__law_deck ["script", "at"] [] := FunD.bindsN F__law_deck fun _ _ _ _ _ _ us hl => match us, hl with | [_, _], _ => rfl
  have b__law_take : Binds K fd__law_take ["deck", "many"] [] := FunD.bindsN F__law_take fun _ _ _ _ _ _ us hl => match us, hl with | [_, _], _ => rfl
  have b__law_same : Binds K fd__law_same ["found", "due"] [] := FunD.bindsN F__law_same fun _ _ _ _ _ _ us hl => match us, hl with | [_, _], _ => rfl
  have b__law_word : Binds K fd__law_word ["deck", "most"] [] := FunD.bindsN F__law_word fun _ _ _ _ _ _ us hl => match us, hl with | [_, _], _ => rfl
  have b__law_sum : Binds K fd__law_sum ["a_word", "b_word"] [] := FunD.bindsN F__law_sum fun _ _ _ _ _ _ us hl => match us, hl with | [_, _], _ => rfl
  have b__law_right : Binds K fd__law_right ["deck"] [] := FunD.bindsN F__law_right fun _ _ _ _ _ _ us hl => match us, hl with | [_], _ => rfl
  have b_law : Binds K fd_law ["script"] [] := FunD.bindsN F_law fun _ _ _ _ _ _ us hl => match us, hl with | [_], _ => rfl
  have bA := FunD.bindsA (ps := ["script"]) F_law fun _ _ _ _ _ _ us hl => match us, hl with | [_], _ => rfl
  refine ⟨fd_law, fun s v => bA s [v] rfl, fun base _ _ => ?_⟩
  have T_is_integer : FT P w K mg base "is_integer" 1 ["value"] sp_is_integer _ _ := ⟨ok_is_integer F_is_integer m_isinstance m_int m_bool, hm_is_integer, F_is_integer.kp, b_is_integer⟩
  have T_is_natural : FT P w K mg base "is_natural" 2 ["value"] sp_is_natural _ _ := ⟨ok_is_natural F_is_natural T_is_integer, hm_is_natural, F_is_natural.kp, b_is_natural⟩
  have T_is_row_or_list : FT P w K mg base "is_row_or_list" 1 ["value"] sp_is_row_or_list _ _ := ⟨ok_is_row_or_list F_is_row_or_list m_isinstance m_list m_tuple, hm_is_row_or_list, F_is_row_or_list.kp, b_is_row_or_list⟩
  have T_sum_of_words : FT P w K mg base "sum_of_words" 1 ["words"] sp_sum_of_words _ _ := ⟨ok_sum_of_words F_sum_of_words, hm_sum_of_words, F_sum_of_words.kp, b_sum_of_words⟩
  have T_bits_of : FT P w K mg base "bits_of" 1 ["a"] sp_bits_of _ _ := ⟨ok_bits_of F_bits_of m_tuple, hm_bits_of, F_bits_of.kp, b_bits_of⟩
  have T_check_word : FT P w K mg base "check_word" 3 ["a"] sp_check_word _ _ := ⟨ok_check_word F_check_word T_is_natural, hm_check_word, F_check_word.kp, b_check_word⟩
  have T_added : FT P w K mg base "added" 4 ["a", "b"] sp_added _ _ := ⟨ok_added F_added T_check_word, hm_added, F_added.kp, b_added⟩
  have T_added_all : FT P w K mg base "added_all" 3 ["some"] sp_added_all _ _ := ⟨ok_added_all F_added_all T_is_row_or_list T_is_natural T_sum_of_words m_all, hm_added_all, F_added_all.kp, b_added_all⟩
  have T_bits : FT P w K mg base "bits" 4 ["a"] sp_bits _ _ := ⟨ok_bits F_bits T_check_word T_bits_of, hm_bits, F_bits.kp, b_bits⟩
  have T__law_deck : FT P w K mg base "_law_deck" 1 ["script", "at"] sp__law_deck _ _ := ⟨ok__law_deck F__law_deck m_len m_int, hm__law_deck, F__law_deck.kp, b__law_deck⟩
  have T__law_take : FT P w K mg base "_law_take" 1 ["deck", "many"] sp__law_take _ _ := ⟨ok__law_take F__law_take m_int, hm__law_take, F__law_take.kp, b__law_take⟩
  have T__law_same : FT P w K mg base "_law_same" 9 ["found", "due"] sp__law_same _ _ := ⟨ok__law_same F__law_same hm__law_same b__law_same m_isinstance m_tuple m_list m_len m_range m_str m_bool m_int, hm__law_same, F__law_same.kp, b__law_same⟩
  have T__law_word : FT P w K mg base "_law_word" 2 ["deck", "most"] sp__law_word _ _ := ⟨ok__law_word F__law_word T__law_take m_range, hm__law_word, F__law_word.kp, b__law_word⟩
  have T__law_sum : FT P w K mg base "_law_sum" 1 ["a_word", "b_word"] sp__law_sum _ _ := ⟨ok__law_sum F__law_sum m_int, hm__law_sum, F__law_sum.kp, b__law_sum⟩
  have T__law_right : FTG P w K mg base "_law_right" 10 ["deck"] sp__law_right _ _ := ⟨ok__law_right F__law_right T__law_take T__law_word T__law_sum T_added_all T__law_same T_bits T_added m_range m_len m_repr m_sorted m_tuple m_sum m_int (kb_added_all_0_some F_added_all), hm__law_right, F__law_right.kp, b__law_right⟩
  exact ok_law F_law T__law_right T__law_deck m_range m_max m_min m_len
end Lk
open PySem PySem.W PySem.Calls PyProof.Rows
theorem PySem.Challenge.cw_keytellers_k02_whole_sums_of_words_holds : PySem.Challenge.rw_keytellers_k02_whole_sums_of_words.Holds := by
  w_on; o_law
  refine HandSHeadRun.head_any (r := OpenLaw.row PySem.Challenge.rw_keytellers_k02_whole_sums_of_words) (q := view (OpenLaw.row PySem.Challenge.rw_keytellers_k02_whole_sums_of_words).prog [21]) (H := Lk.hk) (ob := Lk.ob) (M := 2000) (loose := Lk.loose) (d := HandSHeadRun.topDef (OpenLaw.row PySem.Challenge.rw_keytellers_k02_whole_sums_of_words).prog 21) (kwd := []) Lk.ob_eq
    (by kernel_rfl) (fun s => by kernel_rfl) Lk.run (by kernel_rfl) (by kernel_rfl) (by kernel_rfl) (by rfl) (by first | assumption | decide +kernel) (by decide +kernel) ⟨rfl, rfl, rfl, rfl, rfl, by decide +kernel⟩ ?hw ?hc
  case hw => w_witness2
  case hc =>
    refine Q.walk_ofG (l := PySem.Challenge.rw_keytellers_k02_whole_sums_of_words) (n := 63) (k := 11) (x := "script") rfl (by decide) (by kernel_rfl) ⟨rfl, by decide, by decide⟩ ?F
    intro w mg fa h Y G hmg0
    obtain ⟨K, KX, c⟩ := Y
    have hmg : mg ("law" : PySem.Str) = some (.ref fa) := by
      have e : (HandSHeadRun.topDef (OpenLaw.row PySem.Challenge.rw_keytellers_k02_whole_sums_of_words).prog 21).name = ("law" : PySem.Str) := by kernel_rfl
      rw [← e]
      exact hmg0
    obtain ⟨fd, hb, hF⟩ := Lk.facts (P := (PySem.Challenge.rw_keytellers_k02_whole_sums_of_words).prog) (w := w) KX G hmg c
    exact ⟨K, fd, _, ⟨KX, hb⟩, fun H a ns hl ho hS => Q.law_sp ho hS (Q.law_top ns hl), hF⟩
