import PyProof.Rows.All
import Wide.All
import OpenK.AllK
import Wide.FinOn
import HandS.ForMost
import HandS.ForExc
import HandS.IsInst
import HandS.Wide
import HandS.Style
import HandS.Flow
import HandS.Defaults
import HandS.Exc
import HandS.ExcInit
import HandS.ExcField
import HandS.ExcOwn
import HandS.HeadHook1
import HandS.TupAny
import HandS.TupLe
import HandS.SortInts
import HandS.Flt
import HandS.More
import HandS.Gcd
import HandS.WordsExc
import HandS.Head0
import HandS.Head1
import HandS.Head2
import HandS.Head3
import HandS.HeadEnd
import HandS.HeadHook2
import HandS.DictComp
import HandS.Conv
import HandS.Zip
import HandS.Iter
import HandS.Comp
import HandS.Text
import HandS.SetFor
import HandS.Set
import HandS.Strs
import HandS.Small
import PyProof.SumAnyB
import KE.SortData
import KE.DataMinMax
import HandS.WideBits
import HandS.TupMul
import HandS.Deep
import HandS.NoneIn
import HandS.TryMany
import HandS.TryOnly
import KE.BitLaws
import PySem.Challenge.RW_keytellers_k06_whole_any_question_behind
set_option Elab.async false
set_option linter.all false
set_option maxRecDepth 100000
set_option maxHeartbeats 5000000
namespace Q
open PySem
open Spec PyProof.Rows L2

/-! ### data, objects -/
inductive D where
  | non | bl (b : Bool) | int (i : Int) | str (x : Str) | tup (ds : List D) | ref (n : Nat)
inductive O where
  | lst (ds : List D) | ro (ds : List D) | dic (kvs : List (Key × D)) | exo (x : Str) (d : D) | oth
def O.mu : O → Bool
  | .lst _ => true
  | .dic _ => true
  | _ => false
abbrev Sto := List O
abbrev ExD := Str × D
abbrev Sl := List (Option D)
abbrev KD := D → Sto → Prop
abbrev XD := ExD → Sto → Prop
abbrev TED := Sl → Sto → KD → XD → Prop
abbrev TTD := Sl → Sto → (Bool → Sto → Prop) → XD → Prop
abbrev TAD := Sl → Sto → (List D → Sto → Prop) → XD → Prop
structure EndsD where
  nx : Sl → Sto → Prop
  rt : KD
  bk : Sl → Sto → Prop
  ct : Sl → Sto → Prop
  ex : XD
abbrev TSD := EndsD → Sl → Sto → Prop
abbrev SpD := List D → Sto → KD → XD → Prop

/-! ### exceptions' classes -/
def exNs : List Str := ["TellError", "InvalidBook", "InvalidWord", "InvalidNumber", "InvalidKey", "InvalidCell", "InvalidRow", "InvalidLot", "InvalidTable", "InvalidValues", "InvalidRoad", "InvalidSeats", "NotFree",
  "NoTable", "NoSeats", "InvalidPlacing", "InvalidChain", "InvalidMixing", "InvalidFilter", "InvalidName", "HasCore", "NotGood", "UnknownName", "NothingToUndo", "Unreadable", "Unorderly"]
/-- is a class of the first name one under that of the second -/
def exSub (x y : Str) : Bool := decide (x = y) || decide (y = "TellError")
def initA (K : PySem.W.Frag) : Addr := He.ma K (He.ga K "TellError") "__init__"
def oexB (K : PySem.W.Frag) (C : Addr) : Bool := match K.lookup C with
  | some ⟨.type "type", _, .cls cd, sl⟩ => (match cd.mro, sl.toList with
    | .ref C1 :: bm, [_, _, _, _, some (.builtin n), _] => C1 == C && (n == "ValueError.__new__" && (!cd.hasDel && (cd.hasDict && PySem.HandSPX.refsVE bm)))
    | _, _ => false)
  | _ => false
/-- what the head says of an exception's class: it has the common __init__, its value is told, what it is under -/
def exB (K : PySem.W.Frag) (x : Str) : Bool := oexB K (He.ga K x) && (decide (PySem.W.findIn K (.ref (He.ga K x)) "__setattr__" = some (some (.builtin "object.__setattr__"))) &&
  (decide (PySem.W.subIn K (.ref (He.ga K x)) (.type "BaseException") = some true) && (decide (PySem.W.typeIn K (.ref (He.ga K x)) = some (.type "type")) && (PySem.W.keepIn K (.ref (He.ga K x)) &&
  (xfB K (He.ga K x) && (decide (PySem.W.findIn K (.ref (He.ga K x)) "value" = some none) && (decide (PySem.W.findIn K (.ref (He.ga K x)) "__init__" = some (some (.ref (initA K)))) &&
  (decide (PySem.W.typeIn K (.ref (initA K)) = some (.type "function")) && (He.eqO (PySem.W.nsIn K mainGlobals x) (some (some (.ref (He.ga K x)))) &&
  exNs.all fun y => match PySem.W.nsIn K mainGlobals y with
    | some (some (.ref C)) => decide (PySem.W.exmOne K (.ref (He.ga K x)) (.ref C) = some (exSub x y))
    | _ => true)))))))))
/-- an exception at rest -/
def ExV (cls : Value) (d : Option Addr) (a : Addr) : HO := .ext fun h => ∃ (oe : Obj) (vs : Array Value), h.get? a = some oe ∧ Zc cls d oe ∧ oe.data = .fields vs

/-! ### how data lie in the heap -/
section
variable (K : PySem.W.Frag) (H : Hp) (al : List Addr)
mutual
def RD : D → V → Prop
  | .non, v => v = .non
  | .bl b, v => v = .bl b
  | .int i, v => v = .int i
  | .str x, v => v = .str x
  | .tup ds, v => ∃ a vs, v = .ref a ∧ SqT K H a vs ∧ RDs ds vs
  | .ref n, v => ∃ a, v = .ref a ∧ al[n]? = some a
def RDs : List D → List V → Prop
  | [], vs => vs = []
  | d :: ds, vs => ∃ v r, vs = v :: r ∧ RD d v ∧ RDs ds r
end
/-- a list that is only read -/
def RoL (a : Addr) (vs : List V) : Prop := (∃ o, H a = some (.frz o (.lst vs))) ∨
    ∃ (o : Obj) (its : Array Value) (n : Nat), K.lookup a = some o ∧ o.cls = .type "list" ∧ o.dict = none ∧ o.data = .seq its n ∧ its.size ≤ sizeLine ∧ Vals vs its.toList
def RKs : List (Key × D) → List (Key × V) → Prop
  | [], vs => vs = []
  | d :: ds, vs => ∃ v r, vs = (d.1, v) :: r ∧ RD K H al d.2 v ∧ RKs ds r
def RO : O → Addr → Prop
  | .lst ds, a => ∃ vs, H a = some (.lst vs) ∧ RDs K H al ds vs
  | .ro ds, a => ∃ vs, RoL K H a vs ∧ RDs K H al ds vs
  | .dic kvs, a => ∃ vs, H a = some (.dK vs) ∧ RKs K H al kvs vs
  | .exo x d, a => exB K x = true ∧ ∃ (dx : Addr) (v : V), H a = some (ExV (.ref (He.ga K x)) (some dx) a) ∧ H dx = some (.xd [("value", v)]) ∧ RD K H al d v
  | .oth, _ => True
structure RS (S : Sto) : Prop where
  len : al.length = S.length
  nd : ∀ (n m : Nat) (o u : O) (a : Addr), S[n]? = some o → S[m]? = some u → o.mu = true → u.mu = true → al[n]? = some a → al[m]? = some a → n = m
  ob : ∀ (n : Nat) (o : O) (a : Addr), S[n]? = some o → al[n]? = some a → RO K H al o a
structure RSl (sg : Sl) (sv : L2.St) : Prop where
  len : sg.length = sv.length
  at_ : ∀ (i : Nat) (d : D), sg[i]? = some (some d) → ∃ v, sv[i]? = some (some v) ∧ RD K H al d v
end

structure Keep (H H' : Hp) : Prop where
  tup : ∀ a xs, H a = some (.tup xs) → H' a = some (.tup xs)
  frz : ∀ a o u, H a = some (.frz o u) → H' a = some (.frz o u)
  xd : ∀ a fs, H a = some (.xd fs) → H' a = some (.xd fs)
  ext : ∀ a φ, H a = some (.ext φ) → H' a = some (.ext φ)
theorem Keep.refl (H : Hp) : Keep H H := ⟨fun _ _ h => h, fun _ _ _ h => h, fun _ _ h => h, fun _ _ h => h⟩
theorem Keep.trans {H H1 H2 : Hp} (a : Keep H H1) (b : Keep H1 H2) : Keep H H2 := ⟨fun c xs h => b.tup c xs (a.tup c xs h), fun c o u h => b.frz c o u (a.frz c o u h), fun c xs h => b.xd c xs (a.xd c xs h), fun c xs h => b.ext c xs (a.ext c xs h)⟩
theorem Keep.laid {H : Hp} {p : Addr} {o : HO} (h : H p = none) : Keep H (upd H p o) :=
  ⟨fun a xs e => by rw [upd_ne (ne_of_none e h)]; exact e, fun a ob u e => by rw [upd_ne (ne_of_none e h)]; exact e, fun a xs e => by rw [upd_ne (ne_of_none e h)]; exact e, fun a xs e => by rw [upd_ne (ne_of_none e h)]; exact e⟩
theorem Keep.write {H : Hp} {p : Addr} {o u : HO} (h : H p = some u) (hu : (∃ xs, u = .lst xs) ∨ ∃ xs, u = .dK xs) : Keep H (upd H p o) :=
  ⟨fun a xs e => by rw [upd_ne (ne_of e h (fun z => by rcases hu with ⟨y, hu⟩ | ⟨y, hu⟩ <;> (rw [hu] at z; cases z)))]; exact e, fun a ob u e => by rw [upd_ne (ne_of e h (fun z => by rcases hu with ⟨y, hu⟩ | ⟨y, hu⟩ <;> (rw [hu] at z; cases z)))]; exact e,
   fun a xs e => by rw [upd_ne (ne_of e h (fun z => by rcases hu with ⟨y, hu⟩ | ⟨y, hu⟩ <;> (rw [hu] at z; cases z)))]; exact e, fun a xs e => by rw [upd_ne (ne_of e h (fun z => by rcases hu with ⟨y, hu⟩ | ⟨y, hu⟩ <;> (rw [hu] at z; cases z)))]; exact e⟩
theorem sqt_keep {K : PySem.W.Frag} {H H' : Hp} {a : Addr} {xs : List V} (k : Keep H H') (h : SqT K H a xs) : SqT K H' a xs := by
  rcases h with (h | ⟨o, h⟩) | h
  · exact .inl (.inl (k.tup _ _ h))
  · exact .inl (.inr ⟨o, k.frz _ _ _ h⟩)
  · exact .inr h
theorem rol_keep {K : PySem.W.Frag} {H H' : Hp} {a : Addr} {xs : List V} (k : Keep H H') (h : RoL K H a xs) : RoL K H' a xs := by
  rcases h with ⟨o, h⟩ | h
  · exact .inl ⟨o, k.frz _ _ _ h⟩
  · exact .inr h
theorem rol_sq {K : PySem.W.Frag} {H : Hp} {a : Addr} {xs : List V} (h : RoL K H a xs) : SqL K H a xs := by
  rcases h with ⟨o, h⟩ | h
  · exact .inl (.inr ⟨o, h⟩)
  · exact .inr h

section
variable {K : PySem.W.Frag} {H H' : Hp} {al t : List Addr}
theorem getE {al t : List Addr} {n : Nat} {a : Addr} (h : al[n]? = some a) : (al ++ t)[n]? = some a := by
  rw [List.getElem?_append_left (by
    have := (List.getElem?_eq_some_iff.mp h).1
    exact this)]
  exact h
mutual
theorem RD.mono (k : Keep H H') : ∀ (d : D) (v : V), RD K H al d v → RD K H' (al ++ t) d v
  | .non, _, h => h
  | .bl _, _, h => h
  | .int _, _, h => h
  | .str _, _, h => h
  | .tup ds, _, ⟨a, vs, e, hs, hr⟩ => ⟨a, vs, e, sqt_keep k hs, RDs.mono k ds vs hr⟩
  | .ref n, _, ⟨a, e, h⟩ => ⟨a, e, getE h⟩
theorem RDs.mono (k : Keep H H') : ∀ (ds : List D) (vs : List V), RDs K H al ds vs → RDs K H' (al ++ t) ds vs
  | [], _, h => h
  | d :: ds, _, ⟨v, r, e, h1, h2⟩ => ⟨v, r, e, RD.mono k d v h1, RDs.mono k ds r h2⟩
end
theorem RKs.mono (k : Keep H H') : ∀ (ds : List (Key × D)) (vs : List (Key × V)), RKs K H al ds vs → RKs K H' (al ++ t) ds vs
  | [], _, h => h
  | d :: ds, _, ⟨v, r, e, h1, h2⟩ => ⟨v, r, e, RD.mono k d.2 v h1, RKs.mono k ds r h2⟩
theorem RSl.mono {sg : Sl} {sv : L2.St} (h : RSl K H al sg sv) (k : Keep H H') : RSl K H' (al ++ t) sg sv := ⟨h.len, fun i d e => by
  obtain ⟨v, e1, r⟩ := h.at_ i d e
  exact ⟨v, e1, RD.mono k _ _ r⟩⟩
theorem RDs.length : ∀ {ds : List D} {vs : List V}, RDs K H al ds vs → vs.length = ds.length
  | [], _, h => by cases (show _ = [] from h); rfl
  | d :: ds, _, ⟨v, r, e, _, h2⟩ => by rw [e, List.length_cons, List.length_cons, RDs.length h2]
theorem RDs.get : ∀ {ds : List D} {vs : List V} {i : Nat} {d : D}, RDs K H al ds vs → ds[i]? = some d → ∃ v, vs[i]? = some v ∧ RD K H al d v
  | [], _, _, _, _, e => by simp at e
  | x :: ds, _, 0, d, ⟨v, r, e, h1, h2⟩, q => by
    have q' : x = d := by simpa using q
    subst q'
    exact ⟨v, by rw [e]; rfl, h1⟩
  | x :: ds, _, i + 1, d, ⟨v, r, e, h1, h2⟩, q => by
    obtain ⟨u, e1, r1⟩ := RDs.get (i := i) (d := d) h2 (by simpa using q)
    exact ⟨u, by rw [e]; simpa using e1, r1⟩
theorem RDs.append : ∀ {ds es : List D} {vs us : List V}, RDs K H al ds vs → RDs K H al es us → RDs K H al (ds ++ es) (vs ++ us)
  | [], _, _, _, h, h' => by cases (show _ = [] from h); exact h'
  | d :: ds, _, _, _, ⟨v, r, e, h1, h2⟩, h' => ⟨v, _, by rw [e]; rfl, h1, RDs.append h2 h'⟩
theorem RDs.one {d : D} {v : V} (h : RD K H al d v) : RDs K H al [d] [v] := ⟨v, [], rfl, h, rfl⟩
theorem RDs.take : ∀ (n : Nat) {ds : List D} {vs : List V}, RDs K H al ds vs → RDs K H al (ds.take n) (vs.take n)
  | 0, _, _, _ => by simp [RDs]
  | n + 1, [], _, h => by cases (show _ = [] from h); rfl
  | n + 1, d :: ds, _, ⟨v, r, e, h1, h2⟩ => ⟨v, r.take n, by rw [e]; rfl, h1, RDs.take n h2⟩
theorem RDs.drop : ∀ (n : Nat) {ds : List D} {vs : List V}, RDs K H al ds vs → RDs K H al (ds.drop n) (vs.drop n)
  | 0, _, _, h => h
  | n + 1, [], _, h => by cases (show _ = [] from h); rfl
  | n + 1, d :: ds, _, ⟨v, r, e, h1, h2⟩ => by rw [e]; exact RDs.drop n h2
theorem RDs.set : ∀ (n : Nat) {ds : List D} {vs : List V} {d : D} {v : V}, RDs K H al ds vs → RD K H al d v → RDs K H al (ds.set n d) (vs.set n v)
  | _, [], _, _, _, h, _ => by cases (show _ = [] from h); exact rfl
  | 0, x :: ds, _, d, v, ⟨u, r, e, h1, h2⟩, q => ⟨v, r, by rw [e]; rfl, q, h2⟩
  | n + 1, x :: ds, _, d, v, ⟨u, r, e, h1, h2⟩, q => ⟨u, r.set n v, by rw [e]; rfl, h1, RDs.set n h2 q⟩
theorem RDs.reverse : ∀ {ds : List D} {vs : List V}, RDs K H al ds vs → RDs K H al ds.reverse vs.reverse
  | [], _, h => by cases (show _ = [] from h); exact rfl
  | d :: ds, _, ⟨v, r, e, h1, h2⟩ => by
    rw [e, List.reverse_cons, List.reverse_cons]
    exact RDs.append (RDs.reverse h2) (RDs.one h1)
/-- the future of a heap, an assignment of addresses -/
structure Fut (K : PySem.W.Frag) (H : Hp) (al : List Addr) (H' : Hp) (al' : List Addr) (S' : Sto) : Prop where
  ext : ∃ t, al' = al ++ t
  keep : Keep H H'
  rs : RS K H' al' S'
theorem Fut.trans {H1 H2 : Hp} {al al1 al2 : List Addr} {S1 S2 : Sto} (a : Fut K H al H1 al1 S1) (b : Fut K H1 al1 H2 al2 S2) : Fut K H al H2 al2 S2 := by
  obtain ⟨t, e⟩ := a.ext
  obtain ⟨u, e'⟩ := b.ext
  exact ⟨⟨t ++ u, by rw [e', e, List.append_assoc]⟩, a.keep.trans b.keep, b.rs⟩
theorem Fut.now {S : Sto} (r : RS K H al S) : Fut K H al H al S := ⟨⟨[], by simp⟩, .refl H, r⟩
theorem Fut.rd {al' : List Addr} {S' : Sto} (f : Fut K H al H' al' S') {d : D} {v : V} (h : RD K H al d v) : RD K H' al' d v := by
  obtain ⟨t, e⟩ := f.ext
  subst e
  exact RD.mono f.keep _ _ h
theorem Fut.rds {al' : List Addr} {S' : Sto} (f : Fut K H al H' al' S') {d : List D} {v : List V} (h : RDs K H al d v) : RDs K H' al' d v := by
  obtain ⟨t, e⟩ := f.ext
  subst e
  exact RDs.mono f.keep _ _ h
theorem Fut.rsl {al' : List Addr} {S' : Sto} (f : Fut K H al H' al' S') {d : Sl} {v : L2.St} (h : RSl K H al d v) : RSl K H' al' d v := by
  obtain ⟨t, e⟩ := f.ext
  subst e
  exact h.mono f.keep

/-! ### the store written -/
theorem RO.mono {o : O} {a : Addr} (k : Keep H H') (h : RO K H al o a) (hl : ∀ vs, H a = some (.lst vs) → H' a = some (.lst vs)) (hd : ∀ vs, H a = some (.dK vs) → H' a = some (.dK vs)) : RO K H' (al ++ t) o a := by
  cases o with
  | lst ds => obtain ⟨vs, e, r⟩ := h; exact ⟨vs, hl vs e, RDs.mono k _ _ r⟩
  | ro ds => obtain ⟨vs, e, r⟩ := h; exact ⟨vs, rol_keep k e, RDs.mono k _ _ r⟩
  | dic ds => obtain ⟨vs, e, r⟩ := h; exact ⟨vs, hd vs e, RKs.mono k _ _ r⟩
  | exo x d => obtain ⟨b, dx, v, e, e2, r⟩ := h; exact ⟨b, dx, v, k.ext _ _ e, k.xd _ _ e2, RD.mono k _ _ r⟩
  | oth => trivial
/-- something is laid that the store does not have -/
theorem Fut.lay {S : Sto} {p : Addr} {o : HO} (r : RS K H al S) (h : H p = none) : Fut K H al (upd H p o) al S := by
  refine ⟨⟨[], by simp⟩, Keep.laid h, r.len, r.nd, fun n ob a e1 e2 => ?_⟩
  have q := RO.mono (t := []) (Keep.laid (o := o) h) (r.ob n ob a e1 e2) (fun vs e => by rw [upd_ne (ne_of_none e h)]; exact e) (fun vs e => by rw [upd_ne (ne_of_none e h)]; exact e)
  rwa [List.append_nil] at q
theorem RO.there {o : O} {a : Addr} (h : RO K H al o a) (m : o.mu = true) : H a ≠ none := by
  intro z
  cases o with
  | lst ds => obtain ⟨vs, e, _⟩ := h; rw [z] at e; cases e
  | ro ds => cases m
  | dic ds => obtain ⟨vs, e, _⟩ := h; rw [z] at e; cases e
  | exo x d => cases m
  | oth => cases m
theorem getPush {S : Sto} {o : O} : (S ++ [o])[S.length]? = some o := by simp
theorem get_push_cases {α : Type} {l : List α} {x y : α} {n : Nat} (h : (l ++ [x])[n]? = some y) : l[n]? = some y ∨ (n = l.length ∧ y = x) := by
  by_cases hn : n < l.length
  · rw [List.getElem?_append_left hn] at h
    exact .inl h
  · by_cases e : n = l.length
    · subst e
      simp at h
      exact .inr ⟨rfl, h.symm⟩
    · rw [List.getElem?_append_right (by omega)] at h
      have : n - l.length ≠ 0 := by omega
      obtain ⟨k, hk⟩ : ∃ k, n - l.length = k + 1 := ⟨n - l.length - 1, by omega⟩
      rw [hk] at h
      simp at h
/-- a new object of the store -/
theorem Fut.push {S : Sto} {p : Addr} {ho : HO} {o : O} (r : RS K H al S) (h : H p = none) (q : RO K (upd H p ho) (al ++ [p]) o p) : Fut K H al (upd H p ho) (al ++ [p]) (S ++ [o]) := by
  refine ⟨⟨[p], rfl⟩, Keep.laid h, by simp [r.len], fun n m o1 o2 a e1 e2 m1 m2 a1 a2 => ?_, fun n ob a e1 e2 => ?_⟩
  · have key : ∀ (k : Nat) (ob : O), S[k]? = some ob → ob.mu = true → al[k]? ≠ some p := fun k ob e mu z => (r.ob k ob p e z).there mu h
    rcases get_push_cases e1 with f1 | ⟨rfl, rfl⟩
    · have n1 : n < S.length := (List.getElem?_eq_some_iff.mp f1).1
      rw [List.getElem?_append_left (by rw [r.len]; exact n1)] at a1
      rcases get_push_cases e2 with f2 | ⟨rfl, rfl⟩
      · have n2 : m < S.length := (List.getElem?_eq_some_iff.mp f2).1
        rw [List.getElem?_append_left (by rw [r.len]; exact n2)] at a2
        exact r.nd n m o1 o2 a f1 f2 m1 m2 a1 a2
      · rw [← r.len] at a2
        have : p = a := by simpa using a2
        subst this
        exact absurd a1 (key n o1 f1 m1)
    · rw [← r.len] at a1
      have : p = a := by simpa using a1
      subst this
      rcases get_push_cases e2 with f2 | ⟨rfl, rfl⟩
      · have n2 : m < S.length := (List.getElem?_eq_some_iff.mp f2).1
        rw [List.getElem?_append_left (by rw [r.len]; exact n2)] at a2
        exact absurd a2 (key m o2 f2 m2)
      · rfl
  · rcases get_push_cases e1 with e1 | ⟨rfl, rfl⟩
    · have n1 : n < S.length := (List.getElem?_eq_some_iff.mp e1).1
      rw [List.getElem?_append_left (by rw [r.len]; exact n1)] at e2
      exact RO.mono (Keep.laid h) (r.ob n ob a e1 e2) (fun vs e => by rw [upd_ne (ne_of_none e h)]; exact e) (fun vs e => by rw [upd_ne (ne_of_none e h)]; exact e)
    · rw [← r.len] at e2
      have : p = a := by simpa using e2
      subst this
      exact q
/-- an object of the store is written -/
theorem Fut.set {S : Sto} {n : Nat} {p : Addr} {ho : HO} {o u : O} (r : RS K H al S) (hu : S[n]? = some u) (mu : u.mu = true) (hp : al[n]? = some p) (q : RO K (upd H p ho) al o p) (mo : o.mu = true) : Fut K H al (upd H p ho) al (S.set n o) := by
  have hr := r.ob n u p hu hp
  have kp : Keep H (upd H p ho) := by
    cases u with
    | lst ds => obtain ⟨vs, e, _⟩ := hr; exact Keep.write e (.inl ⟨_, rfl⟩)
    | dic ds => obtain ⟨vs, e, _⟩ := hr; exact Keep.write e (.inr ⟨_, rfl⟩)
    | ro ds => cases mu
    | exo x d => cases mu
    | oth => cases mu
  have hn : n < S.length := (List.getElem?_eq_some_iff.mp hu).1
  have key : ∀ k ob, (S.set n o)[k]? = some ob → (k = n ∧ ob = o) ∨ (k ≠ n ∧ S[k]? = some ob) := fun k ob e => by
    by_cases hk : k = n
    · subst hk
      rw [List.getElem?_set_self hn] at e
      exact .inl ⟨rfl, (Option.some.inj e).symm⟩
    · rw [List.getElem?_set_ne (Ne.symm hk)] at e
      exact .inr ⟨hk, e⟩
  refine ⟨⟨[], by simp⟩, kp, by simp [r.len], fun k m o1 o2 a e1 e2 m1 m2 a1 a2 => ?_, fun k ob a e1 e2 => ?_⟩
  · rcases key k o1 e1 with ⟨rfl, rfl⟩ | ⟨k1, f1⟩
    · rcases key m o2 e2 with ⟨rfl, rfl⟩ | ⟨k2, f2⟩
      · rfl
      · exact r.nd k m u o2 a hu f2 mu m2 a1 a2
    · rcases key m o2 e2 with ⟨rfl, rfl⟩ | ⟨k2, f2⟩
      · exact r.nd k m o1 u a f1 hu m1 mu a1 a2
      · exact r.nd k m o1 o2 a f1 f2 m1 m2 a1 a2
  · rcases key k ob e1 with ⟨rfl, rfl⟩ | ⟨k1, e1⟩
    · rw [hp] at e2
      cases e2
      exact q
    · have ra := r.ob k ob a e1 e2
      by_cases hm : ob.mu = true
      · have ne : a ≠ p := fun z => by
          subst z
          exact k1 (r.nd k n ob u a e1 hu hm mu e2 hp)
        have q2 := RO.mono (t := []) kp ra (fun vs e => by rw [upd_ne ne]; exact e) (fun vs e => by rw [upd_ne ne]; exact e)
        rwa [List.append_nil] at q2
      · cases ob with
        | lst ds => exact absurd rfl hm
        | dic ds => exact absurd rfl hm
        | ro ds =>
          obtain ⟨vs, e, rr⟩ := ra
          refine ⟨vs, rol_keep kp e, ?_⟩
          have := RDs.mono (t := []) kp _ _ rr
          rwa [List.append_nil] at this
        | exo x d =>
          obtain ⟨b, dx, v, e, e3, rr⟩ := ra
          have := RD.mono (t := []) kp _ _ rr
          rw [List.append_nil] at this
          exact ⟨b, dx, v, kp.ext _ _ e, kp.xd _ _ e3, this⟩
        | oth => trivial
end
end Q
namespace Q
open PySem
open Spec PyProof.Rows L2

/-! ### judgements over data -/
structure Cy where
  K : PySem.W.Frag
  mg : Str → Option Value
  E : XK
abbrev cy (X : Cx) (E : XK) : Cy := ⟨X.K, X.mg, E⟩
/-- an exception: its class by name, its one value -/
def ExAt (Y : Cy) (H : Hp) (al : List Addr) (ex : ExD) (cls : Value) (d : Option Addr) : Prop :=
  exB Y.K ex.1 = true ∧ ∃ (dx : Addr) (v : V), cls = .ref (He.ga Y.K ex.1) ∧ d = some dx ∧ H dx = some (.xd [("value", v)]) ∧ RD Y.K H al ex.2 v
def Up (K : PySem.W.Frag) (H : Hp) (al : List Addr) (kd : KD) (Q : VK) : Prop := ∀ d S' al' H' v, Fut K H al H' al' S' → RD K H' al' d v → kd d S' → Q v H'
def UpB (K : PySem.W.Frag) (H : Hp) (al : List Addr) (kd : Bool → Sto → Prop) (Q : Bool → Hp → Prop) : Prop := ∀ b S' al' H', Fut K H al H' al' S' → kd b S' → Q b H'
def UpA (K : PySem.W.Frag) (H : Hp) (al : List Addr) (kd : List D → Sto → Prop) (Q : List V → Hp → Prop) : Prop := ∀ ds S' al' H' vs, Fut K H al H' al' S' → RDs K H' al' ds vs → kd ds S' → Q vs H'
def UpX (Y : Cy) (H : Hp) (al : List Addr) (xd : XD) : Prop := ∀ ex S' al' H' cls d, Fut Y.K H al H' al' S' → ExAt Y H' al' ex cls d → xd ex S' → Y.E cls d H'
def UpS (K : PySem.W.Frag) (H : Hp) (al : List Addr) (nd : Sl → Sto → Prop) (n : L2.St → Hp → Prop) : Prop := ∀ sg S' al' H' sv, Fut K H al H' al' S' → RSl K H' al' sg sv → nd sg S' → n sv H'
structure UpE (Y : Cy) (H : Hp) (al : List Addr) (Dd : EndsD) (De : Ends) : Prop where
  nx : UpS Y.K H al Dd.nx De.nx
  rt : Up Y.K H al Dd.rt De.rt
  bk : UpS Y.K H al Dd.bk De.bk
  ct : UpS Y.K H al Dd.ct De.ct
  ex : UpX Y H al Dd.ex
section
variable {K : PySem.W.Frag} {Y : Cy} {H H1 : Hp} {al al1 : List Addr} {S1 : Sto}
theorem Up.mono {kd : KD} {Q : VK} (u : Up K H al kd Q) (f : Fut K H al H1 al1 S1) : Up K H1 al1 kd Q := fun d S' al' H' v g r h => u d S' al' H' v (f.trans g) r h
theorem UpB.mono {kd : Bool → Sto → Prop} {Q : Bool → Hp → Prop} (u : UpB K H al kd Q) (f : Fut K H al H1 al1 S1) : UpB K H1 al1 kd Q := fun d S' al' H' g h => u d S' al' H' (f.trans g) h
theorem UpA.mono {kd : List D → Sto → Prop} {Q : List V → Hp → Prop} (u : UpA K H al kd Q) (f : Fut K H al H1 al1 S1) : UpA K H1 al1 kd Q := fun d S' al' H' v g r h => u d S' al' H' v (f.trans g) r h
theorem UpX.mono {xd : XD} (u : UpX Y H al xd) (f : Fut Y.K H al H1 al1 S1) : UpX Y H1 al1 xd := fun ex S' al' H' cls d g r h => u ex S' al' H' cls d (f.trans g) r h
theorem UpS.mono {nd : Sl → Sto → Prop} {n : L2.St → Hp → Prop} (u : UpS K H al nd n) (f : Fut K H al H1 al1 S1) : UpS K H1 al1 nd n := fun sg S' al' H' sv g r h => u sg S' al' H' sv (f.trans g) r h
theorem UpE.mono {Dd : EndsD} {De : Ends} (u : UpE Y H al Dd De) (f : Fut Y.K H al H1 al1 S1) : UpE Y H1 al1 Dd De := ⟨u.nx.mono f, u.rt.mono f, u.bk.mono f, u.ct.mono f, u.ex.mono f⟩
end
def LE (Y : Cy) (t : TED) : TE := fun sv H Q => ∃ sg al S kd xd, RS Y.K H al S ∧ RSl Y.K H al sg sv ∧ t sg S kd xd ∧ Up Y.K H al kd Q ∧ UpX Y H al xd
def LT (Y : Cy) (t : TTD) : TT := fun sv H Q => ∃ sg al S kd xd, RS Y.K H al S ∧ RSl Y.K H al sg sv ∧ t sg S kd xd ∧ UpB Y.K H al kd Q ∧ UpX Y H al xd
def LA (Y : Cy) (t : TAD) : TA := fun sv H Q => ∃ sg al S kd xd, RS Y.K H al S ∧ RSl Y.K H al sg sv ∧ t sg S kd xd ∧ UpA Y.K H al kd Q ∧ UpX Y H al xd
def LS (Y : Cy) (t : TSD) : TS := fun De sv H => ∃ sg al S Dd, RS Y.K H al S ∧ RSl Y.K H al sg sv ∧ t Dd sg S ∧ UpE Y H al Dd De
/-- by values -/
def L1 (Y : Cy) (r : D → Sto → KD → XD → Prop) : V → Hp → VK → Prop := fun x H Q => ∃ d al S kd xd, RS Y.K H al S ∧ RD Y.K H al d x ∧ r d S kd xd ∧ Up Y.K H al kd Q ∧ UpX Y H al xd
def LL2 (Y : Cy) (r : D → D → Sto → KD → XD → Prop) : R2 := fun x y H Q => ∃ d e al S kd xd, RS Y.K H al S ∧ RD Y.K H al d x ∧ RD Y.K H al e y ∧ r d e S kd xd ∧ Up Y.K H al kd Q ∧ UpX Y H al xd
def LLs (Y : Cy) (r : SpD) : List V → Hp → VK → Prop := fun vs H Q => ∃ ds al S kd xd, RS Y.K H al S ∧ RDs Y.K H al ds vs ∧ r ds S kd xd ∧ Up Y.K H al kd Q ∧ UpX Y H al xd

theorem pe_imp {X : Cx} {e : Expr} {t t' : TE} (h : PE X e t) (f : ∀ s H Q, t' s H Q → t s H Q) : PE X e t' := ⟨fun pins s σ H Q I q => h.run pins s σ H Q I (f σ H Q q)⟩
theorem pt_imp {X : Cx} {e : Expr} {t t' : TT} (h : PT X e t) (f : ∀ s H Q, t' s H Q → t s H Q) : PT X e t' := ⟨fun pins s σ H Q I q => h.run pins s σ H Q I (f σ H Q q)⟩
theorem pw_imp {X : Cx} {e : Expr} {t t' : TT} (h : PW X e t) (f : ∀ s H Q, t' s H Q → t s H Q) : PW X e t' := ⟨fun wh pins s σ H Q I q => h.run wh pins s σ H Q I (f σ H Q q)⟩
theorem pa_imp {X : Cx} {e : List Expr} {t t' : TA} (h : PA X e t) (f : ∀ s H Q, t' s H Q → t s H Q) : PA X e t' := ⟨fun pos pins s σ H Q I q => h.run pos pins s σ H Q I (f σ H Q q)⟩
theorem ps_imp {X : Cx} {e : Stmt} {t t' : TS} (h : PS X e t) (f : ∀ De s H, t' De s H → t De s H) : PS X e t' := ⟨fun pins s σ H De I q => h.run pins s σ H De I (f De σ H q)⟩
theorem pss_imp {X : Cx} {e : List Stmt} {t t' : TS} (h : PSs X e t) (f : ∀ De s H, t' De s H → t De s H) : PSs X e t' := ⟨fun pins s σ H De I q => h.run pins s σ H De I (f De σ H q)⟩

abbrev QE (X : Cx) (E : XK) (e : Expr) (t : TED) : Prop := PE X e (LE (cy X E) t)
abbrev QT (X : Cx) (E : XK) (e : Expr) (t : TTD) : Prop := PT X e (LT (cy X E) t)
abbrev QW (X : Cx) (E : XK) (e : Expr) (t : TTD) : Prop := PW X e (LT (cy X E) t)
abbrev QA (X : Cx) (E : XK) (e : List Expr) (t : TAD) : Prop := PA X e (LA (cy X E) t)
abbrev QS (X : Cx) (E : XK) (e : Stmt) (t : TSD) : Prop := PS X e (LS (cy X E) t)
abbrev QSs (X : Cx) (E : XK) (e : List Stmt) (t : TSD) : Prop := PSs X e (LS (cy X E) t)

/-! ### readings -/
def dC (d : D) : TED := fun _ S k _ => k d S
def dVar (i : Nat) : TED := fun sg S k _ => match sg[i]? with
  | some (some d) => k d S
  | _ => False
abbrev R1D := D → Sto → KD → XD → Prop
abbrev R2D := D → D → Sto → KD → XD → Prop
def dUn (r : R1D) (ta : TED) : TED := fun sg S k x => ta sg S (fun d S' => r d S' k x) x
def kOp2 (r : R2D) (k : KD) (x : XD) (d : D) : KD := fun e S => r d e S k x
def kOp1 (r : R2D) (tb : TED) (sg : Sl) (k : KD) (x : XD) : KD := fun d S => tb sg S (kOp2 r k x d) x
def dOp (r : R2D) (ta tb : TED) : TED := fun sg S k x => ta sg S (kOp1 r tb sg k x) x
def kB (k : Bool → Sto → Prop) : KD := fun d S => match d with
  | .bl b => k b S
  | _ => False
def dTst (t : TED) : TTD := fun sg S k x => t sg S (kB k) x
def kAnd (u : TTD) (sg : Sl) (k : Bool → Sto → Prop) (x : XD) : Bool → Sto → Prop := fun b S => (b = true → u sg S k x) ∧ (b = false → k false S)
def dAnd (t u : TTD) : TTD := fun sg S k x => t sg S (kAnd u sg k x) x
def kOr (u : TTD) (sg : Sl) (k : Bool → Sto → Prop) (x : XD) : Bool → Sto → Prop := fun b S => (b = true → k true S) ∧ (b = false → u sg S k x)
def dOr (t u : TTD) : TTD := fun sg S k x => t sg S (kOr u sg k x) x
def kNot (k : Bool → Sto → Prop) : Bool → Sto → Prop := fun b S => k (!b) S
def dNot (t : TTD) : TTD := fun sg S k x => t sg S (kNot k) x
def kAndV (u : TED) (sg : Sl) (k : KD) (x : XD) : Bool → Sto → Prop := fun b S => (b = true → u sg S k x) ∧ (b = false → k (.bl false) S)
def dAndV (t u : TED) : TED := fun sg S k x => t sg S (kB (kAndV u sg k x)) x
def kOrV (u : TED) (sg : Sl) (k : KD) (x : XD) : Bool → Sto → Prop := fun b S => (b = true → k (.bl true) S) ∧ (b = false → u sg S k x)
def dOrV (t u : TED) : TED := fun sg S k x => t sg S (kB (kOrV u sg k x)) x
def kNotV (k : KD) : Bool → Sto → Prop := fun b S => k (.bl (!b)) S
def dNotV (t : TED) : TED := fun sg S k x => t sg S (kB (kNotV k)) x
def kIfE (u v : TED) (sg : Sl) (k : KD) (x : XD) : Bool → Sto → Prop := fun b S => (b = true → u sg S k x) ∧ (b = false → v sg S k x)
def dIfE (t : TTD) (u v : TED) : TED := fun sg S k x => t sg S (kIfE u v sg k x) x
def dNil : TAD := fun _ S k _ => k [] S
def kCons2 (k : List D → Sto → Prop) (d : D) : List D → Sto → Prop := fun ds S => k (d :: ds) S
def kCons1 (u : TAD) (sg : Sl) (k : List D → Sto → Prop) (x : XD) : KD := fun d S => u sg S (kCons2 k d) x
def dCons (t : TED) (u : TAD) : TAD := fun sg S k x => t sg S (kCons1 u sg k x) x
def kTup (k : KD) : List D → Sto → Prop := fun ds S => ds.length ≤ sizeLine ∧ k (.tup ds) S
def dTup (t : TAD) : TED := fun sg S k x => t sg S (kTup k) x
def kLst (k : KD) : List D → Sto → Prop := fun ds S => ds.length ≤ sizeLine ∧ k (.ref S.length) (S ++ [.lst ds])
def dLst (t : TAD) : TED := fun sg S k x => t sg S (kLst k) x
def kCall (r : SpD) (k : KD) (x : XD) : List D → Sto → Prop := fun ds S => r ds S k x
/-- a call of anything by values -/
def dCall (r : SpD) (t : TAD) : TED := fun sg S k x => t sg S (kCall r k x) x

section
variable {X : Cx} {E : XK} {a b : Expr} {ta tb : TED} {pos : Pos}
/-! ### names, constants -/
theorem q_val {e : Expr} {d : D} {v : V} (h : PE X e (tC v)) (r : ∀ H al, RD X.K H al d v) : QE X E e (dC d) := pe_imp h fun s H Q ⟨sg, al, S, kd, xd, rs, rl, q, up, ux⟩ => up d S al H v (.now rs) (r H al) q
theorem q_int {i j} : QE X E (.Constant (.int i) j pos) (dC (.int i)) := q_val pe_int fun _ _ => rfl
theorem q_bl {i j} : QE X E (.Constant (.bool i) j pos) (dC (.bl i)) := q_val pe_bl fun _ _ => rfl
theorem q_str {i j} : QE X E (.Constant (.str i) j pos) (dC (.str i)) := q_val pe_str fun _ _ => rfl
theorem q_non {j} : QE X E (.Constant .none j pos) (dC .non) := q_val pe_non fun _ _ => rfl
theorem q_var {x : Str} (i : Nat) (hN : X.N[i]? = some x := by rfl) (hv : Vis X.env.scope x := by first | exact Or.inl rfl | exact Or.inr (Or.inl rfl) | exact Or.inr (Or.inr rfl)) (hd : (x == ("__debug__" : Str)) = false := by decide)
    (hcd : (x == ("__classdict__" : Str)) = false := by decide) : QE X E (.Name x pos) (dVar i) := by
  refine pe_imp (pe_var hN hv hd hcd) fun s H Q ⟨sg, al, S, kd, xd, rs, rl, q, up, ux⟩ => ?_
  unfold dVar at q
  cases e : sg[i]? with
  | none => rw [e] at q; exact q.elim
  | some o =>
    cases o with
    | none => rw [e] at q; exact q.elim
    | some d =>
      rw [e] at q
      obtain ⟨v, e1, r⟩ := rl.at_ i d e
      exact ⟨v, e1, up d S al H v (.now rs) r q⟩

/-! ### operators -/
theorem q_op {op : Operator} {r : R2D} (ho : OpR X (binaryOp op) (LL2 (cy X E) r)) (ha : QE X E a ta) (hb : QE X E b tb) : QE X E (.BinOp a op b pos) (dOp r ta tb) :=
  pe_imp (pe_op ho ha hb) fun s H Q ⟨sg, al, S, kd, xd, rs, rl, q, up, ux⟩ => ⟨sg, al, S, kOp1 r tb sg kd xd, xd, rs, rl, q,
    fun d1 S1 al1 H1 v1 f1 r1 q1 => ⟨sg, al1, S1, kOp2 r kd xd d1, xd, f1.rs, f1.rsl rl, q1, fun d2 S2 al2 H2 v2 f2 r2 q2 =>
      ⟨d1, d2, al2, S2, kd, xd, f2.rs, f2.rd r1, r2, q2, up.mono (f1.trans f2), ux.mono (f1.trans f2)⟩, ux.mono f1⟩, ux⟩
theorem q_un {op : UnaryOp} {r : R1D} (ho : UnR X (unaryOp op) (L1 (cy X E) r)) (ha : QE X E a ta) : QE X E (.UnaryOp op a pos) (dUn r ta) :=
  pe_imp (pe_un ho ha) fun s H Q ⟨sg, al, S, kd, xd, rs, rl, q, up, ux⟩ => ⟨sg, al, S, fun d S' => r d S' kd xd, xd, rs, rl, q,
    fun d1 S1 al1 H1 v1 f1 r1 q1 => ⟨d1, al1, S1, kd, xd, f1.rs, r1, q1, up.mono f1, ux.mono f1⟩, ux⟩
theorem q_cmp {op : CmpOp} {r : R2D} (ho : OpR X (compareOp op) (LL2 (cy X E) r)) (ha : QE X E a ta) (hb : QE X E b tb) (hm : behindInMarks op b = false := by rfl) : QE X E (.Compare a [op] [b] pos) (dOp r ta tb) :=
  pe_imp (pe_cmpR ho ha hb hm) fun s H Q ⟨sg, al, S, kd, xd, rs, rl, q, up, ux⟩ => ⟨sg, al, S, kOp1 r tb sg kd xd, xd, rs, rl, q,
    fun d1 S1 al1 H1 v1 f1 r1 q1 => ⟨sg, al1, S1, kOp2 r kd xd d1, xd, f1.rs, f1.rsl rl, q1, fun d2 S2 al2 H2 v2 f2 r2 q2 =>
      ⟨d1, d2, al2, S2, kd, xd, f2.rs, f2.rd r1, r2, q2, up.mono (f1.trans f2), ux.mono (f1.trans f2)⟩, ux.mono f1⟩, ux⟩
theorem upB {H : Hp} {al : List Addr} {kd : Bool → Sto → Prop} {Q : Bool → Hp → Prop} {K : PySem.W.Frag} (u : UpB K H al kd Q) : Up K H al (kB kd) (fun x H' => ∃ c, x = .bl c ∧ Q c H') := fun d S' al' H' v f r h => by
  cases d with
  | bl c => exact ⟨c, r, u c S' al' H' f h⟩
  | _ => exact h.elim
theorem q_tcmp {op : CmpOp} {r : R2D} (ho : OpR X (compareOp op) (LL2 (cy X E) r)) (ha : QE X E a ta) (hb : QE X E b tb) (hm : behindInMarks op b = false := by rfl) : QT X E (.Compare a [op] [b] pos) (dTst (dOp r ta tb)) :=
  pt_imp (pt_cmpR ho ha hb hm) fun s H Q ⟨sg, al, S, kd, xd, rs, rl, q, up, ux⟩ => ⟨sg, al, S, kOp1 r tb sg (kB kd) xd, xd, rs, rl, q,
    fun d1 S1 al1 H1 v1 f1 r1 q1 => ⟨sg, al1, S1, kOp2 r (kB kd) xd d1, xd, f1.rs, f1.rsl rl, q1, fun d2 S2 al2 H2 v2 f2 r2 q2 =>
      ⟨d1, d2, al2, S2, kB kd, xd, f2.rs, f2.rd r1, r2, q2, (upB up).mono (f1.trans f2), ux.mono (f1.trans f2)⟩, ux.mono f1⟩, ux⟩
theorem le_tst {Y : Cy} {t : TED} {s : L2.St} {H : Hp} {Q : Bool → Hp → Prop} (h : LT Y (dTst t) s H Q) : LE Y t s H (fun x H' => ∃ c, x = .bl c ∧ Q c H') := by
  obtain ⟨sg, al, S, kd, xd, rs, rl, q, up, ux⟩ := h
  exact ⟨sg, al, S, kB kd, xd, rs, rl, q, upB up, ux⟩
/-- an expression whose value is a bool, as a test -/
theorem q_tval {e : Expr} {t : TED} (h : QE X E e t) (he : ∀ whole, isTrue e X.env whole = (do let v ← whole; standAt e.pos; holding [v] (truthy v)) := by intro _; rfl) : QT X E e (dTst t) :=
  pt_imp (pt_val h he) fun s H Q q => le_tst q
variable {t u : TTD} {rest : List Expr}
theorem q_and1 (ha : QT X E a t) : QW X E (.BoolOp .And [a] pos) t := pw_and1 ha
theorem q_or1 (ha : QT X E a t) : QW X E (.BoolOp .Or [a] pos) t := pw_or1 ha
theorem ite_of {c : Bool} {A B : Prop} (h : (c = true → A) ∧ (c = false → B)) : if c = true then A else B := by
  cases c with
  | true => exact h.1 rfl
  | false => exact h.2 rfl
theorem q_and (ha : QT X E a t) (hb : QW X E (.BoolOp .And (b :: rest) pos) u) : QW X E (.BoolOp .And (a :: b :: rest) pos) (dAnd t u) :=
  pw_imp (pw_and ha hb) fun s H Q ⟨sg, al, S, kd, xd, rs, rl, q, up, ux⟩ => ⟨sg, al, S, kAnd u sg kd xd, xd, rs, rl, q, fun c S1 al1 H1 f1 q1 =>
    ite_of ⟨fun e => ⟨sg, al1, S1, kd, xd, f1.rs, f1.rsl rl, q1.1 e, up.mono f1, ux.mono f1⟩, fun e => up false S1 al1 H1 f1 (q1.2 e)⟩, ux⟩
theorem q_or (ha : QT X E a t) (hb : QW X E (.BoolOp .Or (b :: rest) pos) u) : QW X E (.BoolOp .Or (a :: b :: rest) pos) (dOr t u) :=
  pw_imp (pw_or ha hb) fun s H Q ⟨sg, al, S, kd, xd, rs, rl, q, up, ux⟩ => ⟨sg, al, S, kOr u sg kd xd, xd, rs, rl, q, fun c S1 al1 H1 f1 q1 =>
    ite_of ⟨fun e => up true S1 al1 H1 f1 (q1.1 e), fun e => ⟨sg, al1, S1, kd, xd, f1.rs, f1.rsl rl, q1.2 e, up.mono f1, ux.mono f1⟩⟩, ux⟩
theorem q_w {e : Expr} (h : QW X E e t) : QT X E e t := h.pt
theorem q_not (ha : QT X E a t) : QT X E (.UnaryOp .Not a pos) (dNot t) :=
  pt_imp (pt_not ha) fun s H Q ⟨sg, al, S, kd, xd, rs, rl, q, up, ux⟩ => ⟨sg, al, S, kNot kd, xd, rs, rl, q, fun c S1 al1 H1 f1 q1 => up (!c) S1 al1 H1 f1 q1, ux⟩
theorem q_one {op} (ha : QE X E a ta) : QE X E (.BoolOp op [a] pos) ta := pe_one ha
theorem q_andV (ha : QE X E a ta) (hb : QE X E (.BoolOp .And (b :: rest) pos) tb) : QE X E (.BoolOp .And (a :: b :: rest) pos) (dAndV ta tb) :=
  pe_imp (pe_and ha hb) fun s H Q ⟨sg, al, S, kd, xd, rs, rl, q, up, ux⟩ => ⟨sg, al, S, kB (kAndV tb sg kd xd), xd, rs, rl, q, fun d S1 al1 H1 v f1 r1 q1 => by
    cases d with
    | bl c => exact ⟨c, r1, ite_of ⟨fun e => ⟨sg, al1, S1, kd, xd, f1.rs, f1.rsl rl, q1.1 e, up.mono f1, ux.mono f1⟩, fun e => up (.bl false) S1 al1 H1 _ f1 rfl (q1.2 e)⟩⟩
    | _ => exact q1.elim, ux⟩
theorem q_orV (ha : QE X E a ta) (hb : QE X E (.BoolOp .Or (b :: rest) pos) tb) : QE X E (.BoolOp .Or (a :: b :: rest) pos) (dOrV ta tb) :=
  pe_imp (pe_or ha hb) fun s H Q ⟨sg, al, S, kd, xd, rs, rl, q, up, ux⟩ => ⟨sg, al, S, kB (kOrV tb sg kd xd), xd, rs, rl, q, fun d S1 al1 H1 v f1 r1 q1 => by
    cases d with
    | bl c => exact ⟨c, r1, ite_of ⟨fun e => up (.bl true) S1 al1 H1 _ f1 rfl (q1.1 e), fun e => ⟨sg, al1, S1, kd, xd, f1.rs, f1.rsl rl, q1.2 e, up.mono f1, ux.mono f1⟩⟩⟩
    | _ => exact q1.elim, ux⟩
theorem q_notV (ha : QE X E a ta) : QE X E (.UnaryOp .Not a pos) (dNotV ta) :=
  pe_imp (pe_not ha) fun s H Q ⟨sg, al, S, kd, xd, rs, rl, q, up, ux⟩ => ⟨sg, al, S, kB (kNotV kd), xd, rs, rl, q, fun d S1 al1 H1 v f1 r1 q1 => by
    cases d with
    | bl c => exact ⟨c, r1, up (.bl (!c)) S1 al1 H1 _ f1 rfl q1⟩
    | _ => exact q1.elim, ux⟩
theorem q_ifE {c : Expr} (hc : QT X E c t) (ha : QE X E a ta) (hb : QE X E b tb) : QE X E (.IfExp c a b pos) (dIfE t ta tb) :=
  pe_imp (pe_ifExp hc ha hb) fun s H Q ⟨sg, al, S, kd, xd, rs, rl, q, up, ux⟩ => ⟨sg, al, S, kIfE ta tb sg kd xd, xd, rs, rl, q, fun d S1 al1 H1 f1 q1 =>
    ite_of ⟨fun e => ⟨sg, al1, S1, kd, xd, f1.rs, f1.rsl rl, q1.1 e, up.mono f1, ux.mono f1⟩, fun e => ⟨sg, al1, S1, kd, xd, f1.rs, f1.rsl rl, q1.2 e, up.mono f1, ux.mono f1⟩⟩, ux⟩

/-! ### arguments, displays -/
variable {e : Expr} {es : List Expr} {te : TED} {tr : TAD}
theorem q_nil : QA X E [] dNil := pa_imp pa_nil fun s H Q ⟨sg, al, S, kd, xd, rs, rl, q, up, ux⟩ => up [] S al H [] (.now rs) rfl q
theorem q_cons (ha : QE X E e te) (hr : QA X E es tr) (hs : starEach (e :: es) X.env = (false, eval e X.env) :: starEach es X.env := by rfl) : QA X E (e :: es) (dCons te tr) :=
  pa_imp (pa_cons ha hr hs) fun s H Q ⟨sg, al, S, kd, xd, rs, rl, q, up, ux⟩ => ⟨sg, al, S, kCons1 tr sg kd xd, xd, rs, rl, q, fun d S1 al1 H1 v f1 r1 q1 =>
    ⟨sg, al1, S1, kCons2 kd d, xd, f1.rs, f1.rsl rl, q1, fun ds S2 al2 H2 vs f2 r2 q2 => up (d :: ds) S2 al2 H2 (v :: vs) (f1.trans f2) ⟨v, vs, rfl, f2.rd r1, r2⟩ q2, ux.mono f1⟩, ux⟩
theorem q_tup {x1} (h : QA X E es tr) : QE X E (.Tuple es x1 pos) (dTup tr) :=
  pe_imp (pe_tup h) fun s H Q ⟨sg, al, S, kd, xd, rs, rl, q, up, ux⟩ => ⟨sg, al, S, kTup kd, xd, rs, rl, q, fun ds S1 al1 H1 vs f1 r1 q1 => ⟨by rw [RDs.length r1]; exact q1.1, fun p hp => by
    have f2 : Fut X.K H1 al1 (upd H1 p (.tup vs)) al1 S1 := Fut.lay f1.rs hp
    exact up (.tup ds) S1 al1 _ (.ref p) (f1.trans f2) ⟨p, vs, rfl, .inl (.inl upd_same), f2.rds r1⟩ q1.2⟩, ux⟩
theorem ref_new {H : Hp} {al : List Addr} {S : Sto} {p : Addr} {K : PySem.W.Frag} (r : RS K H al S) (H' : Hp) : RD K H' (al ++ [p]) (.ref S.length) (.ref p) := ⟨p, rfl, by rw [← r.len]; simp⟩
theorem new_lst {K : PySem.W.Frag} {H : Hp} {al : List Addr} {S : Sto} {p : Addr} {ds : List D} {vs : List V} (r : RS K H al S) (hp : H p = none) (rd : RDs K H al ds vs) : Fut K H al (upd H p (.lst vs)) (al ++ [p]) (S ++ [.lst ds]) :=
  Fut.push r hp ⟨vs, upd_same, RDs.mono (Keep.laid hp) _ _ rd⟩
theorem q_lst (h : QA X E es tr) : QE X E (.List es pos) (dLst tr) :=
  pe_imp (pe_lst h) fun s H Q ⟨sg, al, S, kd, xd, rs, rl, q, up, ux⟩ => ⟨sg, al, S, kLst kd, xd, rs, rl, q, fun ds S1 al1 H1 vs f1 r1 q1 => ⟨by rw [RDs.length r1]; exact q1.1, fun p hp =>
    up (.ref S1.length) _ _ _ (.ref p) (f1.trans (new_lst f1.rs hp r1)) (ref_new f1.rs _) q1.2⟩, ux⟩

/-! ### calls of built-ins -/
theorem lls {H : Hp} {r : SpD} {s : L2.St} {Q : VK} {Y : Cy} {t : TAD} (h : LE Y (dCall r t) s H Q) : LA Y t s H (fun vs H1 => LLs Y r vs H1 Q) := by
  obtain ⟨sg, al, S, kd, xd, rs, rl, q, up, ux⟩ := h
  exact ⟨sg, al, S, kCall r kd xd, xd, rs, rl, q, fun ds S1 al1 H1 vs f1 r1 q1 => ⟨ds, al1, S1, kd, xd, f1.rs, r1, q1, up.mono f1, ux.mono f1⟩, ux⟩
theorem q_callB {x : Str} {id : String} {r : SpD} {p : Pos} (hc : CallR X (.builtin id) (LLs (cy X E) r)) (hg : Gl X x) (hm : X.mg x = none) (hv : bootBuiltins x = some (.builtin id)) (ha : QA X E (e :: es) tr) (hn : x ≠ "__name__" := by decide) (hdb : (x == ("__debug__" : Str)) = false := by decide)
    (he : starEach (e :: es) X.env = (false, eval e X.env) :: starEach es X.env := by rfl) (hpl : (backTo pos (starEach es X.env)).any (·.1) = false := by rfl) : QE X E (.Call (.Name x p) (e :: es) [] pos) (dCall r tr) :=
  pe_imp (pe_callB hc hg hm hv ha hn hdb he hpl) fun s H Q q => lls q
theorem q_callTy {x : Str} {T : String} {r : SpD} {p : Pos} (hc : CallR X (.type T) (LLs (cy X E) r)) (hg : Gl X x) (hm : X.mg x = none) (hv : bootBuiltins x = some (.type T)) (ha : QA X E (e :: es) tr) (hn : x ≠ "__name__" := by decide) (hdb : (x == ("__debug__" : Str)) = false := by decide)
    (he : starEach (e :: es) X.env = (false, eval e X.env) :: starEach es X.env := by rfl) (hpl : (backTo pos (starEach es X.env)).any (·.1) = false := by rfl) : QE X E (.Call (.Name x p) (e :: es) [] pos) (dCall r tr) :=
  pe_imp (pe_callTy hc hg hm hv ha hn hdb he hpl) fun s H Q q => lls q
/-! ### calls of defs -/
/-- a def's promise over data -/
def LSp (Y : Cy) (n : Nat) (sp : SpD) : List V → Hp → VK → Prop := fun vs H Q => vs.length = n ∧ LLs Y sp vs H Q
def LP (K : PySem.W.Frag) (mg : Str → Option Value) (n : Nat) (sp : SpD) : Sp := fun vs H Q E => LSp ⟨K, mg, E⟩ n sp vs H Q
/-- with the number of arguments -/
def spN (n : Nat) (sp : SpD) : SpD := fun ds S k x => ds.length = n ∧ sp ds S k x
variable {k n : Nat} {f : Addr} {fd : FuncData} {ps : List Str} {sp : SpD} {x : Str} {p : Pos}
theorem q_call (F : FnOk X.prog X.w X.K X.mg X.base (L2.CX X.prog X.w) k f fd ps (LP X.K X.mg n sp)) (hr : Room k X.A) (hg : Gl X x) (hm : X.mg x = some (.ref f)) (hk : PySem.W.keepIn X.K (.ref f) = true) (hb : Binds X.K fd ps []) (hx : Passes (L2.CX X.prog X.w) X E)
    (ha : QA X E (e :: es) tr) (hdb : (x == ("__debug__" : Str)) = false := by decide) (he : starEach (e :: es) X.env = (false, eval e X.env) :: starEach es X.env := by rfl) (hpl : (backTo pos (starEach es X.env)).any (·.1) = false := by rfl) :
    QE X E (.Call (.Name x p) (e :: es) [] pos) (dCall (spN n sp) tr) :=
  pe_imp (pe_call (dvs := []) F hr hg hm hk hb .nil hx ha hdb he hpl) fun s H Q ⟨sg, al, S, kd, xd, rs, rl, q, up, ux⟩ => ⟨sg, al, S, kCall (spN n sp) kd xd, xd, rs, rl, q,
    fun ds S1 al1 H1 vs f1 r1 q1 => by
      show LP X.K X.mg n sp (vs ++ []) H1 Q E
      rw [List.append_nil]
      exact ⟨by rw [RDs.length r1]; exact q1.1, ds, al1, S1, kd, xd, f1.rs, r1, q1.2, up.mono f1, ux.mono f1⟩, ux⟩
end
end Q
namespace Q
open PySem
open Spec PyProof.Rows L2

/-! ### operators by value -/
/-- a list that is read -/
def isL (S : Sto) (n : Nat) (ds : List D) : Prop := S[n]? = some (.lst ds) ∨ S[n]? = some (.ro ds)
def rAdd : R2D := fun d e S k _ => match d, e with
  | .int i, .int j => k (.int (i + j)) S
  | .str i, .str j => i.length + j.length ≤ sizeLine ∧ k (.str (i ++ j)) S
  | .tup i, .tup j => i.length + j.length ≤ sizeLine ∧ k (.tup (i ++ j)) S
  | .ref n, .ref m => ∃ xs ys, S[n]? = some (.lst xs) ∧ S[m]? = some (.lst ys) ∧ xs.length + ys.length ≤ sizeLine ∧ k (.ref S.length) (S ++ [.lst (xs ++ ys)])
  | _, _ => False
def rSub : R2D := fun d e S k _ => match d, e with
  | .int i, .int j => k (.int (i - j)) S
  | _, _ => False
def MulOk (i j : Int) : Prop := CMul i j ∨ CMulW i j
def rMul : R2D := fun d e S k _ => match d, e with
  | .int i, .int j => MulOk i j ∧ k (.int (i * j)) S
  | .ref n, .int j => ∃ xs, S[n]? = some (.lst xs) ∧ j < 2 ^ 63 ∧ -(2 ^ 63) ≤ j ∧ xs.length * j.toNat ≤ sizeLine ∧ k (.ref S.length) (S ++ [.lst (List.replicate j.toNat xs).flatten])
  | _, _ => False
def rFdiv : R2D := fun d e S k _ => match d, e with
  | .int i, .int j => CDivW i j ∧ k (.int (i / j)) S
  | _, _ => False
def rMod : R2D := fun d e S k _ => match d, e with
  | .int i, .int j => 0 < j ∧ k (.int (i % j)) S
  | _, _ => False
/-- a power that is worked out: of a plain base, or of a wide base to a few -/
def PowOk (i j : Int) : Prop := CPow i j ∨ (0 ≤ j ∧ j ≤ 1000 ∧ i.natAbs < 2 ^ 10000)
def rPow : R2D := fun d e S k _ => match d, e with
  | .int i, .int j => PowOk i j ∧ k (.int (i ^ j.toNat)) S
  | _, _ => False
def rShl : R2D := fun d e S k _ => match d, e with
  | .int i, .int j => CPow i j ∧ k (.int (i * 2 ^ j.toNat)) S
  | _, _ => False
def rShr : R2D := fun d e S k _ => match d, e with
  | .int i, .int j => 0 ≤ j ∧ k (.int (i / 2 ^ j.toNat)) S
  | _, _ => False
def rAnd : R2D := fun d e S k _ => match d, e with
  | .int i, .int j => k (.int (Builtin.bitAnd i j)) S
  | _, _ => False
def rOr : R2D := fun d e S k _ => match d, e with
  | .int i, .int j => k (.int (Builtin.bitOr i j)) S
  | _, _ => False
def rXor : R2D := fun d e S k _ => match d, e with
  | .int i, .int j => k (.int (Builtin.bitXor i j)) S
  | _, _ => False
def rNeg : R1D := fun d S k _ => match d with
  | .int i => k (.int (-i)) S
  | _ => False
mutual
inductive DPy (S : Sto) : D → PyData → Prop
  | non : DPy S .non .none
  | bl (b : Bool) : DPy S (.bl b) (.bool b)
  | int (i : Int) : DPy S (.int i) (.int i)
  | str (x : Str) : DPy S (.str x) (.str x)
  | tup {ds : List D} {ps : List PyData} : DPys S ds ps → DPy S (.tup ds) (.tuple ps)
  | ref {n : Nat} {ds : List D} {ps : List PyData} : isL S n ds → DPys S ds ps → DPy S (.ref n) (.list ps)
inductive DPys (S : Sto) : List D → List PyData → Prop
  | nil : DPys S [] []
  | cons {d : D} {ds : List D} {p : PyData} {ps : List PyData} : DPy S d p → DPys S ds ps → DPys S (d :: ds) (p :: ps)
end
/-- == of data at any depth -/
def eqG (d e : D) (S : Sto) (k : Bool → Prop) : Prop := ∃ p q, DPy S d p ∧ DPy S e q ∧ SeqAt.shaped p = true ∧ SeqAt.shaped q = true ∧ k (PyData.eqv p q)
def rEq : R2D := fun d e S k _ => match d, e with
  | .int i, .int j => k (.bl (decide (i = j))) S
  | .str i, .str j => k (.bl (decide (i = j))) S
  | .bl i, .bl j => k (.bl (decide (i = j))) S
  | d, e => eqG d e S fun b => k (.bl b) S
def rNe : R2D := fun d e S k _ => match d, e with
  | .int i, .int j => k (.bl (!decide (i = j))) S
  | .str i, .str j => k (.bl (!decide (i = j))) S
  | .bl i, .bl j => k (.bl (!decide (i = j))) S
  | d, e => eqG d e S fun b => k (.bl (!b)) S
def rLt : R2D := fun d e S k _ => match d, e with
  | .int i, .int j => k (.bl (decide (i < j))) S
  | .str i, .str j => k (.bl (decide (i.cps.toList < j.cps.toList))) S
  | _, _ => False
def rLe : R2D := fun d e S k _ => match d, e with
  | .int i, .int j => k (.bl (decide (i ≤ j))) S
  | _, _ => False
def rGt : R2D := fun d e S k _ => match d, e with
  | .int i, .int j => k (.bl (decide (j < i))) S
  | _, _ => False
def rGe : R2D := fun d e S k _ => match d, e with
  | .int i, .int j => k (.bl (decide (j ≤ i))) S
  | _, _ => False
def isNon : D → Bool
  | .non => true
  | _ => false
/-- is None; is of two truths -/
def rIs : R2D := fun d e S k _ => match e with
  | .non => k (.bl (isNon d)) S
  | .bl j => match d with
    | .bl i => k (.bl (decide (i = j))) S
    | _ => False
  | _ => False
def rIsNot : R2D := fun d e S k _ => match e with
  | .non => k (.bl (!isNon d)) S
  | .bl j => match d with
    | .bl i => k (.bl (!decide (i = j))) S
    | _ => False
  | _ => False
def flatD : D → Bool
  | .non => true
  | .bl _ => true
  | .int _ => true
  | .str _ => true
  | _ => false
def eqF : D → D → Bool
  | .non, .non => true
  | .bl a, .bl b => a == b
  | .bl a, .int b => (if a then 1 else 0) == b
  | .int a, .bl b => a == (if b then 1 else 0)
  | .int a, .int b => a == b
  | .str a, .str b => a == b
  | _, _ => false
def inF (d : D) (ds : List D) : Bool := ds.any fun e => eqF e d
def rIn : R2D := fun d e S k _ => match e with
  | .tup ds => flatD d = true ∧ ds.all flatD = true ∧ k (.bl (inF d ds)) S
  | .ref n => ∃ ds, isL S n ds ∧ flatD d = true ∧ ds.all flatD = true ∧ k (.bl (inF d ds)) S
  | _ => False
def rNotIn : R2D := fun d e S k _ => match e with
  | .tup ds => flatD d = true ∧ ds.all flatD = true ∧ k (.bl (!inF d ds)) S
  | .ref n => ∃ ds, isL S n ds ∧ flatD d = true ∧ ds.all flatD = true ∧ k (.bl (!inF d ds)) S
  | _ => False

section
variable {X : Cx} {E : XK}
theorem up_at {K : PySem.W.Frag} {H : Hp} {al : List Addr} {S : Sto} {kd : KD} {Q : VK} {d : D} {v : V} (up : Up K H al kd Q) (rs : RS K H al S) (r : RD K H al d v) (h : kd d S) : Q v H := up d S al H v (.now rs) r h
theorem isL_at {K : PySem.W.Frag} {H : Hp} {al : List Addr} {S : Sto} {n : Nat} {ds : List D} {v : V} (rs : RS K H al S) (h : isL S n ds) (r : RD K H al (.ref n) v) : ∃ a vs, v = .ref a ∧ al[n]? = some a ∧ SqL K H a vs ∧ RDs K H al ds vs := by
  obtain ⟨a, e, ha⟩ := r
  rcases h with h | h
  · obtain ⟨vs, e1, r1⟩ := rs.ob n _ a h ha
    exact ⟨a, vs, e, ha, .inl (.inl e1), r1⟩
  · obtain ⟨vs, e1, r1⟩ := rs.ob n _ a h ha
    exact ⟨a, vs, e, ha, rol_sq e1, r1⟩
theorem lst_at {K : PySem.W.Frag} {H : Hp} {al : List Addr} {S : Sto} {n : Nat} {ds : List D} {v : V} (rs : RS K H al S) (h : S[n]? = some (.lst ds)) (r : RD K H al (.ref n) v) : ∃ a vs, v = .ref a ∧ al[n]? = some a ∧ H a = some (.lst vs) ∧ RDs K H al ds vs := by
  obtain ⟨a, e, ha⟩ := r
  obtain ⟨vs, e1, r1⟩ := rs.ob n _ a h ha
  exact ⟨a, vs, e, ha, e1, r1⟩
theorem up_new {K : PySem.W.Frag} {H : Hp} {al : List Addr} {S : Sto} {kd : KD} {Q : VK} {ds : List D} {vs : List V} {p : Addr} (up : Up K H al kd Q) (rs : RS K H al S) (hp : H p = none) (r : RDs K H al ds vs) (h : kd (.ref S.length) (S ++ [.lst ds])) : Q (.ref p) (upd H p (.lst vs)) :=
  up (.ref S.length) _ _ _ (.ref p) (new_lst rs hp r) (ref_new rs _) h
theorem up_tup {K : PySem.W.Frag} {H : Hp} {al : List Addr} {S : Sto} {kd : KD} {Q : VK} {ds : List D} {vs : List V} {p : Addr} (up : Up K H al kd Q) (rs : RS K H al S) (hp : H p = none) (r : RDs K H al ds vs) (h : kd (.tup ds) S) : Q (.ref p) (upd H p (.tup vs)) := by
  have f2 : Fut K H al (upd H p (.tup vs)) al S := Fut.lay rs hp
  exact up (.tup ds) S al _ (.ref p) f2 ⟨p, vs, rfl, .inl (.inl upd_same), f2.rds r⟩ h
/-- an operator of two ints -/
theorem o_int2 {f : Value → Value → Sem Value} {C : Int → Int → Prop} {g : Int → Int → V} {g' : Int → Int → D} (h : OpR X f (rI C g)) (hg : ∀ i j H al, RD X.K H al (g' i j) (g i j)) :
    OpR X f (LL2 (cy X E) fun d e S k _ => match d, e with | .int i, .int j => C i j ∧ k (g' i j) S | _, _ => False) := by
  intro pins s σ H x y v u Q I rx ry ⟨d, e, al, S, kd, xd, rs, rd, re, q, up, ux⟩
  cases d <;> cases e <;> try exact q.elim
  case int.int i j =>
    have rd : x = .int i := rd
    have re : y = .int j := re
    exact h pins s σ H x y v u Q I rx ry ⟨i, j, rd, re, q.1, up_at up rs (hg i j H al) q.2⟩
theorem o_int0 {f : Value → Value → Sem Value} {g : Int → Int → V} {g' : Int → Int → D} (h : OpR X f (rI0 g)) (hg : ∀ i j H al, RD X.K H al (g' i j) (g i j)) :
    OpR X f (LL2 (cy X E) fun d e S k _ => match d, e with | .int i, .int j => k (g' i j) S | _, _ => False) := by
  intro pins s σ H x y v u Q I rx ry ⟨d, e, al, S, kd, xd, rs, rd, re, q, up, ux⟩
  cases d <;> cases e <;> try exact q.elim
  case int.int i j =>
    have rd : x = .int i := rd
    have re : y = .int j := re
    exact h pins s σ H x y v u Q I rx ry ⟨i, j, rd, re, up_at up rs (hg i j H al) q⟩
theorem o_sub : OpR X (binaryOp .Sub) (LL2 (cy X E) rSub) := o_int0 op_sub fun _ _ _ _ => rfl
theorem o_fdiv : OpR X (binaryOp .FloorDiv) (LL2 (cy X E) rFdiv) := o_int2 op_fdivW fun _ _ _ _ => rfl
theorem o_mod : OpR X (binaryOp .Mod) (LL2 (cy X E) rMod) := o_int2 op_mod fun _ _ _ _ => rfl
theorem log_lt {a : Nat} {n : Nat} (h : a < 2 ^ n) (h0 : 0 < n) : a.log2 < n := by
  by_cases ha : a = 0
  · subst ha; simpa using h0
  · exact (Nat.log2_lt ha).mpr h
theorem bits_wide {a n : Int} (hn : 0 ≤ n) (hn2 : n ≤ 1000) (ha : a.natAbs < 2 ^ 10000) : (Builtin.Int.intBits a : Int) * n ≤ 2 ^ 27 := by
  have h : Builtin.Int.intBits a ≤ 10000 := by
    unfold Builtin.Int.intBits
    split
    · exact Nat.zero_le _
    · exact log_lt ha (by decide)
  have h1 : (Builtin.Int.intBits a : Int) * n ≤ 10000 * 1000 := by
    refine Int.le_trans (Int.mul_le_mul_of_nonneg_right (show (Builtin.Int.intBits a : Int) ≤ 10000 by omega) hn) ?_
    omega
  exact Int.le_trans h1 (by decide)
theorem op_powW : OpR X (binaryOp .Pow) (rI PowOk fun i j => .int (i ^ j.toNat)) := opI fun _ _ _ _ _ _ _ hc q => by
  rcases hc with hc | hc
  · exact pow_int_small hc.1 hc.2.1 hc.2.2 q
  · exact pow_int hc.1 (bits_wide hc.1 hc.2.1 hc.2.2) q
theorem o_pow : OpR X (binaryOp .Pow) (LL2 (cy X E) rPow) := o_int2 op_powW fun _ _ _ _ => rfl
theorem o_shl : OpR X (binaryOp .LShift) (LL2 (cy X E) rShl) := o_int2 op_shl fun _ _ _ _ => rfl
theorem o_shr : OpR X (binaryOp .RShift) (LL2 (cy X E) rShr) := o_int2 op_shr fun _ _ _ _ => rfl
theorem o_and : OpR X (binaryOp .BitAnd) (LL2 (cy X E) rAnd) := o_int0 op_and fun _ _ _ _ => rfl
theorem o_or : OpR X (binaryOp .BitOr) (LL2 (cy X E) rOr) := o_int0 op_or fun _ _ _ _ => rfl
theorem o_xor : OpR X (binaryOp .BitXor) (LL2 (cy X E) rXor) := o_int0 op_xor fun _ _ _ _ => rfl
theorem o_le : OpR X (compareOp .LtE) (LL2 (cy X E) rLe) := o_int0 op_le fun _ _ _ _ => rfl
theorem o_gt : OpR X (compareOp .Gt) (LL2 (cy X E) rGt) := o_int0 op_gt fun _ _ _ _ => rfl
theorem o_ge : OpR X (compareOp .GtE) (LL2 (cy X E) rGe) := o_int0 op_ge fun _ _ _ _ => rfl
theorem o_lt : OpR X (compareOp .Lt) (LL2 (cy X E) rLt) := by
  intro pins s σ H x y v u Q I rx ry ⟨d, e, al, S, kd, xd, rs, rd, re, q, up, ux⟩
  cases d <;> cases e <;> try exact q.elim
  case int.int i j =>
    have rd : x = .int i := rd
    have re : y = .int j := re
    exact op_lt pins s σ H x y v u Q I rx ry ⟨i, j, rd, re, up_at up rs (d := .bl (decide (i < j))) rfl q⟩
  case str.str i j =>
    have rd : x = .str i := rd
    have re : y = .str j := re
    exact op_lt_str pins s σ H x y v u Q I rx ry ⟨i, j, rd, re, up_at up rs (d := .bl (decide (i.cps.toList < j.cps.toList))) rfl q⟩
theorem o_neg : UnR X (unaryOp .USub) (L1 (cy X E) rNeg) := by
  intro pins s σ H x v Q I rx ⟨d, al, S, kd, xd, rs, rd, q, up, ux⟩
  cases d <;> try exact q.elim
  case int i =>
    have rd : x = .int i := rd
    exact un_neg pins s σ H x v Q I rx ⟨i, rd, up_at up rs (d := .int (-i)) rfl q⟩
theorem o_add : OpR X (binaryOp .Add) (LL2 (cy X E) rAdd) := by
  intro pins s σ H x y v u Q I rx ry ⟨d, e, al, S, kd, xd, rs, rd, re, q, up, ux⟩
  cases d <;> cases e <;> try exact q.elim
  case int.int i j =>
    have rd : x = .int i := rd
    have re : y = .int j := re
    exact op_add pins s σ H x y v u Q I rx ry ⟨i, j, rd, re, up_at up rs (d := .int (i + j)) rfl q⟩
  case str.str i j =>
    have rd : x = .str i := rd
    have re : y = .str j := re
    exact op_add_str pins s σ H x y v u Q I rx ry ⟨i, j, rd, re, q.1, up_at up rs (d := .str (i ++ j)) rfl q.2⟩
  case tup.tup i j =>
    obtain ⟨a, xs, ex, hx, r1⟩ := rd
    obtain ⟨b, ys, ey, hy, r2⟩ := re
    obtain ⟨hl, q⟩ := q
    refine op_catA pins s σ H x y v u Q I rx ry ⟨a, b, xs, ys, ex, ey, hx, hy, by rw [RDs.length r1, RDs.length r2]; exact hl, fun e => ?_, fun n e => ?_, fun n m p hp => ?_⟩
    · have ei : i = [] := by
        have := RDs.length r1
        rw [e] at this
        exact List.length_eq_zero_iff.mp this.symm
      subst ei
      exact up_at up rs (d := .tup j) ⟨b, ys, rfl, hy, r2⟩ q
    · have ei : j = [] := by
        have := RDs.length r2
        rw [e] at this
        exact List.length_eq_zero_iff.mp this.symm
      subst ei
      rw [List.append_nil] at q
      exact up_at up rs (d := .tup i) ⟨a, xs, rfl, hx, r1⟩ q
    · exact up_tup up rs hp (RDs.append r1 r2) q
  case ref.ref n m =>
    obtain ⟨xs, ys, h1, h2, hl, q⟩ := q
    obtain ⟨a, vs, ex, _, e1, r1⟩ := lst_at rs h1 rd
    obtain ⟨b, us, ey, _, e2, r2⟩ := lst_at rs h2 re
    exact op_cat pins s σ H x y v u Q I rx ry ⟨a, b, vs, us, ex, ey, e1, e2, by rw [RDs.length r1, RDs.length r2]; exact hl, fun p hp => up_new up rs hp (RDs.append r1 r2) q⟩
theorem rds_rep {K : PySem.W.Frag} {H : Hp} {al : List Addr} {ds : List D} {vs : List V} (r : RDs K H al ds vs) : ∀ n : Nat, RDs K H al (List.replicate n ds).flatten (List.replicate n vs).flatten
  | 0 => rfl
  | n + 1 => by
    rw [List.replicate_succ, List.replicate_succ, List.flatten_cons, List.flatten_cons]
    exact RDs.append r (rds_rep r n)
theorem o_mul : OpR X (binaryOp .Mult) (LL2 (cy X E) rMul) := by
  intro pins s σ H x y v u Q I rx ry ⟨d, e, al, S, kd, xd, rs, rd, re, q, up, ux⟩
  cases d <;> cases e <;> try exact q.elim
  case int.int i j =>
    have rd : x = .int i := rd
    have re : y = .int j := re
    rcases q.1 with h | h
    · exact op_mul pins s σ H x y v u Q I rx ry ⟨i, j, rd, re, h, up_at up rs (d := .int (i * j)) rfl q.2⟩
    · exact op_mulW pins s σ H x y v u Q I rx ry ⟨i, j, rd, re, h, up_at up rs (d := .int (i * j)) rfl q.2⟩
  case ref.int n j =>
    obtain ⟨xs, h1, hj, hj2, hl, q⟩ := q
    obtain ⟨a, vs, ex, _, e1, r1⟩ := lst_at rs h1 rd
    have re : y = .int j := re
    exact op_rep pins s σ H x y v u Q I rx ry ⟨a, j, vs, ex, re, e1, hj2, hj, by rw [RDs.length r1]; exact hl, fun p hp => up_new up rs hp (rds_rep r1 _) q⟩
mutual
theorem DPy.dp {K : PySem.W.Frag} {H : Hp} {al : List Addr} {S : Sto} (rs : RS K H al S) : ∀ (p : PyData) (d : D) (v : V), DPy S d p → RD K H al d v → Dp K H v p
  | .none, _, _, h, r => by cases h; cases (show _ = V.non from r); exact .non
  | .bool b, _, _, h, r => by cases h; cases (show _ = V.bl b from r); exact .bl b
  | .int b, _, _, h, r => by cases h; cases (show _ = V.int b from r); exact .int b
  | .str b, _, _, h, r => by cases h; cases (show _ = V.str b from r); exact .str b
  | .tuple ps, _, _, h, r => by
    cases h with
    | tup hs =>
      obtain ⟨a, vs, e, h1, r1⟩ := r
      subst e
      exact .tup h1 (DPys.dp rs ps _ vs hs r1)
  | .list ps, _, _, h, r => by
    cases h with
    | ref hl hs =>
      obtain ⟨a, vs, e, _, h1, r1⟩ := isL_at rs hl r
      subst e
      exact .lst h1 (DPys.dp rs ps _ vs hs r1)
  | .dict _, _, _, h, _ => by cases h
theorem DPys.dp {K : PySem.W.Frag} {H : Hp} {al : List Addr} {S : Sto} (rs : RS K H al S) : ∀ (p : List PyData) (d : List D) (v : List V), DPys S d p → RDs K H al d v → DpAll K H v p
  | [], _, _, h, r => by cases h; cases (show _ = [] from r); exact .nil
  | p :: ps, _, _, h, r => by
    cases h with
    | cons h1 h2 =>
      obtain ⟨v, u, e, r1, r2⟩ := r
      subst e
      exact .cons (DPy.dp rs p _ v h1 r1) (DPys.dp rs ps _ u h2 r2)
end
theorem o_eq (hu : X.A.units + 64 < cLine) : OpR X (compareOp .Eq) (LL2 (cy X E) rEq) := by
  intro pins s σ H x y v u Q I rx ry ⟨d, e, al, S, kd, xd, rs, rd, re, q, up, ux⟩
  have gen : (∃ p q, DPy S d p ∧ DPy S e q ∧ SeqAt.shaped p = true ∧ SeqAt.shaped q = true ∧ kd (.bl (PyData.eqv p q)) S) → wpAny (model X.prog X.w) X.A (compareOp .Eq v u) (EP X pins σ Q) X.xe s := fun ⟨p, p', h1, h2, s1, s2, q⟩ =>
    op_eqD hu pins s σ H x y v u Q I rx ry ⟨p, p', DPy.dp rs p d x h1 rd, DPy.dp rs p' e y h2 re, s1, s2, up_at up rs (d := .bl (PyData.eqv p p')) rfl q⟩
  cases d <;> cases e <;> try exact gen q
  case int.int i j =>
    have rd : x = .int i := rd
    have re : y = .int j := re
    subst rd re
    refine op_eq pins s σ H _ _ v u Q I rx ry ⟨rfl, ?_⟩
    have e : decide (V.int i = V.int j) = decide (i = j) := by simp
    rw [e]
    exact up_at up rs (d := .bl (decide (i = j))) rfl q
  case str.str i j =>
    have rd : x = .str i := rd
    have re : y = .str j := re
    subst rd re
    refine op_eq pins s σ H _ _ v u Q I rx ry ⟨rfl, ?_⟩
    have e : decide (V.str i = V.str j) = decide (i = j) := by simp
    rw [e]
    exact up_at up rs (d := .bl (decide (i = j))) rfl q
  case bl.bl i j =>
    have rd : x = .bl i := rd
    have re : y = .bl j := re
    subst rd re
    refine op_eq pins s σ H _ _ v u Q I rx ry ⟨rfl, ?_⟩
    have e : decide (V.bl i = V.bl j) = decide (i = j) := by simp
    rw [e]
    exact up_at up rs (d := .bl (decide (i = j))) rfl q
theorem o_ne (hu : X.A.units + 64 < cLine) : OpR X (compareOp .NotEq) (LL2 (cy X E) rNe) := by
  intro pins s σ H x y v u Q I rx ry ⟨d, e, al, S, kd, xd, rs, rd, re, q, up, ux⟩
  have gen : (∃ p q, DPy S d p ∧ DPy S e q ∧ SeqAt.shaped p = true ∧ SeqAt.shaped q = true ∧ kd (.bl (!PyData.eqv p q)) S) → wpAny (model X.prog X.w) X.A (compareOp .NotEq v u) (EP X pins σ Q) X.xe s := fun ⟨p, p', h1, h2, s1, s2, q⟩ =>
    op_neD hu pins s σ H x y v u Q I rx ry ⟨p, p', DPy.dp rs p d x h1 rd, DPy.dp rs p' e y h2 re, s1, s2, up_at up rs (d := .bl (!PyData.eqv p p')) rfl q⟩
  cases d <;> cases e <;> try exact gen q
  case int.int i j =>
    have rd : x = .int i := rd
    have re : y = .int j := re
    subst rd re
    refine op_ne pins s σ H _ _ v u Q I rx ry ⟨rfl, ?_⟩
    have e : decide (V.int i = V.int j) = decide (i = j) := by simp
    rw [e]
    exact up_at up rs (d := .bl (!decide (i = j))) rfl q
  case str.str i j =>
    have rd : x = .str i := rd
    have re : y = .str j := re
    subst rd re
    refine op_ne pins s σ H _ _ v u Q I rx ry ⟨rfl, ?_⟩
    have e : decide (V.str i = V.str j) = decide (i = j) := by simp
    rw [e]
    exact up_at up rs (d := .bl (!decide (i = j))) rfl q
  case bl.bl i j =>
    have rd : x = .bl i := rd
    have re : y = .bl j := re
    subst rd re
    refine op_ne pins s σ H _ _ v u Q I rx ry ⟨rfl, ?_⟩
    have e : decide (V.bl i = V.bl j) = decide (i = j) := by simp
    rw [e]
    exact up_at up rs (d := .bl (!decide (i = j))) rfl q
theorem non_iff {K : PySem.W.Frag} {H : Hp} {al : List Addr} {d : D} {x : V} (r : RD K H al d x) : decide (x = .non) = isNon d := by
  cases d with
  | non => cases (show x = .non from r); rfl
  | bl b => cases (show x = .bl b from r); rfl
  | int b => cases (show x = .int b from r); rfl
  | str b => cases (show x = .str b from r); simp [isNon]
  | tup ds => obtain ⟨a, vs, e, _⟩ := r; subst e; simp [isNon]
  | ref n => obtain ⟨a, e, _⟩ := r; subst e; simp [isNon]
theorem o_is : OpR X (compareOp .Is) (LL2 (cy X E) rIs) := by
  intro pins s σ H x y v u Q I rx ry ⟨d, e, al, S, kd, xd, rs, rd, re, q, up, ux⟩
  cases e <;> try exact q.elim
  case non =>
    refine op_isN pins s σ H x y v u Q I rx ry ⟨re, ?_⟩
    rw [non_iff rd]
    exact up_at up rs (d := .bl (isNon d)) rfl q
  case bl j =>
    cases d <;> try exact q.elim
    case bl i => exact op_is_bl pins s σ H x y v u Q I rx ry ⟨i, j, rd, re, up_at up rs (d := .bl (decide (i = j))) rfl q⟩
theorem o_isNot : OpR X (compareOp .IsNot) (LL2 (cy X E) rIsNot) := by
  intro pins s σ H x y v u Q I rx ry ⟨d, e, al, S, kd, xd, rs, rd, re, q, up, ux⟩
  cases e <;> try exact q.elim
  case non =>
    refine op_notN pins s σ H x y v u Q I rx ry ⟨re, ?_⟩
    rw [non_iff rd]
    exact up_at up rs (d := .bl (!isNon d)) rfl q
  case bl j =>
    cases d <;> try exact q.elim
    case bl i => exact op_isnot_bl pins s σ H x y v u Q I rx ry ⟨i, j, rd, re, up_at up rs (d := .bl (!decide (i = j))) rfl q⟩
theorem flat_v {K : PySem.W.Frag} {H : Hp} {al : List Addr} {d : D} {x : V} (r : RD K H al d x) (f : flatD d = true) : flatV x = true := by
  cases d with
  | non => cases (show x = .non from r); rfl
  | bl b => cases (show x = .bl b from r); rfl
  | int b => cases (show x = .int b from r); rfl
  | str b => cases (show x = .str b from r); rfl
  | tup ds => cases f
  | ref n => cases f
theorem eqF_v {K : PySem.W.Frag} {H : Hp} {al : List Addr} {d e : D} {x y : V} (r : RD K H al d x) (r' : RD K H al e y) (f : flatD d = true) (f' : flatD e = true) : eqV x y = eqF d e := by
  cases d <;> (try cases f) <;> cases e <;> (try cases f') <;> (have r1 : x = _ := r; have r2 : y = _ := r'; subst r1 r2; rfl)
theorem inF_v {K : PySem.W.Frag} {H : Hp} {al : List Addr} {d : D} {x : V} (r : RD K H al d x) (f : flatD d = true) : ∀ {ds : List D} {vs : List V}, RDs K H al ds vs → ds.all flatD = true → vs.all flatV = true ∧ inV x vs = inF d ds
  | [], _, h, _ => by cases (show _ = [] from h); exact ⟨rfl, rfl⟩
  | e :: ds, _, ⟨v, u, e1, h1, h2⟩, g => by
    rw [List.all_cons, Bool.and_eq_true] at g
    subst e1
    obtain ⟨q1, q2⟩ := inF_v r f h2 g.2
    refine ⟨by rw [List.all_cons, flat_v h1 g.1, q1]; rfl, ?_⟩
    show (eqV v x || inV x u) = (eqF e d || inF d ds)
    rw [eqF_v h1 r g.1 f, q2]
theorem o_in : OpR X (compareOp .In) (LL2 (cy X E) rIn) := by
  intro pins s σ H x y v u Q I rx ry ⟨d, e, al, S, kd, xd, rs, rd, re, q, up, ux⟩
  cases e <;> try exact q.elim
  case tup ds =>
    obtain ⟨a, vs, ey, hs, r1⟩ := re
    obtain ⟨f1, f2, q⟩ := q
    obtain ⟨g1, g2⟩ := inF_v rd f1 r1 f2
    refine op_in_seq pins s σ H x y v u Q I rx ry ⟨a, vs, ey, .inr hs, flat_v rd f1, g1, ?_⟩
    show Q (.bl (inV x vs)) H
    rw [g2]
    exact up_at up rs (d := .bl _) rfl q
  case ref n =>
    obtain ⟨ds, hl, f1, f2, q⟩ := q
    obtain ⟨a, vs, ey, _, hs, r1⟩ := isL_at rs hl re
    obtain ⟨g1, g2⟩ := inF_v rd f1 r1 f2
    refine op_in_seq pins s σ H x y v u Q I rx ry ⟨a, vs, ey, .inl hs, flat_v rd f1, g1, ?_⟩
    show Q (.bl (inV x vs)) H
    rw [g2]
    exact up_at up rs (d := .bl _) rfl q
theorem o_notIn : OpR X (compareOp .NotIn) (LL2 (cy X E) rNotIn) := by
  intro pins s σ H x y v u Q I rx ry ⟨d, e, al, S, kd, xd, rs, rd, re, q, up, ux⟩
  cases e <;> try exact q.elim
  case tup ds =>
    obtain ⟨a, vs, ey, hs, r1⟩ := re
    obtain ⟨f1, f2, q⟩ := q
    obtain ⟨g1, g2⟩ := inF_v rd f1 r1 f2
    refine op_notIn_seq pins s σ H x y v u Q I rx ry ⟨a, vs, ey, .inr hs, flat_v rd f1, g1, ?_⟩
    show Q (.bl (!inV x vs)) H
    rw [g2]
    exact up_at up rs (d := .bl _) rfl q
  case ref n =>
    obtain ⟨ds, hl, f1, f2, q⟩ := q
    obtain ⟨a, vs, ey, _, hs, r1⟩ := isL_at rs hl re
    obtain ⟨g1, g2⟩ := inF_v rd f1 r1 f2
    refine op_notIn_seq pins s σ H x y v u Q I rx ry ⟨a, vs, ey, .inl hs, flat_v rd f1, g1, ?_⟩
    show Q (.bl (!inV x vs)) H
    rw [g2]
    exact up_at up rs (d := .bl _) rfl q
end
end Q
namespace Q
open PySem
open Spec PyProof.Rows L2

/-! ### types -/
inductive Ty | non | bool | int | str | tuple | list | dict
  deriving DecidableEq
def Ty.name : Ty → String
  | .non => "NoneType" | .bool => "bool" | .int => "int" | .str => "str" | .tuple => "tuple" | .list => "list" | .dict => "dict"
/-- is a thing of the first type one of the second -/
def isTy : Ty → Ty → Bool
  | .bool, .int => true
  | .non, .non => true
  | .bool, .bool => true
  | .int, .int => true
  | .str, .str => true
  | .tuple, .tuple => true
  | .list, .list => true
  | .dict, .dict => true
  | _, _ => false
theorem kitB_ty : ∀ a b : Ty, b ≠ .non → kitB a.name b.name = some (isTy a b) := by
  intro a b h
  cases b <;> (first | exact absurd rfl h | (cases a <;> decide +kernel))
/-- the kind of an object of the store -/
def tyR (S : Sto) (n : Nat) : Option Ty := match S[n]? with
  | some (.lst _) => some .list
  | some (.ro _) => some .list
  | some (.dic _) => some .dict
  | _ => none
def rIsi (T : Ty) : R1D := fun d S k _ => match d with
  | .non => k (.bl (isTy .non T)) S
  | .bl _ => k (.bl (isTy .bool T)) S
  | .int _ => k (.bl (isTy .int T)) S
  | .str _ => k (.bl (isTy .str T)) S
  | .tup _ => k (.bl (isTy .tuple T)) S
  | .ref n => ∃ t, tyR S n = some t ∧ k (.bl (isTy t T)) S
def rIsi2 (T U : Ty) : R1D := fun d S k _ => match d with
  | .non => k (.bl (isTy .non T || isTy .non U)) S
  | .bl _ => k (.bl (isTy .bool T || isTy .bool U)) S
  | .int _ => k (.bl (isTy .int T || isTy .int U)) S
  | .str _ => k (.bl (isTy .str T || isTy .str U)) S
  | .tup _ => k (.bl (isTy .tuple T || isTy .tuple U)) S
  | .ref n => ∃ t, tyR S n = some t ∧ k (.bl (isTy t T || isTy t U)) S
section
variable {X : Cx} {E : XK} {e : Expr} {te : TED} {pos p p2 p3 : Pos}
theorem tyx_of {K : PySem.W.Frag} {H : Hp} {al : List Addr} {S : Sto} {d : D} {x : V} (rs : RS K H al S) (r : RD K H al d x) {R : Ty → Prop}
    (h : match d with | .non => R .non | .bl _ => R .bool | .int _ => R .int | .str _ => R .str | .tup _ => R .tuple | .ref n => ∃ t, tyR S n = some t ∧ R t) :
    ∃ t, TyX K H x (.type (Ty.name t)) ∧ R t := by
  cases d with
  | non => cases (show x = .non from r); exact ⟨.non, .base .non, h⟩
  | bl b => cases (show x = .bl b from r); exact ⟨.bool, .base (.bl b), h⟩
  | int b => cases (show x = .int b from r); exact ⟨.int, .base (.int b), h⟩
  | str b => cases (show x = .str b from r); exact ⟨.str, .base (.str b), h⟩
  | tup ds =>
    obtain ⟨a, vs, e, hs, _⟩ := r
    subst e
    refine ⟨.tuple, ?_, h⟩
    rcases hs with (hs | ⟨o, hs⟩) | ⟨o, its, n, lk, hc, _⟩
    · exact .base (.tup hs)
    · exact .fTuple hs
    · exact .kTuple lk hc
  | ref n =>
    obtain ⟨a, e, ha⟩ := r
    subst e
    obtain ⟨t, ht, h⟩ := h
    unfold tyR at ht
    cases eS : S[n]? with
    | none => rw [eS] at ht; cases ht
    | some o =>
      rw [eS] at ht
      have ro := rs.ob n o a eS ha
      cases o with
      | lst ds =>
        cases ht
        obtain ⟨vs, e1, _⟩ := ro
        exact ⟨.list, .base (.lst e1), h⟩
      | ro ds =>
        cases ht
        obtain ⟨vs, e1, _⟩ := ro
        rcases e1 with ⟨o, e1⟩ | ⟨o, its, m, lk, hc, _⟩
        · exact ⟨.list, .base (.frz e1), h⟩
        · exact ⟨.list, .kList lk hc, h⟩
      | dic ds =>
        cases ht
        obtain ⟨vs, e1, _⟩ := ro
        exact ⟨.dict, .base (.dK e1), h⟩
      | exo x d => cases ht
      | oth => cases ht
theorem q_isi {T : Str} (t : Ty) (ht : t ≠ .non) (he : QE X E e te) (hg : Gl X "isinstance") (hm : X.mg "isinstance" = none) (gT : Gl X T) (mT : X.mg T = none) (bT : bootBuiltins T = some (.type t.name)) (hn : T ≠ "__name__" := by decide) (hd : (T == ("__debug__" : Str)) = false := by decide)
    (hs1 : starEach [e, .Name T p2] X.env = (false, eval e X.env) :: starEach [.Name T p2] X.env := by rfl) (hs2 : starEach [.Name T p2] X.env = (false, eval (.Name T p2) X.env) :: starEach [] X.env := by rfl) (hpl : (backTo pos (starEach [.Name T p2] X.env)).any (·.1) = false := by rfl) :
    QE X E (.Call (.Name "isinstance" p) [e, .Name T p2] [] pos) (dUn (rIsi t) te) := by
  refine pe_imp (pe_callB call_isi hg hm boot_isinstance (pa_cons he (pa_cons (pe_bltn (v := .ty t.name) gT mT bT rfl hn hd) pa_nil hs2) hs1) (by decide) (by decide) hs1 hpl) fun s H Q ⟨sg, al, S, kd, xd, rs, rl, q, up, ux⟩ => ?_
  refine ⟨sg, al, S, _, xd, rs, rl, q, fun d S1 al1 H1 v f1 r1 q1 => ?_, ux⟩
  obtain ⟨t', h1, h2⟩ := tyx_of (R := fun t' => kd (.bl (isTy t' t)) S1) f1.rs r1 (by cases d <;> exact q1)
  exact ⟨v, .ty t.name, .type t'.name, .type t.name, isTy t' t, rfl, .ty _, h1, kit_ty (kitB_ty t' t ht), (up.mono f1) (.bl (isTy t' t)) S1 al1 H1 _ (.now f1.rs) rfl h2⟩
theorem q_isi2 {T U : Str} (t u : Ty) (ht : t ≠ .non) (hu : u ≠ .non) {k0 : Nat} (he : QE X E e te) (hg : Gl X "isinstance") (hm : X.mg "isinstance" = none) (gT : Gl X T) (mT : X.mg T = none) (bT : bootBuiltins T = some (.type t.name)) (gU : Gl X U) (mU : X.mg U = none) (bU : bootBuiltins U = some (.type u.name))
    (hn : T ≠ "__name__" := by decide) (hd : (T == ("__debug__" : Str)) = false := by decide) (hn' : U ≠ "__name__" := by decide) (hd' : (U == ("__debug__" : Str)) = false := by decide) {pt : Pos}
    (hs1 : starEach [e, .Tuple [.Name T p2, .Name U p3] k0 pt] X.env = (false, eval e X.env) :: starEach [.Tuple [.Name T p2, .Name U p3] k0 pt] X.env := by rfl) (hs2 : starEach [.Tuple [.Name T p2, .Name U p3] k0 pt] X.env = (false, eval (.Tuple [.Name T p2, .Name U p3] k0 pt) X.env) :: starEach [] X.env := by rfl)
    (hs3 : starEach [.Name T p2, .Name U p3] X.env = (false, eval (.Name T p2) X.env) :: starEach [.Name U p3] X.env := by rfl) (hs4 : starEach [.Name U p3] X.env = (false, eval (.Name U p3) X.env) :: starEach [] X.env := by rfl)
    (hpl : (backTo pos (starEach [.Tuple [.Name T p2, .Name U p3] k0 pt] X.env)).any (·.1) = false := by rfl) :
    QE X E (.Call (.Name "isinstance" p) [e, .Tuple [.Name T p2, .Name U p3] k0 pt] [] pos) (dUn (rIsi2 t u) te) := by
  refine pe_imp (pe_callB call_isiT hg hm boot_isinstance (pa_cons he (pa_cons (pe_tup (pa_cons (pe_bltn (v := .ty t.name) gT mT bT rfl hn hd) (pa_cons (pe_bltn (v := .ty u.name) gU mU bU rfl hn' hd') pa_nil hs4) hs3)) pa_nil hs2) hs1) (by decide) (by decide) hs1 hpl) fun s H Q ⟨sg, al, S, kd, xd, rs, rl, q, up, ux⟩ => ?_
  refine ⟨sg, al, S, _, xd, rs, rl, q, fun d S1 al1 H1 v f1 r1 q1 => ?_, ux⟩
  refine ⟨by show 2 ≤ sizeLine; decide, fun tp hp => ?_⟩
  have f2 : Fut X.K H1 al1 (upd H1 tp (.tup [V.ty t.name, V.ty u.name])) al1 S1 := Fut.lay f1.rs hp
  obtain ⟨t', h1, h2⟩ := tyx_of (R := fun t' => kd (.bl (isTy t' t || isTy t' u)) S1) f2.rs (f2.rd r1) (by cases d <;> exact q1)
  refine ⟨v, tp, [.ty t.name, .ty u.name], .type t'.name, [.type t.name, .type u.name], (isTy t' t || isTy t' u), rfl, upd_same, .cons (.ty _) (.cons (.ty _) .nil), h1, ?_, up (.bl (isTy t' t || isTy t' u)) S1 al1 _ _ (f1.trans f2) rfl h2⟩
  refine kitAny_cons (kit_ty (kitB_ty t' t ht)) (fun e0 => ?_) (fun e0 => by rw [e0]; rfl)
  rw [e0]
  exact kitAny_cons (kit_ty (kitB_ty t' u hu)) (fun e1 => by rw [e1]; rfl) (fun e1 => by rw [e1]; rfl)
end

/-! ### subscripts, slices -/
def rIx : R2D := fun d e S k _ => match d, e with
  | .tup ds, .int i => ∃ x, atI ds i = some x ∧ k x S
  | .ref n, .int i => ∃ ds x, isL S n ds ∧ atI ds i = some x ∧ k x S
  | .str z, .int i => z.length ≤ sizeLine ∧ ∃ c, atI z.cps.toList i = some c ∧ k (.str ⟨#[c]⟩) S
  | _, _ => False
abbrev TOD := Sl → Sto → (Option Int → Sto → Prop) → XD → Prop
def LO (Y : Cy) (t : TOD) : TO := fun sv H Q => ∃ sg al S kd xd, RS Y.K H al S ∧ RSl Y.K H al sg sv ∧ t sg S kd xd ∧ (∀ o S' al' H', Fut Y.K H al H' al' S' → kd o S' → Q o H') ∧ UpX Y H al xd
def dNoP : TOD := fun _ S k _ => k none S
def kPart (k : Option Int → Sto → Prop) : KD := fun d S => match d with
  | .int i => k (some i) S
  | _ => False
def dPart (t : TED) : TOD := fun sg S k x => t sg S (kPart k) x
def cutD (ds : List D) (lo hi : Option Int) : List D := (ds.drop (HT.sIx ds.length 0 lo)).take (HT.sIx ds.length ds.length hi - HT.sIx ds.length 0 lo)
abbrev RSlD := D → Option Int → Option Int → Sto → KD → XD → Prop
def rSl : RSlD := fun d lo hi S k _ => match d with
  | .tup ds => k (.tup (cutD ds lo hi)) S
  | .ref n => ∃ ds, isL S n ds ∧ k (.ref S.length) (S ++ [.lst (cutD ds lo hi)])
  | .str z => z.length ≤ sizeLine ∧ k (.str (cutS z lo hi)) S
  | _ => False
def kSl3 (k : KD) (x : XD) (d : D) (lo : Option Int) : Option Int → Sto → Prop := fun hi S => rSl d lo hi S k x
def kSl2 (th : TOD) (sg : Sl) (k : KD) (x : XD) (d : D) : Option Int → Sto → Prop := fun lo S => th sg S (kSl3 k x d lo) x
def kSl1 (tl th : TOD) (sg : Sl) (k : KD) (x : XD) : KD := fun d S => tl sg S (kSl2 th sg k x d) x
def dSl (te : TED) (tl th : TOD) : TED := fun sg S k x => te sg S (kSl1 tl th sg k x) x
section
variable {X : Cx} {E : XK} {a b e : Expr} {ta tb te : TED} {pos p2 : Pos} {lo hi : Option Expr} {tl th : TOD}
theorem atI_rd {K : PySem.W.Frag} {H : Hp} {al : List Addr} {ds : List D} {vs : List V} {i : Int} {d : D} (r : RDs K H al ds vs) (h : atI ds i = some d) : ∃ v, atI vs i = some v ∧ RD K H al d v := by
  unfold atI at h ⊢
  rw [RDs.length r]
  cases e : ixN ds.length i with
  | none => rw [e] at h; cases h
  | some j =>
    rw [e] at h
    exact RDs.get r h
theorem o_ix : IxR X (LL2 (cy X E) rIx) := by
  intro value slice pins s σ H x y v u Q I rx ry ⟨d, e, al, S, kd, xd, rs, rd, re, q, up, ux⟩ hs
  cases d <;> cases e <;> try exact q.elim
  case tup.int ds i =>
    obtain ⟨z, hz, q⟩ := q
    obtain ⟨a, vs, e1, h1, r1⟩ := rd
    obtain ⟨w, hw, rw'⟩ := atI_rd r1 hz
    exact ix_tup value slice pins s σ H x y v u Q I rx ry ⟨a, vs, i, w, e1, re, h1, hw, up_at up rs rw' q⟩ hs
  case ref.int n i =>
    obtain ⟨ds, z, hl, hz, q⟩ := q
    obtain ⟨a, vs, e1, _, h1, r1⟩ := isL_at rs hl rd
    obtain ⟨w, hw, rw'⟩ := atI_rd r1 hz
    exact ix_list value slice pins s σ H x y v u Q I rx ry ⟨a, vs, i, w, e1, re, h1, hw, up_at up rs rw' q⟩ hs
  case str.int z i =>
    obtain ⟨hz, c, hc, q⟩ := q
    exact ix_str value slice pins s σ H x y v u Q I rx ry ⟨z, i, c, rd, re, hz, hc, up_at up rs (d := .str ⟨#[c]⟩) rfl q⟩ hs
theorem q_ix (ha : QE X E a ta) (hb : QE X E b tb) (hs : PlainIx b := by intro _ _; rfl) : QE X E (.Subscript a b pos) (dOp rIx ta tb) :=
  pe_imp (pe_ix o_ix ha hb hs) fun s H Q ⟨sg, al, S, kd, xd, rs, rl, q, up, ux⟩ => ⟨sg, al, S, kOp1 rIx tb sg kd xd, xd, rs, rl, q,
    fun d1 S1 al1 H1 v1 f1 r1 q1 => ⟨sg, al1, S1, kOp2 rIx kd xd d1, xd, f1.rs, f1.rsl rl, q1, fun d2 S2 al2 H2 v2 f2 r2 q2 =>
      ⟨d1, d2, al2, S2, kd, xd, f2.rs, f2.rd r1, r2, q2, up.mono (f1.trans f2), ux.mono (f1.trans f2)⟩, ux.mono f1⟩, ux⟩
abbrev QO (X : Cx) (E : XK) (e : Option Expr) (t : TOD) : Prop := PO X e (LO (cy X E) t)
theorem po_imp {e : Option Expr} {t t' : TO} (h : PO X e t) (f : ∀ s H Q, t' s H Q → t s H Q) : PO X e t' := ⟨fun pins s σ H Q I q => h.run pins s σ H Q I (f σ H Q q)⟩
theorem q_noP : QO X E none dNoP := po_imp po_none fun s H Q ⟨sg, al, S, kd, xd, rs, rl, q, up, ux⟩ => up none S al H (.now rs) q
theorem q_part (h : QE X E e te) : QO X E (some e) (dPart te) := po_imp (po_some h) fun s H Q ⟨sg, al, S, kd, xd, rs, rl, q, up, ux⟩ => ⟨sg, al, S, kPart kd, xd, rs, rl, q, fun d S1 al1 H1 v f1 r1 q1 => by
  cases d with
  | int i => exact ⟨i, r1, up (some i) S1 al1 H1 f1 q1⟩
  | _ => exact q1.elim, ux⟩
def LLsl (Y : Cy) (r : RSlD) : V → Option Int → Option Int → Hp → VK → Prop := fun x lo hi H Q => ∃ d al S kd xd, RS Y.K H al S ∧ RD Y.K H al d x ∧ r d lo hi S kd xd ∧ Up Y.K H al kd Q ∧ UpX Y H al xd
theorem cut_rd {K : PySem.W.Frag} {H : Hp} {al : List Addr} {ds : List D} {vs : List V} (r : RDs K H al ds vs) (lo hi : Option Int) : RDs K H al (cutD ds lo hi) (cutV vs lo hi) := by
  unfold cutD cutV
  rw [RDs.length r]
  exact RDs.take _ (RDs.drop _ r)
theorem o_sl : SlR X (LLsl (cy X E) rSl) := by
  intro pins s σ H x v vl vu lo hi sl Q I rx hs pl pu ⟨d, al, S, kd, xd, rs, rd, q, up, ux⟩
  cases d <;> try exact q.elim
  case tup ds =>
    obtain ⟨a, vs, e1, h1, r1⟩ := rd
    refine sl_tupA pins s σ H x v vl vu lo hi sl Q I rx hs pl pu ⟨a, vs, e1, h1, fun hw => ?_, fun hw p hp => up_tup up rs hp (cut_rd r1 lo hi) q⟩
    have e : cutD ds lo hi = ds := by
      unfold cutD
      rw [RDs.length r1] at hw
      rw [hw.1, hw.2]
      simp
    have q : kd (.tup (cutD ds lo hi)) S := q
    rw [e] at q
    exact up_at up rs (d := .tup ds) ⟨a, vs, rfl, h1, r1⟩ q
  case ref n =>
    obtain ⟨ds, hl, q⟩ := q
    obtain ⟨a, vs, e1, _, h1, r1⟩ := isL_at rs hl rd
    exact sl_list pins s σ H x v vl vu lo hi sl Q I rx hs pl pu ⟨a, vs, e1, h1, fun p hp => up_new up rs hp (cut_rd r1 lo hi) q⟩
  case str z =>
    exact sl_str pins s σ H x v vl vu lo hi sl Q I rx hs pl pu ⟨z, rd, q.1, up_at up rs (d := .str (cutS z lo hi)) rfl q.2⟩
theorem q_slice (he : QE X E e te) (hl : QO X E lo tl) (hu : QO X E hi th) : QE X E (.Subscript e (.Slice lo hi none p2) pos) (dSl te tl th) :=
  pe_imp (pe_slice (o_sl (E := E)) he hl hu) fun s H Q ⟨sg, al, S, kd, xd, rs, rl, q, up, ux⟩ => ⟨sg, al, S, kSl1 tl th sg kd xd, xd, rs, rl, q,
    fun d1 S1 al1 H1 v1 f1 r1 q1 => ⟨sg, al1, S1, kSl2 th sg kd xd d1, xd, f1.rs, f1.rsl rl, q1, fun l S2 al2 H2 f2 q2 =>
      ⟨sg, al2, S2, kSl3 kd xd d1 l, xd, f2.rs, (f1.trans f2).rsl rl, q2, fun u S3 al3 H3 f3 q3 => ⟨d1, al3, S3, kd, xd, f3.rs, (f2.trans f3).rd r1, q3, up.mono ((f1.trans f2).trans f3), ux.mono ((f1.trans f2).trans f3)⟩, ux.mono (f1.trans f2)⟩, ux.mono f1⟩, ux⟩
end

/-! ### built-ins by values -/
def spLen : SpD := fun ds S k _ => match ds with
  | [.tup xs] => k (.int xs.length) S
  | [.ref n] => ∃ xs, isL S n xs ∧ k (.int xs.length) S
  | [.str z] => z.length ≤ sizeLine ∧ k (.int z.length) S
  | _ => False
def spInt : SpD := fun ds S k _ => match ds with
  | [.int i] => k (.int i) S
  | [.bl b] => k (.int (if b then 1 else 0)) S
  | _ => False
def spTuple : SpD := fun ds S k _ => match ds with
  | [.tup xs] => k (.tup xs) S
  | [.ref n] => ∃ xs, isL S n xs ∧ k (.tup xs) S
  | _ => False
def spList : SpD := fun ds S k _ => match ds with
  | [.tup xs] => k (.ref S.length) (S ++ [.lst xs])
  | [.ref n] => ∃ xs, isL S n xs ∧ k (.ref S.length) (S ++ [.lst xs])
  | _ => False
def spAll : SpD := fun ds S k _ => match ds with
  | [.ref n] => ∃ bs : List Bool, isL S n (bs.map D.bl) ∧ k (.bl (bs.all id)) S
  | _ => False
def spAny : SpD := fun ds S k _ => match ds with
  | [.ref n] => ∃ bs : List Bool, isL S n (bs.map D.bl) ∧ k (.bl (bs.any id)) S
  | _ => False
def spSum : SpD := fun ds S k _ => match ds with
  | [.ref n] => ∃ ns : List Int, isL S n (ns.map D.int) ∧ k (.int ns.sum) S
  | _ => False
def spSorted : SpD := fun ds S k _ => match ds with
  | [.ref n] => ∃ ns : List Int, isL S n (ns.map D.int) ∧ ∀ ms : List Int, ms.Perm ns → ms.Pairwise (· ≤ ·) → k (.ref S.length) (S ++ [.lst (ms.map D.int)])
  | _ => False
def spAbs : SpD := fun ds S k _ => match ds with
  | [.int i] => k (.int (if i < 0 then -i else i)) S
  | _ => False
def spMax : SpD := fun ds S k _ => match ds with
  | [.int i, .int j] => k (.int (if j > i then j else i)) S
  | [.ref n] => ∃ ns : List Int, isL S n (ns.map D.int) ∧ 0 < ns.length ∧ ∀ m, m ∈ ns → (∀ y, y ∈ ns → y ≤ m) → k (.int m) S
  | _ => False
def spMin : SpD := fun ds S k _ => match ds with
  | [.int i, .int j] => k (.int (if j < i then j else i)) S
  | [.int i, .int j, .int l] => k (.int (if l < (if j < i then j else i) then l else if j < i then j else i)) S
  | [.ref n] => ∃ ns : List Int, isL S n (ns.map D.int) ∧ 0 < ns.length ∧ ∀ m, m ∈ ns → (∀ y, y ∈ ns → m ≤ y) → k (.int m) S
  | _ => False
section
variable {X : Cx} {E : XK} {e : Expr} {es : List Expr} {tr : TAD} {pos p : Pos}
theorem rds1 {K : PySem.W.Frag} {H : Hp} {al : List Addr} {d : D} {vs : List V} (r : RDs K H al [d] vs) : ∃ v, vs = [v] ∧ RD K H al d v := by
  obtain ⟨v, u, e, h1, h2⟩ := r
  cases (show u = [] from h2)
  exact ⟨v, e, h1⟩
theorem rds2 {K : PySem.W.Frag} {H : Hp} {al : List Addr} {d d' : D} {vs : List V} (r : RDs K H al [d, d'] vs) : ∃ v v', vs = [v, v'] ∧ RD K H al d v ∧ RD K H al d' v' := by
  obtain ⟨v, u, e, h1, h2⟩ := r
  obtain ⟨v', e', h3⟩ := rds1 h2
  subst e'
  exact ⟨v, v', e, h1, h3⟩
theorem rd_ints {K : PySem.W.Frag} {H : Hp} {al : List Addr} : ∀ {ns : List Int} {vs : List V}, RDs K H al (ns.map D.int) vs → vs = ns.map V.int
  | [], _, h => h
  | n :: ns, _, ⟨v, u, e, h1, h2⟩ => by
    rw [e, rd_ints h2, show v = .int n from h1]
    rfl
theorem ints_rd {K : PySem.W.Frag} {H : Hp} {al : List Addr} : ∀ (ns : List Int), RDs K H al (ns.map D.int) (ns.map V.int)
  | [] => rfl
  | n :: ns => ⟨_, _, rfl, rfl, ints_rd ns⟩
theorem rd_bls {K : PySem.W.Frag} {H : Hp} {al : List Addr} : ∀ {ns : List Bool} {vs : List V}, RDs K H al (ns.map D.bl) vs → vs = ns.map V.bl
  | [], _, h => h
  | n :: ns, _, ⟨v, u, e, h1, h2⟩ => by
    rw [e, rd_bls h2, show v = .bl n from h1]
    rfl
theorem c_len : CallR X (.builtin "len") (LLs (cy X E) spLen) := by
  intro pins s σ H xs us Q I r ⟨ds, al, S, kd, xd, rs, rd, q, up, ux⟩
  unfold spLen at q
  split at q
  · obtain ⟨v, e, a, vs, e2, h1, r1⟩ := rds1 rd
    subst e e2
    refine call_len_seq pins s σ H _ us Q I r ⟨a, vs, rfl, .inr h1, ?_⟩
    rw [RDs.length r1]
    exact up_at up rs (d := .int _) rfl q
  · obtain ⟨xs, hl, q⟩ := q
    obtain ⟨v, e, rv⟩ := rds1 rd
    obtain ⟨a, vs, e2, _, h1, r1⟩ := isL_at rs hl rv
    subst e e2
    refine call_len_seq pins s σ H _ us Q I r ⟨a, vs, rfl, .inl h1, ?_⟩
    rw [RDs.length r1]
    exact up_at up rs (d := .int _) rfl q
  · obtain ⟨v, e, rv⟩ := rds1 rd
    cases (show v = _ from rv)
    subst e
    exact call_len_str pins s σ H _ us Q I r ⟨_, rfl, q.1, up_at up rs (d := .int _) rfl q.2⟩
  · exact q.elim
theorem c_int : CallR X (.type "int") (LLs (cy X E) spInt) := by
  intro pins s σ H xs us Q I r ⟨ds, al, S, kd, xd, rs, rd, q, up, ux⟩
  unfold spInt at q
  split at q
  · obtain ⟨v, e, rv⟩ := rds1 rd
    cases (show v = _ from rv)
    subst e
    exact call_int1 pins s σ H _ us Q I r (.inl ⟨_, rfl, up_at up rs (d := .int _) rfl q⟩)
  · obtain ⟨v, e, rv⟩ := rds1 rd
    cases (show v = _ from rv)
    subst e
    exact call_int1 pins s σ H _ us Q I r (.inr ⟨_, rfl, up_at up rs (d := .int _) rfl q⟩)
  · exact q.elim
theorem c_tuple : CallR X (.type "tuple") (LLs (cy X E) spTuple) := by
  intro pins s σ H xs us Q I r ⟨ds, al, S, kd, xd, rs, rd, q, up, ux⟩
  unfold spTuple at q
  split at q
  · obtain ⟨v, e, a, vs, e2, h1, r1⟩ := rds1 rd
    subst e e2
    exact call_tuple_of pins s σ H _ us Q I r ⟨a, vs, rfl, .inr ⟨h1, up_at up rs (d := .tup _) ⟨a, vs, rfl, h1, r1⟩ q⟩⟩
  · obtain ⟨xs, hl, q⟩ := q
    obtain ⟨v, e, rv⟩ := rds1 rd
    obtain ⟨a, vs, e2, _, h1, r1⟩ := isL_at rs hl rv
    subst e e2
    exact call_tuple_of pins s σ H _ us Q I r ⟨a, vs, rfl, .inl ⟨h1, fun l hl => up_tup up rs hl r1 q⟩⟩
  · exact q.elim
theorem c_list : CallR X (.type "list") (LLs (cy X E) spList) := by
  intro pins s σ H xs us Q I r ⟨ds, al, S, kd, xd, rs, rd, q, up, ux⟩
  unfold spList at q
  split at q
  · obtain ⟨v, e, a, vs, e2, h1, r1⟩ := rds1 rd
    subst e e2
    exact call_list_of pins s σ H _ us Q I r ⟨a, vs, rfl, .inr h1, fun l hl => up_new up rs hl r1 q⟩
  · obtain ⟨xs, hl, q⟩ := q
    obtain ⟨v, e, rv⟩ := rds1 rd
    obtain ⟨a, vs, e2, _, h1, r1⟩ := isL_at rs hl rv
    subst e e2
    exact call_list_of pins s σ H _ us Q I r ⟨a, vs, rfl, .inl h1, fun l hl => up_new up rs hl r1 q⟩
  · exact q.elim
theorem c_all (hc : X.calm = true) : CallR X (.builtin "all") (LLs (cy X E) spAll) := by
  intro pins s σ H xs us Q I r ⟨ds, al, S, kd, xd, rs, rd, q, up, ux⟩
  unfold spAll at q
  split at q
  · obtain ⟨bs, hl, q⟩ := q
    obtain ⟨v, e, rv⟩ := rds1 rd
    obtain ⟨a, vs, e2, _, h1, r1⟩ := isL_at rs hl rv
    have e3 := rd_bls r1
    subst e e2 e3
    exact cr_all hc pins s σ H _ us Q I r ⟨a, bs, rfl, h1, up_at up rs (d := .bl _) rfl q⟩
  · exact q.elim
theorem c_any (hc : X.calm = true) : CallR X (.builtin "any") (LLs (cy X E) spAny) := by
  intro pins s σ H xs us Q I r ⟨ds, al, S, kd, xd, rs, rd, q, up, ux⟩
  unfold spAny at q
  split at q
  · obtain ⟨bs, hl, q⟩ := q
    obtain ⟨v, e, rv⟩ := rds1 rd
    obtain ⟨a, vs, e2, _, h1, r1⟩ := isL_at rs hl rv
    have e3 := rd_bls r1
    subst e e2 e3
    exact cr_any hc pins s σ H _ us Q I r ⟨a, bs, rfl, h1, up_at up rs (d := .bl _) rfl q⟩
  · exact q.elim
theorem c_sum (hc : X.calm = true) : CallR X (.builtin "sum") (LLs (cy X E) spSum) := by
  intro pins s σ H xs us Q I r ⟨ds, al, S, kd, xd, rs, rd, q, up, ux⟩
  unfold spSum at q
  split at q
  · obtain ⟨bs, hl, q⟩ := q
    obtain ⟨v, e, rv⟩ := rds1 rd
    obtain ⟨a, vs, e2, _, h1, r1⟩ := isL_at rs hl rv
    have e3 := rd_ints r1
    subst e e2 e3
    exact cr_sum hc pins s σ H _ us Q I r ⟨a, bs, rfl, h1, up_at up rs (d := .int _) rfl q⟩
  · exact q.elim
theorem c_sorted : CallR X (.builtin "sorted") (LLs (cy X E) spSorted) := by
  intro pins s σ H xs us Q I r ⟨ds, al, S, kd, xd, rs, rd, q, up, ux⟩
  unfold spSorted at q
  split at q
  · obtain ⟨bs, hl, q⟩ := q
    obtain ⟨v, e, rv⟩ := rds1 rd
    obtain ⟨a, vs, e2, _, h1, r1⟩ := isL_at rs hl rv
    have e3 := rd_ints r1
    subst e e2 e3
    exact cr_sortedI pins s σ H _ us Q I r ⟨a, bs, rfl, h1, fun ms p hp hs hn => up_new up rs hn (ints_rd ms) (q ms hp hs)⟩
  · exact q.elim
theorem c_abs : CallR X (.builtin "abs") (LLs (cy X E) spAbs) := by
  intro pins s σ H xs us Q I r ⟨ds, al, S, kd, xd, rs, rd, q, up, ux⟩
  unfold spAbs at q
  split at q
  · obtain ⟨v, e, rv⟩ := rds1 rd
    cases (show v = _ from rv)
    subst e
    exact call_abs pins s σ H _ us Q I r ⟨_, rfl, up_at up rs (d := .int _) rfl q⟩
  · exact q.elim
theorem c_max (hc : X.calm = true) : CallR X (.builtin "max") (LLs (cy X E) spMax) := by
  intro pins s σ H xs us Q I r ⟨ds, al, S, kd, xd, rs, rd, q, up, ux⟩
  unfold spMax at q
  split at q
  · obtain ⟨v, v', e, rv, rv'⟩ := rds2 rd
    cases (show v = _ from rv)
    cases (show v' = _ from rv')
    subst e
    exact call_max2 hc pins s σ H _ us Q I r ⟨_, _, rfl, up_at up rs (d := .int _) rfl q⟩
  · obtain ⟨bs, hl, h0, q⟩ := q
    obtain ⟨v, e, rv⟩ := rds1 rd
    obtain ⟨a, vs, e2, _, h1, r1⟩ := isL_at rs hl rv
    have e3 := rd_ints r1
    subst e e2 e3
    exact cr_max hc pins s σ H _ us Q I r ⟨a, bs, rfl, h1, h0, fun m hm hy => up_at up rs (d := .int m) rfl (q m hm hy)⟩
  · exact q.elim
theorem c_min (hc : X.calm = true) : CallR X (.builtin "min") (LLs (cy X E) spMin) := by
  intro pins s σ H xs us Q I r ⟨ds, al, S, kd, xd, rs, rd, q, up, ux⟩
  unfold spMin at q
  split at q
  · obtain ⟨v, v', e, rv, rv'⟩ := rds2 rd
    cases (show v = _ from rv)
    cases (show v' = _ from rv')
    subst e
    exact call_min2 hc pins s σ H _ us Q I r ⟨_, _, rfl, up_at up rs (d := .int _) rfl q⟩
  · obtain ⟨v, vs, e, rv, rt⟩ := rd
    obtain ⟨v', v'', e', rv', rv''⟩ := rds2 rt
    cases (show v = _ from rv)
    cases (show v' = _ from rv')
    cases (show v'' = _ from rv'')
    subst e'
    subst e
    have mi : ∀ i j : Int, nuMin2 (.int i) (.int j) = some (.int (if j < i then j else i)) := fun i j => by
      show some (if decide (j < i) = true then V.int j else V.int i) = _
      by_cases h : j < i <;> simp [h]
    exact call_min3Nu hc pins s σ H _ us Q I r ⟨_, _, _, _, rfl, by unfold nuMin3; rw [mi]; exact mi _ _, up_at up rs (d := .int _) rfl q⟩
  · obtain ⟨bs, hl, h0, q⟩ := q
    obtain ⟨v, e, rv⟩ := rds1 rd
    obtain ⟨a, vs, e2, _, h1, r1⟩ := isL_at rs hl rv
    have e3 := rd_ints r1
    subst e e2 e3
    exact cr_min hc pins s σ H _ us Q I r ⟨a, bs, rfl, h1, h0, fun m hm hy => up_at up rs (d := .int m) rfl (q m hm hy)⟩
  · exact q.elim
end

/-! ### methods of lists -/
abbrev RMD := D → List D → Sto → KD → XD → Prop
def rApp : RMD := fun d ds S k _ => match d, ds with
  | .ref n, [y] => ∃ xs, S[n]? = some (.lst xs) ∧ xs.length < sizeLine ∧ k .non (S.set n (.lst (xs ++ [y])))
  | _, _ => False
def rPop0 : RMD := fun d ds S k _ => match d, ds with
  | .ref n, [] => ∃ xs y, S[n]? = some (.lst xs) ∧ xs[xs.length - 1]? = some y ∧ k y (S.set n (.lst xs.dropLast))
  | _, _ => False
def rPop1 : RMD := fun d ds S k _ => match d, ds with
  | .ref n, [.int i] => ∃ xs j y, S[n]? = some (.lst xs) ∧ -(2 ^ 63) ≤ i ∧ i < 2 ^ 63 ∧ seqIndex? i xs.length = some j ∧ xs[j]? = some y ∧ k y (S.set n (.lst (xs.eraseIdx j)))
  | _, _ => False
def rRev : RMD := fun d ds S k _ => match d, ds with
  | .ref n, [] => ∃ xs, S[n]? = some (.lst xs) ∧ k .non (S.set n (.lst xs.reverse))
  | _, _ => False
def isLst (S : Sto) (d : D) : Prop := match d with
  | .ref n => ∃ ds, isL S n ds
  | _ => False
def kM2 (r : RMD) (k : KD) (x : XD) (d : D) : List D → Sto → Prop := fun ds S => r d ds S k x
def kM1 (r : RMD) (ta : TAD) (sg : Sl) (k : KD) (x : XD) : KD := fun d S => isLst S d ∧ ta sg S (kM2 r k x d) x
/-- a list's method -/
def dMet (r : RMD) (to : TED) (ta : TAD) : TED := fun sg S k x => to sg S (kM1 r ta sg k x) x
def LLm (Y : Cy) (r : RMD) : V → List V → Hp → VK → Prop := fun x vs H Q => ∃ d ds al S kd xd, RS Y.K H al S ∧ RD Y.K H al d x ∧ RDs Y.K H al ds vs ∧ r d ds S kd xd ∧ Up Y.K H al kd Q ∧ UpX Y H al xd
section
variable {X : Cx} {E : XK} {o e : Expr} {es : List Expr} {to : TED} {tr : TAD} {name : Str} {apos cpos : Pos} {id : String} {r : RMD}
theorem set_lst {K : PySem.W.Frag} {H : Hp} {al : List Addr} {S : Sto} {n : Nat} {p : Addr} {ds xs : List D} {vs : List V} (rs : RS K H al S) (h : S[n]? = some (.lst xs)) (hp : al[n]? = some p) (r : RDs K H al ds vs) : Fut K H al (upd H p (.lst vs)) al (S.set n (.lst ds)) := by
  obtain ⟨us, e1, r1⟩ := rs.ob n _ p h hp
  have kp : Keep H (upd H p (.lst vs)) := Keep.write e1 (.inl ⟨_, rfl⟩)
  refine Fut.set rs h rfl hp ⟨vs, upd_same, ?_⟩ rfl
  have := RDs.mono (t := []) kp _ _ r
  rwa [List.append_nil] at this
theorem m_app : MtR X "list.append" (LLm (cy X E) rApp) := by
  intro pins s σ H x vs v us Q I rx rv ⟨d, ds, al, S, kd, xd, rs, rd, rds, q, up, ux⟩
  unfold rApp at q
  split at q
  · obtain ⟨xs, h1, hz, q⟩ := q
    obtain ⟨a, us', e1, ha, hH, r1⟩ := lst_at rs h1 rd
    obtain ⟨y, e2, ry⟩ := rds1 rds
    exact mt_append pins s σ H x vs v us Q I rx rv ⟨a, us', y, e1, e2, hH, by rw [RDs.length r1]; exact hz, up .non _ al _ .non (set_lst rs h1 ha (RDs.append r1 (RDs.one ry))) rfl q⟩
  · exact q.elim
theorem rds_dropLast {K : PySem.W.Frag} {H : Hp} {al : List Addr} {ds : List D} {vs : List V} (r : RDs K H al ds vs) : RDs K H al ds.dropLast vs.dropLast := by
  rw [List.dropLast_eq_take, List.dropLast_eq_take, RDs.length r]
  exact RDs.take _ r
theorem rds_erase {K : PySem.W.Frag} {H : Hp} {al : List Addr} : ∀ (n : Nat) {ds : List D} {vs : List V}, RDs K H al ds vs → RDs K H al (ds.eraseIdx n) (vs.eraseIdx n)
  | _, [], _, h => by cases (show _ = [] from h); exact rfl
  | 0, d :: ds, _, ⟨v, r, e, h1, h2⟩ => by rw [e]; exact h2
  | n + 1, d :: ds, _, ⟨v, r, e, h1, h2⟩ => ⟨v, r.eraseIdx n, by rw [e]; rfl, h1, rds_erase n h2⟩
theorem m_pop0 : MtR X "list.pop" (LLm (cy X E) rPop0) := by
  intro pins s σ H x vs v us Q I rx rv ⟨d, ds, al, S, kd, xd, rs, rd, rds, q, up, ux⟩
  unfold rPop0 at q
  split at q
  · obtain ⟨xs, y, h1, hy, q⟩ := q
    obtain ⟨a, us', e1, ha, hH, r1⟩ := lst_at rs h1 rd
    obtain ⟨z, ez, rz⟩ := RDs.get r1 hy
    have f := set_lst rs h1 ha (rds_dropLast r1)
    exact mt_pop pins s σ H x vs v us Q I rx rv ⟨a, us', z, e1, rds, hH, by rw [RDs.length r1]; exact ez, up y _ al _ z f (f.rd rz) q⟩
  · exact q.elim
theorem m_pop1 : MtR X "list.pop" (LLm (cy X E) rPop1) := by
  intro pins s σ H x vs v us Q I rx rv ⟨d, ds, al, S, kd, xd, rs, rd, rds, q, up, ux⟩
  unfold rPop1 at q
  split at q
  · obtain ⟨xs, j, y, h1, i1, i2, hj, hy, q⟩ := q
    obtain ⟨a, us', e1, ha, hH, r1⟩ := lst_at rs h1 rd
    obtain ⟨z, ez, rz⟩ := RDs.get r1 hy
    obtain ⟨w, e2, rw'⟩ := rds1 rds
    cases (show w = _ from rw')
    have f := set_lst rs h1 ha (rds_erase j r1)
    exact mt_popAt pins s σ H x vs v us Q I rx rv ⟨a, us', _, j, z, e1, e2, hH, i1, i2, by rw [RDs.length r1]; exact hj, ez, up y _ al _ z f (f.rd rz) q⟩
  · exact q.elim
theorem m_rev : MtR X "list.reverse" (LLm (cy X E) rRev) := by
  intro pins s σ H x vs v us Q I rx rv ⟨d, ds, al, S, kd, xd, rs, rd, rds, q, up, ux⟩
  unfold rRev at q
  split at q
  · obtain ⟨xs, h1, q⟩ := q
    obtain ⟨a, us', e1, ha, hH, r1⟩ := lst_at rs h1 rd
    exact mt_reverse pins s σ H x vs v us Q I rx rv ⟨a, us', e1, rds, hH, up .non _ al _ .non (set_lst rs h1 ha (RDs.reverse r1)) rfl q⟩
  · exact q.elim
theorem isLst_ty {K : PySem.W.Frag} {H : Hp} {al : List Addr} {S : Sto} {d : D} {v : V} (rs : RS K H al S) (h : isLst S d) (r : RD K H al d v) : tyV K "list" v H := by
  cases d with
  | ref n =>
    obtain ⟨ds, hl⟩ := h
    obtain ⟨a, vs, e, _, h1, _⟩ := isL_at rs hl r
    subst e
    exact .inl ⟨rfl, vs, h1⟩
  | _ => exact h.elim
theorem q_met (slot : Slot "list" name id) (hty : typeOf (.builtin id) = pure (.type "method_descriptor")) (hm : MtR X id (LLm (cy X E) r)) (ho : QE X E o to) (ha : QA X E (e :: es) tr) (hbase : attributeBase o name X.env (eval o X.env) = eval o X.env := by rfl) (hfew : ((backTo cpos (starEach (e :: es) X.env)).all (fun x => !x.1) && (backToKw cpos (keywordEach [] X.env)).all (fun x => x.1.isSome) && decide ((e :: es).length + ([] : List Keyword).length + (if ([] : List Keyword).isEmpty then 0 else 1) < 30)) = true := by rfl)
    (hline : (apos.endLine == cpos.line) = true := by rfl) (hs : starEach (e :: es) X.env = (false, eval e X.env) :: starEach es X.env := by rfl) (hplain : (backTo cpos (starEach es X.env)).any (·.1) = false := by rfl) :
    QE X E (.Call (.Attribute o name apos) (e :: es) [] cpos) (dMet r to tr) :=
  pe_imp (pe_bm PySem.F.plainAttrs_list slot hty hm ho ha hbase hfew hline hs hplain) fun s H Q ⟨sg, al, S, kd, xd, rs, rl, q, up, ux⟩ => ⟨sg, al, S, kM1 r tr sg kd xd, xd, rs, rl, q, fun d S1 al1 H1 v f1 r1 q1 =>
    ⟨isLst_ty f1.rs q1.1 r1, sg, al1, S1, kM2 r kd xd d, xd, f1.rs, f1.rsl rl, q1.2, fun ds S2 al2 H2 vs f2 r2 q2 => ⟨d, ds, al2, S2, kd, xd, f2.rs, f2.rd r1, r2, q2, up.mono (f1.trans f2), ux.mono (f1.trans f2)⟩, ux.mono f1⟩, ux⟩
theorem q_met0 (slot : Slot "list" name id) (hty : typeOf (.builtin id) = pure (.type "method_descriptor")) (hm : MtR X id (LLm (cy X E) r)) (ho : QE X E o to)
    (hbase : attributeBase o name X.env (eval o X.env) = eval o X.env := by rfl) (hline : (apos.endLine == cpos.line) = true := by rfl) : QE X E (.Call (.Attribute o name apos) [] [] cpos) (dMet r to dNil) :=
  pe_imp (pe_bm0 PySem.F.plainAttrs_list slot hty hm ho hbase hline) fun s H Q ⟨sg, al, S, kd, xd, rs, rl, q, up, ux⟩ => ⟨sg, al, S, kM1 r dNil sg kd xd, xd, rs, rl, q, fun d S1 al1 H1 v f1 r1 q1 =>
    ⟨isLst_ty f1.rs q1.1 r1, d, [], al1, S1, kd, xd, f1.rs, r1, rfl, q1.2, up.mono f1, ux.mono f1⟩, ux⟩
end
end Q
namespace Q
open PySem
open Spec PyProof.Rows L2

/-! ### statements -/
def dNext : TSD := fun M sg S => M.nx sg S
def dSeq (t u : TSD) : TSD := fun M sg S => t { M with nx := u M } sg S
def kDrop (M : EndsD) (sg : Sl) : KD := fun _ S => M.nx sg S
def dDrop (te : TED) : TSD := fun M sg S => te sg S (kDrop M sg) M.ex
def dRet (te : TED) : TSD := fun M sg S => te sg S M.rt M.ex
def dRetN : TSD := fun M _ S => M.rt .non S
def kIf (t u : TSD) (M : EndsD) (sg : Sl) : Bool → Sto → Prop := fun b S => (b = true → t M sg S) ∧ (b = false → u M sg S)
def dIf (c : TTD) (t u : TSD) : TSD := fun M sg S => c sg S (kIf t u M sg) M.ex
def dNever : TSD := fun _ _ _ => False
def dBreak : TSD := fun M sg S => M.bk sg S
def dCont : TSD := fun M sg S => M.ct sg S
def kSet (i : Nat) (M : EndsD) (sg : Sl) : KD := fun d S => M.nx (sg.set i (some d)) S
def dSet (i : Nat) (te : TED) : TSD := fun M sg S => te sg S (kSet i M sg) M.ex
def kPar (i j : Nat) (M : EndsD) (sg : Sl) : List D → Sto → Prop := fun ds S => match ds with
  | [d, e] => M.nx ((sg.set i (some d)).set j (some e)) S
  | _ => False
def dPar (i j : Nat) (ta : TAD) : TSD := fun M sg S => ta sg S (kPar i j M sg) M.ex
def kPar3 (i j l : Nat) (M : EndsD) (sg : Sl) : List D → Sto → Prop := fun ds S => match ds with
  | [d, e, f] => M.nx (((sg.set i (some d)).set j (some e)).set l (some f)) S
  | _ => False
def dPar3 (i j l : Nat) (ta : TAD) : TSD := fun M sg S => ta sg S (kPar3 i j l M sg) M.ex
def kAug (i : Nat) (r : R2D) (M : EndsD) (sg : Sl) (x : D) : KD := fun y S => r x y S (kSet i M sg) M.ex
def dAug (i : Nat) (r : R2D) (te : TED) : TSD := fun M sg S => match sg[i]? with
  | some (some x) => te sg S (kAug i r M sg x) M.ex
  | _ => False
abbrev TGD := D → Sl → Sto → (Sl → Sto → Prop) → XD → Prop
def kAsg (g : TGD) (M : EndsD) (sg : Sl) : KD := fun d S => g d sg S M.nx M.ex
def dAsg (te : TED) (g : TGD) : TSD := fun M sg S => te sg S (kAsg g M sg) M.ex
def gNm (i : Nat) : TGD := fun d sg S q _ => q (sg.set i (some d)) S
abbrev TGDs := List D → Sl → Sto → (Sl → Sto → Prop) → XD → Prop
def gsNil : TGDs := fun ds sg S q _ => match ds with
  | [] => q sg S
  | _ => False
def gsCons (g : TGD) (u : TGDs) : TGDs := fun ds sg S q x => match ds with
  | d :: r => g d sg S (fun sg' S' => u r sg' S' q x) x
  | _ => False
def gTp (n : Nat) (u : TGDs) : TGD := fun d sg S q x => match d with
  | .tup ds => ds.length = n ∧ u ds sg S q x
  | _ => False
def rSet : D → D → D → Sto → (Sto → Prop) → Prop := fun o i v S q => match o, i with
  | .ref n, .int k => ∃ xs j, S[n]? = some (.lst xs) ∧ ixN xs.length k = some j ∧ q (S.set n (.lst (xs.set j v)))
  | _, _ => False
def kGs2 (o : D) (v : D) (sg : Sl) (q : Sl → Sto → Prop) : KD := fun i S => rSet o i v S (fun S' => q sg S')
def kGs1 (ti : TED) (v : D) (sg : Sl) (q : Sl → Sto → Prop) (x : XD) : KD := fun o S => ti sg S (kGs2 o v sg q) x
def gSb (to ti : TED) : TGD := fun v sg S q x => to sg S (kGs1 ti v sg q x) x
def dWhile (c : TTD) (tb : TSD) : TSD := fun M sg S => ∃ W : Nat → Sl → Sto → Prop, (∃ m, W m sg S) ∧ ∀ m sg S, W m sg S →
  c sg S (fun b S1 => (b = true → tb { M with nx := fun sg' S' => ∃ m', m' < m ∧ W m' sg' S', ct := fun sg' S' => ∃ m', m' < m ∧ W m' sg' S', bk := M.nx } sg S1) ∧ (b = false → M.nx sg S1)) M.ex
/-- what a loop walks -/
structure ItD where
  items : List D
  grd : Sto → Prop
abbrev TID := Sl → Sto → (ItD → Sto → Prop) → XD → Prop
def wFor (grd : Sto → Prop) (g : TGD) (tb : TSD) (M : EndsD) : List D → Sl → Sto → Prop
  | [], sg, S => grd S ∧ M.nx sg S
  | d :: r, sg, S => grd S ∧ g d sg S (fun sg1 S1 => tb { M with nx := wFor grd g tb M r, ct := wFor grd g tb M r, bk := M.nx } sg1 S1) M.ex
def kFor (g : TGD) (tb : TSD) (M : EndsD) (sg : Sl) : ItD → Sto → Prop := fun it S => wFor it.grd g tb M it.items sg S
def dFor (ti : TID) (g : TGD) (tb : TSD) : TSD := fun M sg S => ti sg S (kFor g tb M sg) M.ex
abbrev XF : XD := fun _ _ => False
def wipeD (sg : Sl) : List Nat → Sl
  | [] => sg
  | v :: vs => (wipeD sg vs).set v none
def kLc3 (n0 : Nat) (k : Sto → Prop) : KD := fun y S => ∃ acc, S[n0]? = some (.lst acc) ∧ acc.length < sizeLine ∧ k (S.set n0 (.lst (acc ++ [y])))
def wLc (grd : Sto → Prop) (g : TGD) (tt : TTD) (te : TED) (sg : Sl) (n0 : Nat) (k : Sto → Prop) : List D → Sto → Prop
  | [], S => grd S ∧ k S
  | d :: r, S => grd S ∧ g d sg S (fun sg1 S1 => tt sg1 S1 (fun b S2 => (b = true → te sg1 S2 (kLc3 n0 (wLc grd g tt te sg n0 k r)) XF) ∧ (b = false → wLc grd g tt te sg n0 k r S2)) XF) XF
def kLc (g : TGD) (tt : TTD) (te : TED) (sg : Sl) (k : KD) : ItD → Sto → Prop := fun it S => wLc it.grd g tt te sg S.length (fun S' => k (.ref S.length) S') it.items (S ++ [.lst []])
def dLc (ti : TID) (g : TGD) (tt : TTD) (te : TED) (vs : List Nat) : TED := fun sg S k x => ti sg S (kLc g tt te (wipeD sg vs) k) x
def dYes : TTD := fun _ S k _ => k true S

/-- an iterator walks these -/
structure ItOK (K : PySem.W.Frag) (J : It) (it : ItD) (H : Hp) (al : List Addr) : Prop where
  go : ∀ i H' al' S', Fut K H al H' al' S' → it.grd S' → i < it.items.length → J.go i H'
  yld : ∀ i d H' al' S' x H'', Fut K H al H' al' S' → it.grd S' → it.items[i]? = some d → J.yld i H' x H'' → Fut K H' al' H'' al' S' ∧ RD K H'' al' d x
  stop : ∀ H' al' S', Fut K H al H' al' S' → it.grd S' → J.stop it.items.length H'
def LI (Y : Cy) (t : TID) : TI := fun sv H R => ∃ sg al S kd xd, RS Y.K H al S ∧ RSl Y.K H al sg sv ∧ t sg S kd xd ∧ (∀ it S' al' H' J, Fut Y.K H al H' al' S' → ItOK Y.K J it H' al' → kd it S' → R J H') ∧ UpX Y H al xd
def LG (Y : Cy) (t : TGD) : TG := fun v sv H Q => ∃ d sg al S qd xd, RS Y.K H al S ∧ RSl Y.K H al sg sv ∧ RD Y.K H al d v ∧ t d sg S qd xd ∧ UpS Y.K H al qd Q ∧ UpX Y H al xd
def LGs (Y : Cy) (t : TGDs) : TGs := fun vs sv H Q => ∃ ds sg al S qd xd, RS Y.K H al S ∧ RSl Y.K H al sg sv ∧ RDs Y.K H al ds vs ∧ t ds sg S qd xd ∧ UpS Y.K H al qd Q ∧ UpX Y H al xd
abbrev QI (X : Cx) (E : XK) (tg iter : Expr) (t : TID) : Prop := PI X tg iter (LI (cy X E) t)
def WipeOK (vs : List Nat) (t : TG) : Prop := ∀ v s H Q Q', (∀ s2 H2, wipe s2 vs = wipe s vs → Q s2 H2 → Q' s2 H2) → t v s H Q → t v s H Q'
def WipesOK (vs : List Nat) (t : TGs) : Prop := ∀ v s H Q Q', (∀ s2 H2, wipe s2 vs = wipe s vs → Q s2 H2 → Q' s2 H2) → t v s H Q → t v s H Q'
/-- a target; is: the names it stores -/
def QG (X : Cx) (E : XK) (tg : Expr) (t : TGD) (tV : TG) (is : List Nat) : Prop := PG X tg tV ∧ (∀ v s H Q, LG (cy X E) t v s H Q → tV v s H Q) ∧ ∀ vs, (∀ i ∈ is, i ∈ vs) → WipeOK vs tV
def QGs (X : Cx) (E : XK) (tg : List Expr) (t : TGDs) (tV : TGs) (is : List Nat) : Prop := PGs X tg tV ∧ (∀ v s H Q, LGs (cy X E) t v s H Q → tV v s H Q) ∧ ∀ vs, (∀ i ∈ is, i ∈ vs) → WipesOK vs tV
abbrev QGp (X : Cx) (E : XK) (tg : Expr) (t : TGD) : Prop := PG X tg (LG (cy X E) t)
theorem pg_imp {X : Cx} {e : Expr} {t t' : TG} (h : PG X e t) (f : ∀ v s H Q, t' v s H Q → t v s H Q) : PG X e t' := ⟨fun pins s σ H v u Q I r q => h.run pins s σ H v u Q I r (f v σ H Q q)⟩
theorem QG.p {X : Cx} {E : XK} {tg : Expr} {t : TGD} {tV : TG} {is : List Nat} (h : QG X E tg t tV is) : QGp X E tg t := by
  obtain ⟨h1, h2, _⟩ := h
  exact pg_imp h1 h2
section
variable {X : Cx} {E : XK} {e : Expr} {te : TED} {pos : Pos} {st : Stmt} {rest a b : List Stmt} {t u : TSD}
theorem q_snil : QSs X E [] dNext := pss_imp pss_nil fun De s H ⟨sg, al, S, Dd, rs, rl, q, ue⟩ => ue.nx sg S al H s (.now rs) rl q
theorem q_scons (h1 : QS X E st t) (h2 : QSs X E rest u) : QSs X E (st :: rest) (dSeq t u) :=
  pss_imp (pss_cons h1 h2) fun De s H ⟨sg, al, S, Dd, rs, rl, q, ue⟩ => ⟨sg, al, S, { Dd with nx := u Dd }, rs, rl, q,
    ⟨fun sg1 S1 al1 H1 sv1 f1 r1 q1 => ⟨sg1, al1, S1, Dd, f1.rs, r1, q1, ue.mono f1⟩, ue.rt, ue.bk, ue.ct, ue.ex⟩⟩
theorem q_one1 (h1 : QS X E st t) : QSs X E [st] t := pss_one h1
theorem q_pass : QS X E (.Pass pos) dNext := ps_imp ps_pass fun De s H ⟨sg, al, S, Dd, rs, rl, q, ue⟩ => ue.nx sg S al H s (.now rs) rl q
theorem q_break : QS X E (.Break pos) dBreak := ps_imp ps_break fun De s H ⟨sg, al, S, Dd, rs, rl, q, ue⟩ => ue.bk sg S al H s (.now rs) rl q
theorem q_cont : QS X E (.Continue pos) dCont := ps_imp ps_continue fun De s H ⟨sg, al, S, Dd, rs, rl, q, ue⟩ => ue.ct sg S al H s (.now rs) rl q
theorem q_never : QS X E st dNever := ps_imp ps_never fun De s H ⟨sg, al, S, Dd, rs, rl, q, ue⟩ => q.elim
theorem q_snever : QSs X E rest dNever := pss_imp pss_never fun De s H ⟨sg, al, S, Dd, rs, rl, q, ue⟩ => q.elim
theorem q_expr (he : QE X E e te) (hs : swapsWith e none pos.line X.env = pure false := by rfl) : QS X E (.Expr e pos) (dDrop te) :=
  ps_imp (ps_expr he hs) fun De s H ⟨sg, al, S, Dd, rs, rl, q, ue⟩ => ⟨sg, al, S, kDrop Dd sg, Dd.ex, rs, rl, q, fun d S1 al1 H1 v f1 r1 q1 => ue.nx sg S1 al1 H1 s f1 (f1.rsl rl) q1, ue.ex⟩
theorem q_ret (he : QE X E e te) : QS X E (.Return (some e) pos) (dRet te) :=
  ps_imp (ps_ret he) fun De s H ⟨sg, al, S, Dd, rs, rl, q, ue⟩ => ⟨sg, al, S, Dd.rt, Dd.ex, rs, rl, q, ue.rt, ue.ex⟩
theorem q_retN : QS X E (.Return none pos) dRetN := ps_imp ps_retN fun De s H ⟨sg, al, S, Dd, rs, rl, q, ue⟩ => ue.rt .non S al H .non (.now rs) rfl q
theorem q_if {c : Expr} {tc : TTD} (hc : QT X E c tc) (ha : QSs X E a t) (hb : QSs X E b u) : QS X E (.If c a b pos) (dIf tc t u) :=
  ps_imp (ps_if hc ha hb) fun De s H ⟨sg, al, S, Dd, rs, rl, q, ue⟩ => ⟨sg, al, S, kIf t u Dd sg, Dd.ex, rs, rl, q, fun c S1 al1 H1 f1 q1 =>
    ite_of ⟨fun e => ⟨sg, al1, S1, Dd, f1.rs, f1.rsl rl, q1.1 e, ue.mono f1⟩, fun e => ⟨sg, al1, S1, Dd, f1.rs, f1.rsl rl, q1.2 e, ue.mono f1⟩⟩, ue.ex⟩
theorem rsl_set {K : PySem.W.Frag} {H : Hp} {al : List Addr} {sg : Sl} {sv : L2.St} {d : D} {v : V} (r : RSl K H al sg sv) (h : RD K H al d v) (i : Nat) : RSl K H al (sg.set i (some d)) (sv.set i (some v)) := by
  refine ⟨by simp [r.len], fun j e q => ?_⟩
  by_cases hj : i = j
  · subst hj
    by_cases hi : i < sg.length
    · rw [List.getElem?_set_self hi] at q
      have q' : some d = some e := Option.some.inj q
      cases q'
      exact ⟨v, by rw [List.getElem?_set_self (by rw [← r.len]; exact hi)], h⟩
    · rw [List.getElem?_eq_none (by simpa using hi)] at q
      cases q
  · rw [List.getElem?_set_ne hj] at q
    obtain ⟨w, e1, e2⟩ := r.at_ j e q
    exact ⟨w, by rw [List.getElem?_set_ne hj]; exact e1, e2⟩
theorem q_set {i : Nat} {x : Str} {pos' : Pos} (hN : X.N.Nodup) (he : QE X E e te) (hi : X.N[i]? = some x := by rfl) (hx : Loc X.env.scope x := by first | exact Or.inl rfl | exact Or.inr rfl) (hs : swapsWith e (some (.Name x pos')) pos.line X.env = pure false := by rfl)
    (hf : X.fn x = true ∨ X.env.scope.names.lookup x = some .local := by first | exact .inl rfl | exact .inr rfl) : QS X E (.Assign [.Name x pos'] e pos) (dSet i te) :=
  ps_imp (ps_set hN hi hx he hs hf) fun De s H ⟨sg, al, S, Dd, rs, rl, q, ue⟩ => ⟨sg, al, S, kSet i Dd sg, Dd.ex, rs, rl, q, fun d S1 al1 H1 v f1 r1 q1 => ue.nx _ S1 al1 H1 _ f1 (rsl_set (f1.rsl rl) r1 i) q1, ue.ex⟩
theorem q_par {i j : Nat} {x y : Str} {ea eb : Expr} {ta : TAD} {px py pt : Pos} {kt k2 : Nat} {pt2 : Pos} (hc : X.calm = true) (hN : X.N.Nodup) (ha : QA X E [ea, eb] ta)
    (hi : X.N[i]? = some x := by rfl) (hj : X.N[j]? = some y := by rfl) (hij : i ≠ j := by decide) (hx : X.env.scope.names.lookup x = some .local := by rfl) (hy : X.env.scope.names.lookup y = some .local := by rfl)
    (hw : swappedStores [.Tuple [.Name x px, .Name y py] kt pt] (.Tuple [ea, eb] k2 pt2) X.env = pure (some [x, y]) := by rfl)
    (hs : swapsWithSole [.Tuple [.Name x px, .Name y py] kt pt] (.Tuple [ea, eb] k2 pt2) pos.line X.env = pure false := by rfl) :
    QS X E (.Assign [.Tuple [.Name x px, .Name y py] kt pt] (.Tuple [ea, eb] k2 pt2) pos) (dPar i j ta) :=
  ps_imp (ps_par hc hN hi hj hij hx hy ha hw hs) fun De s H ⟨sg, al, S, Dd, rs, rl, q, ue⟩ => ⟨sg, al, S, kPar i j Dd sg, Dd.ex, rs, rl, q, fun ds S1 al1 H1 vs f1 r1 q1 => by
    unfold kPar at q1
    split at q1
    · obtain ⟨v, w, e, r2, r3⟩ := rds2 r1
      exact ⟨v, w, e, ue.nx _ S1 al1 H1 _ f1 (rsl_set (rsl_set (f1.rsl rl) r2 i) r3 j) q1⟩
    · exact q1.elim, ue.ex⟩
theorem rds3 {K : PySem.W.Frag} {H : Hp} {al : List Addr} {d d' d'' : D} {vs : List V} (r : RDs K H al [d, d', d''] vs) : ∃ v v' v'', vs = [v, v', v''] ∧ RD K H al d v ∧ RD K H al d' v' ∧ RD K H al d'' v'' := by
  obtain ⟨v, u, e, h1, h2⟩ := r
  obtain ⟨v', v'', e', h3, h4⟩ := rds2 h2
  subst e'
  exact ⟨v, v', v'', e, h1, h3, h4⟩
theorem q_par3 {i j l : Nat} {x y z : Str} {ea eb ec : Expr} {ta : TAD} {px py pz pt : Pos} {kt k2 : Nat} {pt2 : Pos} (hc : X.calm = true) (hN : X.N.Nodup) (ha : QA X E [ea, eb, ec] ta)
    (hi : X.N[i]? = some x := by rfl) (hj : X.N[j]? = some y := by rfl) (hl : X.N[l]? = some z := by rfl) (hij : i ≠ j := by decide) (hil : i ≠ l := by decide) (hjl : j ≠ l := by decide) (hx : X.env.scope.names.lookup x = some .local := by rfl) (hy : X.env.scope.names.lookup y = some .local := by rfl) (hz : X.env.scope.names.lookup z = some .local := by rfl)
    (hw : swappedStores [.Tuple [.Name x px, .Name y py, .Name z pz] kt pt] (.Tuple [ea, eb, ec] k2 pt2) X.env = pure (some [x, y, z]) := by rfl)
    (hs : swapsWithSole [.Tuple [.Name x px, .Name y py, .Name z pz] kt pt] (.Tuple [ea, eb, ec] k2 pt2) pos.line X.env = pure false := by rfl) :
    QS X E (.Assign [.Tuple [.Name x px, .Name y py, .Name z pz] kt pt] (.Tuple [ea, eb, ec] k2 pt2) pos) (dPar3 i j l ta) :=
  ps_imp (ps_par3 hc hN hi hj hl hij hil hjl hx hy hz ha hw hs) fun De s H ⟨sg, al, S, Dd, rs, rl, q, ue⟩ => ⟨sg, al, S, kPar3 i j l Dd sg, Dd.ex, rs, rl, q, fun ds S1 al1 H1 vs f1 r1 q1 => by
    unfold kPar3 at q1
    split at q1
    · obtain ⟨v, w, z, e, r2, r3, r4⟩ := rds3 r1
      exact ⟨v, w, z, e, ue.nx _ S1 al1 H1 _ f1 (rsl_set (rsl_set (rsl_set (f1.rsl rl) r2 i) r3 j) r4 l) q1⟩
    · exact q1.elim, ue.ex⟩
theorem q_aug {i : Nat} {x : Str} {op : Operator} {r : R2D} {pos' : Pos} (hN : X.N.Nodup) (ho : OpR X (inplaceOp op) (LL2 (cy X E) r)) (he : QE X E e te) (hi : X.N[i]? = some x := by rfl) (hx : Loc X.env.scope x := by first | exact Or.inl rfl | exact Or.inr rfl)
    (hf : X.fn x = true ∨ X.env.scope.names.lookup x = some .local := by first | exact .inl rfl | exact .inr rfl) : QS X E (.AugAssign (.Name x pos') op e pos) (dAug i r te) := by
  have hp : PIp X op (LL2 (cy X E) r) := fun pins s σ H x y v u Q I r1 r2 h => ho pins s σ H x y v u Q I r1 r2 h
  refine ps_imp (ps_aug hN hi hx he hp hf) fun De s H ⟨sg, al, S, Dd, rs, rl, q, ue⟩ => ?_
  unfold dAug at q
  split at q
  · rename_i d hd
    obtain ⟨v, e1, r1⟩ := rl.at_ i d hd
    exact ⟨v, e1, sg, al, S, kAug i r Dd sg d, Dd.ex, rs, rl, q, fun d2 S2 al2 H2 v2 f2 r2 q2 => ⟨d, d2, al2, S2, kSet i Dd sg, Dd.ex, f2.rs, f2.rd r1, r2, q2,
      fun d3 S3 al3 H3 v3 f3 r3 q3 => ue.nx _ S3 al3 H3 _ (f2.trans f3) (rsl_set ((f2.trans f3).rsl rl) r3 i) q3, ue.ex.mono f2⟩, ue.ex⟩
  · exact q.elim

/-! ### targets -/
theorem wipe_set_in {s : L2.St} {i : Nat} {v : Option V} : ∀ {vs : List Nat}, i ∈ vs → wipe (s.set i v) vs = wipe s vs := by
  have key : ∀ (vs : List Nat) (j : Nat), (wipe (s.set i v) vs)[j]? = if j = i ∧ i ∉ vs then (s.set i v)[j]? else (wipe s vs)[j]? := by
    intro vs
    induction vs with
    | nil =>
      intro j
      show (s.set i v)[j]? = _
      by_cases hj : j = i
      · rw [if_pos ⟨hj, by simp⟩]
      · rw [if_neg (fun z => hj z.1)]
        show (s.set i v)[j]? = s[j]?
        rw [List.getElem?_set_ne (Ne.symm hj)]
    | cons w vs ih =>
      intro j
      show ((wipe (s.set i v) vs).set w none)[j]? = if j = i ∧ i ∉ w :: vs then (s.set i v)[j]? else ((wipe s vs).set w none)[j]?
      have hl : (wipe (s.set i v) vs).length = (wipe s vs).length := by rw [wipe_length, wipe_length, List.length_set]
      by_cases hw : w = j
      · subst hw
        rw [if_neg (fun z => z.2 (by rw [z.1]; exact List.mem_cons_self))]
        by_cases hb : w < (wipe s vs).length
        · rw [List.getElem?_set_self hb, List.getElem?_set_self (by rw [hl]; exact hb)]
        · rw [List.getElem?_eq_none (by rw [List.length_set]; omega), List.getElem?_eq_none (by rw [List.length_set]; omega)]
      · rw [List.getElem?_set_ne hw, List.getElem?_set_ne hw, ih j]
        by_cases hj : j = i
        · subst hj
          by_cases hm : j ∈ vs
          · rw [if_neg (fun z => z.2 hm), if_neg (fun z => z.2 (List.mem_cons_of_mem _ hm))]
          · rw [if_pos ⟨rfl, hm⟩, if_pos ⟨rfl, fun z => (List.mem_cons.mp z).elim (fun e => hw e.symm) hm⟩]
        · rw [if_neg (fun z => hj z.1), if_neg (fun z => hj z.1)]
  intro vs hi
  refine List.ext_getElem? fun j => ?_
  rw [key vs j, if_neg (fun z => z.2 hi)]
theorem wipe_get (s : L2.St) : ∀ (vs : List Nat) (j : Nat), (wipe s vs)[j]? = if j ∈ vs then (s[j]?).map (fun _ => none) else s[j]?
  | [], j => by rw [if_neg (by simp)]; rfl
  | w :: vs, j => by
    show ((wipe s vs).set w none)[j]? = _
    by_cases hw : w = j
    · subst hw
      rw [if_pos List.mem_cons_self]
      by_cases hb : w < s.length
      · rw [List.getElem?_set_self (by rw [wipe_length]; exact hb), List.getElem?_eq_getElem hb]
        rfl
      · rw [List.getElem?_eq_none (by rw [List.length_set, wipe_length]; omega), List.getElem?_eq_none (by omega)]
        rfl
    · rw [List.getElem?_set_ne hw, wipe_get s vs j]
      by_cases hm : j ∈ vs
      · rw [if_pos hm, if_pos (List.mem_cons_of_mem _ hm)]
      · rw [if_neg hm, if_neg (fun z => (List.mem_cons.mp z).elim (fun e => hw e.symm) hm)]
theorem wipe_wipe (s : L2.St) (vs : List Nat) : wipe (wipe s vs) vs = wipe s vs := by
  refine List.ext_getElem? fun j => ?_
  rw [wipe_get, wipe_get]
  by_cases hm : j ∈ vs
  · rw [if_pos hm, if_pos hm]
    cases s[j]? <;> rfl
  · rw [if_neg hm, if_neg hm]
theorem q_gnm {i : Nat} {x : Str} (hN : X.N.Nodup) (hi : X.N[i]? = some x := by rfl) (hx : Loc X.env.scope x := by first | exact Or.inl rfl | exact Or.inr rfl) (hf : X.fn x = true ∨ X.env.scope.names.lookup x = some .local := by first | exact .inl rfl | exact .inr rfl) :
    QG X E (.Name x pos) (gNm i) (gName i) [i] :=
  ⟨pg_name hN hi hx hf, fun v s H Q ⟨d, sg, al, S, qd, xd, rs, rl, rd, q, up, ux⟩ => up _ S al H _ (.now rs) (rsl_set rl rd i) q, fun vs hv v s H Q Q' f q => f _ _ (wipe_set_in (hv i (by simp))) q⟩
variable {es : List Expr} {tg : Expr} {g : TGD} {gs : TGDs} {is js : List Nat} {tV : TG} {tVs : TGs}
theorem q_gsnil : QGs X E [] gsNil gNil [] :=
  ⟨pgs_nil, fun vs s H Q ⟨d, sg, al, S, qd, xd, rs, rl, rd, q, up, ux⟩ => by
    cases d with
    | nil => exact ⟨rd, up sg S al H s (.now rs) rl q⟩
    | cons _ _ => exact q.elim, fun vs hv v s H Q Q' f q => ⟨q.1, f _ _ rfl q.2⟩⟩
theorem q_gscons (h1 : QG X E tg g tV is) (h2 : QGs X E es gs tVs js) (hs : (assignEach (tg :: es) X.env).map (·.2) = assign tg X.env :: (assignEach es X.env).map (·.2) := by rfl) : QGs X E (tg :: es) (gsCons g gs) (gCons tV tVs) (is ++ js) := by
  obtain ⟨p1, l1, w1⟩ := h1
  obtain ⟨p2, l2, w2⟩ := h2
  refine ⟨pgs_cons p1 p2 hs, fun vs s H Q ⟨d, sg, al, S, qd, xd, rs, rl, rd, q, up, ux⟩ => ?_, fun vs hv v s H Q Q' f q => ?_⟩
  · cases d with
    | nil => exact q.elim
    | cons d r =>
      obtain ⟨v, u, e, r1, r2⟩ := rd
      exact ⟨v, u, e, l1 _ _ _ _ ⟨d, sg, al, S, _, xd, rs, rl, r1, q, fun sg1 S1 al1 H1 sv1 f1 rl1 q1 => l2 _ _ _ _ ⟨r, sg1, al1, S1, qd, xd, f1.rs, rl1, f1.rds r2, q1, up.mono f1, ux.mono f1⟩, ux⟩⟩
  · obtain ⟨a, r, e, q⟩ := q
    refine ⟨a, r, e, w1 vs (fun i hi => hv i (List.mem_append_left _ hi)) _ _ _ _ _ (fun s2 H2 e2 q2 => ?_) q⟩
    exact w2 vs (fun i hi => hv i (List.mem_append_right _ hi)) _ _ _ _ _ (fun s3 H3 e3 q3 => f s3 H3 (e3.trans e2) q3) q2
theorem q_gtp {k n : Nat} (hc : X.calm = true) (h : QGs X E es gs tVs is) (hn : (assignEach es X.env).length = n := by rfl) (hst : (assignEach es X.env).findIdx? (·.1) = none := by rfl) : QG X E (.Tuple es k pos) (gTp n gs) (gTup X.K n tVs) is := by
  obtain ⟨p1, l1, w1⟩ := h
  refine ⟨pg_tup hc p1 hn hst, fun v s H Q ⟨d, sg, al, S, qd, xd, rs, rl, rd, q, up, ux⟩ => ?_, fun vs hv v s H Q Q' f q => ?_⟩
  · cases d <;> try exact q.elim
    case tup ds =>
      obtain ⟨a, vs, e, h1, r1⟩ := rd
      exact ⟨a, vs, e, h1, by rw [RDs.length r1]; exact q.1, l1 _ _ _ _ ⟨ds, sg, al, S, qd, xd, rs, rl, r1, q.2, up, ux⟩⟩
  · obtain ⟨a, xs, e, h1, h2, q⟩ := q
    exact ⟨a, xs, e, h1, h2, w1 vs hv _ _ _ _ _ f q⟩
theorem q_gsb {o i : Expr} {to ti : TED} (ho : QE X E o to) (hi : QE X E i ti) (ha : ∀ v, assign (.Subscript o i pos) X.env v = (do
      let b ← holding [v] (eval o X.env)
      let c ← holding [v, b] (eval i X.env)
      standAt pos; holding [v, b, c] (setItem b c v); release [v, b, c] []) := by intro _; rfl) : QGp X E (.Subscript o i pos) (gSb to ti) := by
  refine pg_imp (pg_sub ho hi set_list ha) fun v s H Q ⟨d, sg, al, S, qd, xd, rs, rl, rd, q, up, ux⟩ => ?_
  refine ⟨sg, al, S, _, xd, rs, rl, q, fun d1 S1 al1 H1 v1 f1 r1 q1 => ⟨sg, al1, S1, _, xd, f1.rs, f1.rsl rl, q1, fun d2 S2 al2 H2 v2 f2 r2 q2 => ?_, ux.mono f1⟩, ux⟩
  have q2 : rSet d1 d2 d S2 (fun S' => qd sg S') := q2
  unfold rSet at q2
  split at q2
  · obtain ⟨xs, j, h1, hj, q2⟩ := q2
    obtain ⟨a, vs, e1, ha1, e2, r3⟩ := lst_at f2.rs h1 (f2.rd r1)
    have f3 := set_lst f2.rs h1 ha1 (RDs.set j r3 ((f1.trans f2).rd rd))
    exact ⟨a, vs, _, j, e1, r2, e2, by rw [RDs.length r3]; exact hj, up sg _ al2 _ s ((f1.trans f2).trans f3) (((f1.trans f2).trans f3).rsl rl) q2⟩
  · exact q2.elim
theorem q_asg (he : QE X E e te) (hg : QGp X E tg g) (hs : swapsWithSole [tg] e pos.line X.env = pure false := by rfl) (hw : swappedStores [tg] e X.env = pure none := by rfl)
    (h1 : (assignEach [tg] X.env).map (·.2) = [assign tg X.env] := by rfl) : QS X E (.Assign [tg] e pos) (dAsg te g) :=
  ps_imp (ps_asg he hg hs hw h1) fun De s H ⟨sg, al, S, Dd, rs, rl, q, ue⟩ => ⟨sg, al, S, kAsg g Dd sg, Dd.ex, rs, rl, q, fun d S1 al1 H1 v f1 r1 q1 =>
    ⟨d, sg, al1, S1, Dd.nx, Dd.ex, f1.rs, f1.rsl rl, r1, q1, ue.nx.mono f1, ue.ex.mono f1⟩, ue.ex⟩

/-! ### loops -/
theorem q_while {c : Expr} {body : List Stmt} {tc : TTD} {tb : TSD} (hp : PassesOwn (model X.prog X.w) X.A X.env X.xe) (hc : QT X E c tc) (hb : QSs X E body tb) : QS X E (.While c body [] pos) (dWhile tc tb) := by
  refine ps_imp (ps_while hp hc hb) fun De s H ⟨sg, al, S, Dd, rs, rl, q, ue⟩ => ?_
  obtain ⟨W, ⟨m0, w0⟩, turn⟩ := q
  refine ⟨fun m sv H' => ∃ sg' al' S', Fut X.K H al H' al' S' ∧ RSl X.K H' al' sg' sv ∧ W m sg' S', ⟨m0, sg, al, S, .now rs, rl, w0⟩, ?_⟩
  rintro m sv H1 ⟨sg1, al1, S1, f1, rl1, w1⟩
  refine ⟨sg1, al1, S1, _, Dd.ex, f1.rs, rl1, turn m sg1 S1 w1, fun b S2 al2 H2 f2 q2 => ite_of ⟨fun e => ?_, fun e => ?_⟩, ue.ex.mono f1⟩
  · refine ⟨fun sv' H' => ∃ m', m' < m ∧ ∃ sg' al' S', Fut X.K H al H' al' S' ∧ RSl X.K H' al' sg' sv' ∧ W m' sg' S', fun sv' H' h => h, ?_⟩
    have up : UpS X.K H2 al2 (fun sg' S' => ∃ m', m' < m ∧ W m' sg' S') (fun sv' H' => ∃ m', m' < m ∧ ∃ sg' al' S', Fut X.K H al H' al' S' ∧ RSl X.K H' al' sg' sv' ∧ W m' sg' S') :=
      fun sg3 S3 al3 H3 sv3 f3 r3 ⟨m', hm, w3⟩ => ⟨m', hm, sg3, al3, S3, (f1.trans f2).trans f3, r3, w3⟩
    exact ⟨sg1, al2, S2, _, f2.rs, f2.rsl rl1, q2.1 e, ⟨up, ue.rt.mono (f1.trans f2), ue.nx.mono (f1.trans f2), up, ue.ex.mono (f1.trans f2)⟩⟩
  · exact ue.nx sg1 S2 al2 H2 sv (f1.trans f2) (f2.rsl rl1) (q2.2 e)
theorem q_for {iter : Expr} {body : List Stmt} {ti : TID} {tb : TSD} (hp : PassesOwn (model X.prog X.w) X.A X.env X.xe) (hc : X.calm = true) (hi : QI X E tg iter ti) (hg : QG X E tg g tV is) (hb : QSs X E body tb)
    (hs : ∀ x, foldedSetIterable iter X.env x = pure x := by intro _; rfl) : QS X E (.For tg iter body [] pos) (dFor ti g tb) := by
  refine ps_imp (ps_for hp hc hi hg.p hb hs) fun De s H ⟨sg, al, S, Dd, rs, rl, q, ue⟩ => ?_
  refine ⟨sg, al, S, kFor g tb Dd sg, Dd.ex, rs, rl, q, fun it S1 al1 H1 J f1 iok q1 => ?_, ue.ex⟩
  have q1 : wFor it.grd g tb Dd it.items sg S1 := q1
  refine ⟨fun i m sv H' => ∃ sg' al' S', Fut X.K H1 al1 H' al' S' ∧ RSl X.K H' al' sg' sv ∧ wFor it.grd g tb Dd (it.items.drop i) sg' S' ∧ m = it.items.length - i ∧ i ≤ it.items.length, ⟨it.items.length, sg, al1, S1, .now f1.rs, f1.rsl rl, q1, by simp, Nat.zero_le _⟩, ?_⟩
  rintro i m sv H2 ⟨sg2, al2, S2, f2, rl2, w2, rfl, hi⟩
  by_cases hlt : i < it.items.length
  · rw [List.drop_eq_getElem_cons hlt] at w2
    obtain ⟨gr, w2⟩ := w2
    refine .inr ⟨iok.go i H2 al2 S2 f2 gr hlt, fun sv' H' => ∃ m', m' < it.items.length - i ∧ ∃ sg' al' S', Fut X.K H1 al1 H' al' S' ∧ RSl X.K H' al' sg' sv' ∧ wFor it.grd g tb Dd (it.items.drop (i + 1)) sg' S' ∧ m' = it.items.length - (i + 1) ∧ i + 1 ≤ it.items.length, fun sv' H' h => h, fun x H' hy => ?_⟩
    obtain ⟨f3, r3⟩ := iok.yld i _ H2 al2 S2 x H' f2 gr (List.getElem?_eq_getElem hlt) hy
    refine ⟨_, sg2, al2, S2, _, Dd.ex, f3.rs, f3.rsl rl2, r3, w2, fun sg4 S4 al4 H4 sv4 f4 rl4 q4 => ?_, ue.ex.mono ((f1.trans f2).trans f3)⟩
    have f := (f2.trans f3).trans f4
    have up : UpS X.K H4 al4 (wFor it.grd g tb Dd (it.items.drop (i + 1))) (fun sv' H' => ∃ m', m' < it.items.length - i ∧ ∃ sg' al' S', Fut X.K H1 al1 H' al' S' ∧ RSl X.K H' al' sg' sv' ∧ wFor it.grd g tb Dd (it.items.drop (i + 1)) sg' S' ∧ m' = it.items.length - (i + 1) ∧ i + 1 ≤ it.items.length) :=
      fun sg5 S5 al5 H5 sv5 f5 r5 q5 => ⟨it.items.length - (i + 1), by omega, sg5, al5, S5, f.trans f5, r5, q5, rfl, hlt⟩
    exact ⟨sg4, al4, S4, _, f4.rs, rl4, q4, ⟨up, ue.rt.mono (f1.trans f), ue.nx.mono (f1.trans f), up, ue.ex.mono (f1.trans f)⟩⟩
  · have e : i = it.items.length := by omega
    subst e
    rw [List.drop_length] at w2
    obtain ⟨gr, w2⟩ := w2
    exact .inl ⟨iok.stop H2 al2 S2 f2 gr, ue.nx sg2 S2 al2 H2 sv (f1.trans f2) rl2 w2⟩

/-! ### what is walked -/
def iSq (te : TED) : TID := fun sg S k x => te sg S (fun d S' => match d with
  | .tup ds => k ⟨ds, fun _ => True⟩ S'
  | .ref n => ∃ ds, isL S' n ds ∧ k ⟨ds, fun S => isL S n ds⟩ S'
  | .str z => k ⟨z.cps.toList.map fun c => D.str ⟨#[c]⟩, fun _ => True⟩ S'
  | _ => False) x
def iSeqV (K : PySem.W.Frag) (tl : TE) : TI := fun σ H R => tl σ H fun x H1 => (∃ a, x = .ref a ∧ (∃ xs, SqL K H1 a xs) ∧ R (Itl K a) H1) ∨ (∃ a, x = .ref a ∧ (∃ xs, SqT K H1 a xs) ∧ R (Itt K a) H1) ∨ (∃ z, x = .str z ∧ R (Its z) H1)
theorem pi_seqV {l : Expr} {tl : TE} (hl : PE X l tl) : PI X tg l (iSeqV X.K tl) := by
  constructor
  intro pins s σ H R I h
  refine thn (hl.run pins s σ H _ I h) ?_
  rintro v s1 ⟨x, H1, I1, r1, q1⟩
  have fresh : ∀ b, b ∈ [s1.heap.objs.size] → _ := fun b hb => (show b = s1.heap.objs.size by simpa using hb) ▸ I1.fpOk (Nat.le_refl _) (I1.hok.fresh (Nat.le_refl _))
  have kept := fun (o : Obj) => I1.kept (t' := s1.toks) fun b u (e : s1.heap.get? b = some u) => Heap.get?_push_of_some o e
  obtain ⟨a, rfl, ⟨xs, hq⟩, q⟩ | ⟨a, rfl, ⟨xs, hq⟩, q⟩ | ⟨z, rfl, q⟩ := q1
  · cases r1
    obtain ⟨its, _, p, _⟩ := I1.list hq
    exact wpAny_pyIter_list p.isList ⟨_, [_], _, _, H1, rfl, kept _, turn_list a _, ⟨_, Heap.get?_push_size _ rfl, rfl, rfl⟩, fresh, q⟩
  · cases r1
    obtain ⟨its, _, p, _⟩ := I1.tuple hq
    exact wpAny_pyIter_tuple (show s1.heap.IsTuple a its.toArray from p) ⟨_, [_], _, _, H1, rfl, kept _, turn_tuple a _, ⟨_, Heap.get?_push_size _ rfl, rfl, rfl⟩, fresh, q⟩
  · obtain ⟨t, rfl⟩ := r1
    cases hz : z.cps.all (· < 128) with
    | false => exact wpAny_pyIter_wide hz (pi_one (tk := s1.toks) I1 _ (turn_str _ z t "str_iterator" (.inr rfl)) ⟨_, Heap.get?_push_size _ rfl, rfl, rfl⟩ q)
    | true => exact wpAny_pyIter_ascii hz (pi_one (tk := s1.toks) I1 _ (turn_str _ z t "str_ascii_iterator" (.inl rfl)) ⟨_, Heap.get?_push_size _ rfl, rfl, rfl⟩ q)
theorem fut_same {K : PySem.W.Frag} {H H' H'' : Hp} {al al' : List Addr} {S' : Sto} (f : Fut K H al H' al' S') (e : H'' = H') : Fut K H' al' H'' al' S' := by
  subst e
  exact .now f.rs
theorem pi_imp {l : Expr} {t t' : TI} (h : PI X tg l t) (f : ∀ s H R, t' s H R → t s H R) : PI X tg l t' := ⟨fun pins s σ H R I q => h.run pins s σ H R I (f σ H R q)⟩
theorem isL_sq {K : PySem.W.Frag} {H : Hp} {al : List Addr} {S : Sto} {n : Nat} {ds : List D} {a : Addr} (rs : RS K H al S) (h : isL S n ds) (ha : al[n]? = some a) : ∃ vs, SqL K H a vs ∧ RDs K H al ds vs := by
  obtain ⟨b, vs, e, hb, h1, r1⟩ := isL_at rs h (v := .ref a) ⟨a, rfl, ha⟩
  cases e
  exact ⟨vs, h1, r1⟩
theorem getExt {al al' : List Addr} {K : PySem.W.Frag} {H H' : Hp} {S' : Sto} (f : Fut K H al H' al' S') {n : Nat} {a : Addr} (h : al[n]? = some a) : al'[n]? = some a := by
  obtain ⟨t, e⟩ := f.ext
  subst e
  exact getE h
theorem it_tup {K : PySem.W.Frag} {H : Hp} {al : List Addr} {a : Addr} {ds : List D} {vs : List V} (h : SqT K H a vs) (r : RDs K H al ds vs) : ItOK K (Itt K a) ⟨ds, fun _ => True⟩ H al where
  go := fun i H' al' S' f _ hi => by
    have r' := f.rds r
    have hl : i < vs.length := by rw [RDs.length r]; exact hi
    exact ⟨vs, vs[i], sqt_keep f.keep h, List.getElem?_eq_getElem hl⟩
  yld := fun i d H' al' S' x H'' f _ hd hy => by
    obtain ⟨e, hy⟩ := hy
    refine ⟨fut_same f e, ?_⟩
    subst e
    obtain ⟨v, hv, rv⟩ := RDs.get (f.rds r) hd
    have := hy vs (sqt_keep f.keep h)
    rw [hv] at this
    cases this
    exact rv
  stop := fun H' al' S' f _ => ⟨vs, sqt_keep f.keep h, by rw [RDs.length r]; exact Nat.le_refl _⟩
theorem it_lst {K : PySem.W.Frag} {H : Hp} {al : List Addr} {a : Addr} {n : Nat} {ds : List D} (ha : al[n]? = some a) : ItOK K (Itl K a) ⟨ds, fun S => isL S n ds⟩ H al where
  go := fun i H' al' S' f g hi => by
    obtain ⟨vs, h1, r1⟩ := isL_sq f.rs g (getExt f ha)
    have hl : i < vs.length := by rw [RDs.length r1]; exact hi
    exact ⟨vs, vs[i], h1, List.getElem?_eq_getElem hl⟩
  yld := fun i d H' al' S' x H'' f g hd hy => by
    obtain ⟨e, hy⟩ := hy
    refine ⟨fut_same f e, ?_⟩
    subst e
    obtain ⟨vs, h1, r1⟩ := isL_sq f.rs g (getExt f ha)
    obtain ⟨v, hv, rv⟩ := RDs.get r1 hd
    have := hy vs h1
    rw [hv] at this
    cases this
    exact rv
  stop := fun H' al' S' f g => by
    obtain ⟨vs, h1, r1⟩ := isL_sq f.rs g (getExt f ha)
    exact ⟨vs, h1, by rw [RDs.length r1]; exact Nat.le_refl _⟩
theorem it_str {K : PySem.W.Frag} {H : Hp} {al : List Addr} {z : Str} : ItOK K (Its z) ⟨z.cps.toList.map fun c => D.str ⟨#[c]⟩, fun _ => True⟩ H al where
  go := fun i H' al' S' f g hi => by
    have hi : i < (z.cps.toList.map fun c => D.str ⟨#[c]⟩).length := hi
    rw [List.length_map] at hi
    exact hi
  yld := fun i d H' al' S' x H'' f g hd hy => by
    obtain ⟨e, c, hc, hy⟩ := hy
    refine ⟨fut_same f e, ?_⟩
    have hd : (z.cps.toList.map fun c => D.str ⟨#[c]⟩)[i]? = some d := hd
    rw [List.getElem?_map, Array.getElem?_toList, hc] at hd
    cases hd
    exact hy
  stop := fun H' al' S' f g => by
    show z.cps.size ≤ (z.cps.toList.map fun c => D.str ⟨#[c]⟩).length
    rw [List.length_map]
    exact Nat.le_refl _
theorem it_rng {K : PySem.W.Frag} {H : Hp} {al : List Addr} {lo : Int} {n : Nat} : ItOK K (Itr lo n) ⟨(List.range n).map fun i => D.int (lo + (i : Nat)), fun _ => True⟩ H al where
  go := fun i H' al' S' f g hi => by
    have hi : i < ((List.range n).map fun i => D.int (lo + (i : Nat))).length := hi
    rw [List.length_map, List.length_range] at hi
    exact hi
  yld := fun i d H' al' S' x H'' f g hd hy => by
    obtain ⟨e, hy⟩ := hy
    refine ⟨fut_same f e, ?_⟩
    have hd : ((List.range n).map fun i => D.int (lo + (i : Nat)))[i]? = some d := hd
    have hl := (List.getElem?_eq_some_iff.mp hd).1
    rw [List.length_map, List.length_range] at hl
    rw [List.getElem?_map, List.getElem?_range hl] at hd
    cases hd
    exact hy
  stop := fun H' al' S' f g => by
    show n ≤ ((List.range n).map fun i => D.int (lo + (i : Nat))).length
    rw [List.length_map, List.length_range]
    exact Nat.le_refl _
theorem q_iSq (he : QE X E e te) : QI X E tg e (iSq te) :=
  pi_imp (pi_seqV he) fun s H R ⟨sg, al, S, kd, xd, rs, rl, q, up, ux⟩ => ⟨sg, al, S, _, xd, rs, rl, q, fun d S1 al1 H1 v f1 r1 q1 => by
    cases d <;> try exact q1.elim
    case tup ds =>
      obtain ⟨a, vs, e, h1, r1⟩ := r1
      exact .inr (.inl ⟨a, e, ⟨vs, h1⟩, up _ S1 al1 H1 _ f1 (it_tup h1 r1) q1⟩)
    case ref n =>
      obtain ⟨ds, hl, q1⟩ := q1
      obtain ⟨a, vs, e, ha, h1, r2⟩ := isL_at f1.rs hl r1
      exact .inl ⟨a, e, ⟨vs, h1⟩, up _ S1 al1 H1 _ f1 (it_lst ha) q1⟩
    case str z =>
      exact .inr (.inr ⟨z, r1, up _ S1 al1 H1 _ f1 it_str q1⟩), ux⟩
def kRg1 (k : ItD → Sto → Prop) : List D → Sto → Prop := fun ds S => match ds with
  | [.int j] => -(2 ^ 62) ≤ j ∧ j < 2 ^ 62 ∧ k ⟨(List.range j.toNat).map fun i => D.int (0 + (i : Nat)), fun _ => True⟩ S
  | _ => False
def iRg1 (ta : TAD) : TID := fun sg S k x => ta sg S (kRg1 k) x
def kRg2 (k : ItD → Sto → Prop) : List D → Sto → Prop := fun ds S => match ds with
  | [.int i, .int j] => (-(2 ^ 62) ≤ i ∧ i < 2 ^ 62 ∧ -(2 ^ 62) ≤ j ∧ j < 2 ^ 62) ∧ k ⟨(List.range (j - i).toNat).map fun n => D.int (i + (n : Nat)), fun _ => True⟩ S
  | _ => False
def iRg2 (ta : TAD) : TID := fun sg S k x => ta sg S (kRg2 k) x
theorem q_rg1 {a : Expr} {ta : TAD} {p : Pos} (hg : Gl X "range") (hm : X.mg "range" = none) (ha : QA X E [a] ta) (hs : starEach [a] X.env = [(false, eval a X.env)] := by rfl) : QI X E tg (.Call (.Name "range" p) [a] [] pos) (iRg1 ta) :=
  pi_imp (pi_range1 hg hm ha hs) fun s H R ⟨sg, al, S, kd, xd, rs, rl, q, up, ux⟩ => ⟨sg, al, S, kRg1 kd, xd, rs, rl, q, fun ds S1 al1 H1 vs f1 r1 q1 => by
    unfold kRg1 at q1
    split at q1
    · obtain ⟨v, e, rv⟩ := rds1 r1
      cases (show v = _ from rv)
      exact ⟨_, e, q1.1, q1.2.1, up _ S1 al1 H1 _ f1 it_rng q1.2.2⟩
    · exact q1.elim, ux⟩
theorem q_rg2 {a b : Expr} {ta : TAD} {p : Pos} (hg : Gl X "range") (hm : X.mg "range" = none) (ha : QA X E [a, b] ta) (hs : starEach [a, b] X.env = [(false, eval a X.env), (false, eval b X.env)] := by rfl) (hs2 : starEach [b] X.env = [(false, eval b X.env)] := by rfl) : QI X E tg (.Call (.Name "range" p) [a, b] [] pos) (iRg2 ta) :=
  pi_imp (pi_range2 hg hm ha hs hs2) fun s H R ⟨sg, al, S, kd, xd, rs, rl, q, up, ux⟩ => ⟨sg, al, S, kRg2 kd, xd, rs, rl, q, fun ds S1 al1 H1 vs f1 r1 q1 => by
    unfold kRg2 at q1
    split at q1
    · obtain ⟨v, v', e, rv, rv'⟩ := rds2 r1
      cases (show v = _ from rv)
      cases (show v' = _ from rv')
      exact ⟨_, _, e, q1.1, up _ S1 al1 H1 _ f1 it_rng q1.2⟩
    · exact q1.elim, ux⟩

/-! ### comprehensions -/
theorem rsl_wipe {K : PySem.W.Frag} {H : Hp} {al : List Addr} {sg : Sl} {sv : L2.St} (r : RSl K H al sg sv) : ∀ vs : List Nat, RSl K H al (wipeD sg vs) (wipe sv vs)
  | [] => r
  | v :: vs => by
    have ih := rsl_wipe r vs
    refine ⟨by show ((wipeD sg vs).set v none).length = ((wipe sv vs).set v none).length; rw [List.length_set, List.length_set, ih.len], fun i d h => ?_⟩
    have h : ((wipeD sg vs).set v none)[i]? = some (some d) := h
    by_cases hv : v = i
    · subst hv
      by_cases hl : v < (wipeD sg vs).length
      · rw [List.getElem?_set_self hl] at h
        cases h
      · rw [List.getElem?_eq_none (by rw [List.length_set]; omega)] at h
        cases h
    · rw [List.getElem?_set_ne hv] at h
      obtain ⟨w, e, rw'⟩ := ih.at_ i d h
      exact ⟨w, by show ((wipe sv vs).set v none)[i]? = _; rw [List.getElem?_set_ne hv]; exact e, rw'⟩
abbrev QTs (X : Cx) (E : XK) (e : List Expr) (t : TTD) : Prop := PTs X e (LT (cy X E) t)
theorem q_tnil : QTs X E [] dYes := ⟨fun pins s σ H Q I ⟨sg, al, S, kd, xd, rs, rl, q, up, ux⟩ => pts_nil.run pins s σ H Q I (up true S al H (.now rs) q)⟩
theorem q_tone {c : Expr} {t : TTD} (h : QT X E c t) : QTs X E [c] t := pts_one h
theorem ux0 {K : PySem.W.Frag} {mg : Str → Option Value} {H : Hp} {al : List Addr} {E : XK} : UpX ⟨K, mg, E⟩ H al XF := fun ex S' al' H' cls d f r h => h.elim
/-- the reading of a comprehension: from data to the layer's -/
theorem lc_red {K : PySem.W.Frag} {mg : Str → Option Value} {ti : TID} {g : TGD} {tt : TTD} {te : TED} {vs : List Nat} {tV : TG} {s : L2.St} {H : Hp} {Q : VK} {E : XK}
    (hl : ∀ v s H Q, LG ⟨K, mg, E0⟩ g v s H Q → tV v s H Q) (hw : WipeOK vs tV) (h : LE ⟨K, mg, E⟩ (dLc ti g tt te vs) s H Q) : tLc (LI ⟨K, mg, E⟩ ti) tV (LT ⟨K, mg, E0⟩ tt) (LE ⟨K, mg, E0⟩ te) vs s H Q := by
  obtain ⟨sg, al, S, kd, xd, rs, rl, q, up, ux⟩ := h
  refine ⟨sg, al, S, kLc g tt te (wipeD sg vs) kd, xd, rs, rl, q, fun it S1 al1 H1 J f1 iok q1 => ?_, ux⟩
  intro D hD
  have q1 : wLc it.grd g tt te (wipeD sg vs) S1.length (fun S' => kd (.ref S1.length) S') it.items (S1 ++ [.lst []]) := q1
  have fN : Fut K H1 al1 (upd H1 D (.lst [])) (al1 ++ [D]) (S1 ++ [.lst []]) := new_lst f1.rs hD rfl
  have aN : (al1 ++ [D])[S1.length]? = some D := by rw [← f1.rs.len]; simp
  refine ⟨fun i m H' => ∃ al' S', Fut K (upd H1 D (.lst [])) (al1 ++ [D]) H' al' S' ∧ wLc it.grd g tt te (wipeD sg vs) S1.length (fun S' => kd (.ref S1.length) S') (it.items.drop i) S' ∧ m = it.items.length - i ∧ i ≤ it.items.length, ⟨it.items.length, _, _, .now fN.rs, q1, by simp, Nat.zero_le _⟩, ?_⟩
  rintro i m H2 ⟨al2, S2, f2, w2, rfl, hi⟩
  by_cases hlt : i < it.items.length
  · rw [List.drop_eq_getElem_cons hlt] at w2
    obtain ⟨gr, w2⟩ := w2
    refine .inr ⟨iok.go i H2 al2 S2 (fN.trans f2) gr hlt, fun H' => ∃ m', m' < it.items.length - i ∧ ∃ al' S', Fut K (upd H1 D (.lst [])) (al1 ++ [D]) H' al' S' ∧ wLc it.grd g tt te (wipeD sg vs) S1.length (fun S' => kd (.ref S1.length) S') (it.items.drop (i + 1)) S' ∧ m' = it.items.length - (i + 1) ∧ i + 1 ≤ it.items.length, fun H' h => h, fun x H' hy => ?_⟩
    obtain ⟨f3, r3⟩ := iok.yld i _ H2 al2 S2 x H' (fN.trans f2) gr (List.getElem?_eq_getElem hlt) hy
    have fA := (f1.trans fN).trans (f2.trans f3)
    refine hw _ _ _ _ _ (fun s2 H2 e q => ⟨e.trans (wipe_wipe _ _), q⟩) (hl _ _ _ _ ⟨_, wipeD sg vs, al2, S2, _, XF, f3.rs, rsl_wipe (fA.rsl rl) vs, r3, w2, fun sg4 S4 al4 H4 sv4 f4 rl4 q4 => ?_, ux0⟩)
    refine ⟨sg4, al4, S4, _, XF, f4.rs, rl4, q4, fun b S5 al5 H5 f5 q5 => ite_of ⟨fun e => ?_, fun e => ?_⟩, ux0⟩
    · refine ⟨sg4, al5, S5, _, XF, f5.rs, f5.rsl rl4, q5.1 e, fun y S6 al6 H6 v6 f6 r6 q6 => ?_, ux0⟩
      obtain ⟨acc, ha, hz, q6⟩ := q6
      have fB := ((f2.trans f3).trans f4).trans (f5.trans f6)
      have a6 := getExt fB aN
      obtain ⟨us, e6, ru⟩ := f6.rs.ob _ _ _ ha a6
      refine ⟨us, e6, by rw [RDs.length ru]; exact hz, it.items.length - (i + 1), by omega, al6, _, fB.trans (set_lst f6.rs ha a6 (RDs.append ru (RDs.one r6))), q6, rfl, hlt⟩
    · exact ⟨it.items.length - (i + 1), by omega, al5, S5, ((f2.trans f3).trans f4).trans f5, q5.2 e, rfl, hlt⟩
  · have e : i = it.items.length := by omega
    subst e
    rw [List.drop_length] at w2
    obtain ⟨gr, w2⟩ := w2
    exact .inl ⟨iok.stop H2 al2 S2 (fN.trans f2) gr, up (.ref S1.length) S2 al2 H2 (.ref D) ((f1.trans fN).trans f2) ⟨D, rfl, getExt f2 aN⟩ w2⟩
theorem q_lc {elt iter : Expr} {ifs : List Expr} {scope : Scope} {own : List (Str × Nat)} {ti : TID} {tt : TTD} (hc : X.calm = true) (hN : X.N.Nodup) (hi : QI X E tg iter ti) (ok : BlkOk X.N X.env.scope scope own)
    (hg : ∀ (s : Shared) (H : Hp) (C : Addr) (cl : List (Str × Addr)) (fp : List Addr), QG (X.blk s H scope (compEnvC scope cl C X.env) fp) E0 tg g tV is) (ht : ∀ (s : Shared) (H : Hp) (C : Addr) (cl : List (Str × Addr)) (fp : List Addr), QTs (X.blk s H scope (compEnvC scope cl C X.env) fp) E0 ifs tt)
    (he : ∀ (s : Shared) (H : Hp) (C : Addr) (cl : List (Str × Addr)) (fp : List Addr), QE (X.blk s H scope (compEnvC scope cl C X.env) fp) E0 elt te) (his : is.all (own.map (·.2)).contains = true := by rfl) (hs : ∀ x, foldedSetIterable iter X.env x = pure x := by intro _; rfl) :
    QE X E (.ListComp elt [⟨tg, iter, ifs, 0⟩] scope pos) (dLc ti g tt te (own.map (·.2))) := by
  have hv : ∀ i ∈ is, i ∈ own.map (·.2) := fun i hi => by
    have q := List.all_eq_true.mp his i hi
    simpa using q
  refine pe_imp (pe_lc (te := LE ⟨X.K, X.mg, E0⟩ te) (tt := LT ⟨X.K, X.mg, E0⟩ tt) hc hN hi ok (fun s H C cl fp => (hg s H C cl fp).1) ht he hs) fun s H Q q => ?_
  have h0 := hg X.s_0 H 0 [] []
  exact lc_red (mg := X.mg) h0.2.1 (h0.2.2 _ hv) q
theorem q_setLc {i : Nat} {y : Str} {py : Pos} {spos : Pos} {elt iter : Expr} {ifs : List Expr} {scope : Scope} {own : List (Str × Nat)} {ti : TID} {tt : TTD} (hc : X.calm = true) (hN : X.N.Nodup) (hi : QI X E tg iter ti) (ok : BlkOk X.N X.env.scope scope own)
    (hg : ∀ (s : Shared) (H : Hp) (C : Addr) (cl : List (Str × Addr)) (fp : List Addr), QG (X.blk s H scope (compEnvC scope cl C X.env) fp) E0 tg g tV is) (ht : ∀ (s : Shared) (H : Hp) (C : Addr) (cl : List (Str × Addr)) (fp : List Addr), QTs (X.blk s H scope (compEnvC scope cl C X.env) fp) E0 ifs tt)
    (he : ∀ (s : Shared) (H : Hp) (C : Addr) (cl : List (Str × Addr)) (fp : List Addr), QE (X.blk s H scope (compEnvC scope cl C X.env) fp) E0 elt te) (hsw : swapsWith (.ListComp elt [⟨tg, iter, ifs, 0⟩] scope pos) (some (.Name y py)) spos.line X.env = pure true) (his : is.all (own.map (·.2)).contains = true := by rfl)
    (hy : X.N[i]? = some y := by rfl) (hyl : X.env.scope.names.lookup y = some .local := by rfl) (hs : ∀ x, foldedSetIterable iter X.env x = pure x := by intro _; rfl) :
    QS X E (.Assign [.Name y py] (.ListComp elt [⟨tg, iter, ifs, 0⟩] scope pos) spos) (dSet i (dLc ti g tt te (own.map (·.2)))) := by
  have hv : ∀ i ∈ is, i ∈ own.map (·.2) := fun i hi => by
    have q := List.all_eq_true.mp his i hi
    simpa using q
  refine ps_imp (ps_setLc (te := LE ⟨X.K, X.mg, E0⟩ te) (tt := LT ⟨X.K, X.mg, E0⟩ tt) hc hN hy hyl hsw hi ok (fun s H C cl fp => (hg s H C cl fp).1) ht he hs) fun De s H ⟨sg, al, S, Dd, rs, rl, q, ue⟩ => ?_
  have h0 := hg X.s_0 H 0 [] []
  exact lc_red (mg := X.mg) (E := E) h0.2.1 (h0.2.2 _ hv) ⟨sg, al, S, kSet i Dd sg, Dd.ex, rs, rl, q, fun d S1 al1 H1 v f1 r1 q1 => ue.nx _ S1 al1 H1 _ f1 (rsl_set (f1.rsl rl) r1 i) q1, ue.ex⟩
end

/-! ### what a call gives back: garbage dropped -/
mutual
def mapR (f : Nat → Nat) : D → D
  | .non => .non
  | .bl b => .bl b
  | .int i => .int i
  | .str x => .str x
  | .tup ds => .tup (mapRs f ds)
  | .ref n => .ref (f n)
def mapRs (f : Nat → Nat) : List D → List D
  | [] => []
  | d :: ds => mapR f d :: mapRs f ds
end
mutual
def clD (m : Nat) : D → Prop
  | .tup ds => clDs m ds
  | .ref n => n < m
  | _ => True
def clDs (m : Nat) : List D → Prop
  | [] => True
  | d :: ds => clD m d ∧ clDs m ds
end
def clKs (m : Nat) : List (Key × D) → Prop
  | [] => True
  | d :: ds => clD m d.2 ∧ clKs m ds
def mapO (f : Nat → Nat) : O → O
  | .lst ds => .lst (mapRs f ds)
  | .ro ds => .ro (mapRs f ds)
  | .dic kvs => .dic (kvs.map fun p => (p.1, mapR f p.2))
  | .exo x d => .exo x (mapR f d)
  | .oth => .oth
def clO (m : Nat) : O → Prop
  | .lst ds => clDs m ds
  | .ro ds => clDs m ds
  | .dic kvs => clKs m kvs
  | .exo _ d => clD m d
  | .oth => True
def clS (S : Sto) : Prop := ∀ (k : Nat) (o : O), S[k]? = some o → clO S.length o
structure Wk (n : Nat) (f : Nat → Nat) (d : D) (S' : Sto) (d' : D) (S'' : Sto) : Prop where
  low : ∀ k, k < n → f k = k
  le : n ≤ S''.length
  inj : ∀ i j, i < S''.length → j < S''.length → f i = f j → i = j
  ob : ∀ (k : Nat) (o : O), S''[k]? = some o → clO S''.length o ∧ S'[f k]? = some (mapO f o)
  d : d = mapR f d'
  cl : clD S''.length d'
/-- what a def's caller gets: the store without what is new and out of reach -/
def wk (n : Nat) (kd : KD) : KD := fun d S' => kd d S' ∨ ∃ f d' S'', Wk n f d S' d' S'' ∧ kd d' S''
def wkX (n : Nat) (xd : XD) : XD := fun ex S' => xd ex S' ∨ ∃ f d' S'', Wk n f ex.2 S' d' S'' ∧ xd (ex.1, d') S''
section
variable {K : PySem.W.Frag} {H : Hp} {al ae : List Addr} {f : Nat → Nat} {m : Nat}
mutual
theorem rd_map (h : ∀ k, k < m → ae[k]? = al[f k]?) : ∀ (d : D) (v : V), RD K H al (mapR f d) v → clD m d → RD K H ae d v
  | .non, _, r, _ => r
  | .bl _, _, r, _ => r
  | .int _, _, r, _ => r
  | .str _, _, r, _ => r
  | .tup ds, _, ⟨a, vs, e, hs, r⟩, c => ⟨a, vs, e, hs, rds_map h ds vs r c⟩
  | .ref n, _, ⟨a, e, r⟩, c => ⟨a, e, (h n c).trans r⟩
theorem rds_map (h : ∀ k, k < m → ae[k]? = al[f k]?) : ∀ (ds : List D) (vs : List V), RDs K H al (mapRs f ds) vs → clDs m ds → RDs K H ae ds vs
  | [], _, r, _ => r
  | d :: ds, _, ⟨v, u, e, r1, r2⟩, c => ⟨v, u, e, rd_map h d v r1 c.1, rds_map h ds u r2 c.2⟩
end
theorem rks_map (h : ∀ k, k < m → ae[k]? = al[f k]?) : ∀ (ds : List (Key × D)) (vs : List (Key × V)), RKs K H al (ds.map fun p => (p.1, mapR f p.2)) vs → clKs m ds → RKs K H ae ds vs
  | [], _, r, _ => r
  | d :: ds, _, ⟨v, u, e, r1, r2⟩, c => ⟨v, u, e, rd_map h d.2 v r1 c.1, rks_map h ds u r2 c.2⟩
theorem ro_map (h : ∀ k, k < m → ae[k]? = al[f k]?) {o : O} {a : Addr} (r : RO K H al (mapO f o) a) (c : clO m o) : RO K H ae o a := by
  cases o with
  | lst ds => obtain ⟨vs, e, r⟩ := r; exact ⟨vs, e, rds_map h ds vs r c⟩
  | ro ds => obtain ⟨vs, e, r⟩ := r; exact ⟨vs, e, rds_map h ds vs r c⟩
  | dic ds => obtain ⟨vs, e, r⟩ := r; exact ⟨vs, e, rks_map h ds vs r c⟩
  | exo x d => obtain ⟨b, dx, v, e, e2, r⟩ := r; exact ⟨b, dx, v, e, e2, rd_map h d v r c⟩
  | oth => trivial
mutual
theorem rd_cl : ∀ (d : D) (v : V), RD K H al d v → clD al.length d
  | .non, _, _ => trivial
  | .bl _, _, _ => trivial
  | .int _, _, _ => trivial
  | .str _, _, _ => trivial
  | .tup ds, _, ⟨a, vs, e, hs, r⟩ => rds_cl ds vs r
  | .ref n, _, ⟨a, e, r⟩ => (List.getElem?_eq_some_iff.mp r).1
theorem rds_cl : ∀ (ds : List D) (vs : List V), RDs K H al ds vs → clDs al.length ds
  | [], _, _ => trivial
  | d :: ds, _, ⟨v, u, e, r1, r2⟩ => ⟨rd_cl d v r1, rds_cl ds u r2⟩
end
theorem rks_cl : ∀ (ds : List (Key × D)) (vs : List (Key × V)), RKs K H al ds vs → clKs al.length ds
  | [], _, _ => trivial
  | d :: ds, _, ⟨v, u, e, r1, r2⟩ => ⟨rd_cl d.2 v r1, rks_cl ds u r2⟩
theorem rs_cl {S : Sto} (r : RS K H al S) : clS S := fun k o e => by
  have hk : k < al.length := by rw [r.len]; exact (List.getElem?_eq_some_iff.mp e).1
  have q := r.ob k o _ e (List.getElem?_eq_getElem hk)
  rw [← r.len]
  cases o with
  | lst ds => obtain ⟨vs, _, r1⟩ := q; exact rds_cl ds vs r1
  | ro ds => obtain ⟨vs, _, r1⟩ := q; exact rds_cl ds vs r1
  | dic ds => obtain ⟨vs, _, r1⟩ := q; exact rks_cl ds vs r1
  | exo x d => obtain ⟨_, dx, v, _, _, r1⟩ := q; exact rd_cl d v r1
  | oth => trivial
theorem mapO_mu (f : Nat → Nat) (o : O) : (mapO f o).mu = o.mu := by cases o <;> rfl
/-- the store weakened -/
theorem fut_wk {H0 : Hp} {al0 : List Addr} {S' S'' : Sto} {d d' : D} (w : Wk al0.length f d S' d' S'') (fu : Fut K H0 al0 H al S') : ∃ ae, Fut K H0 al0 H ae S'' ∧ (∀ k, k < S''.length → ae[k]? = al[f k]?) := by
  obtain ⟨t, et⟩ := fu.ext
  have hlt : ∀ k, k < S''.length → f k < al.length := fun k hk => by
    rw [fu.rs.len]
    exact (List.getElem?_eq_some_iff.mp (w.ob k _ (List.getElem?_eq_getElem hk)).2).1
  refine ⟨(List.range S''.length).map fun k => al.getD (f k) 0, ?_, ?_⟩
  case refine_2 =>
    intro k hk
    rw [List.getElem?_map, List.getElem?_range hk, List.getElem?_eq_getElem (hlt k hk)]
    simp [List.getD, List.getElem?_eq_getElem (hlt k hk)]
  have hget : ∀ k, k < S''.length → ((List.range S''.length).map fun k => al.getD (f k) 0)[k]? = al[f k]? := by
    intro k hk
    rw [List.getElem?_map, List.getElem?_range hk, List.getElem?_eq_getElem (hlt k hk)]
    simp [List.getD, List.getElem?_eq_getElem (hlt k hk)]
  have hlen : ((List.range S''.length).map fun k => al.getD (f k) 0).length = S''.length := by simp
  refine ⟨⟨((List.range S''.length).map fun k => al.getD (f k) 0).drop al0.length, ?_⟩, fu.keep, hlen, fun n k o u a e1 e2 m1 m2 a1 a2 => ?_, fun k o a e1 a1 => ?_⟩
  · refine List.ext_getElem? fun k => ?_
    by_cases hk : k < al0.length
    · rw [List.getElem?_append_left hk, hget k (Nat.lt_of_lt_of_le hk w.le), w.low k hk, et, List.getElem?_append_left hk]
    · rw [List.getElem?_append_right (by omega), List.getElem?_drop]
      congr 1
      omega
  · have hn : n < S''.length := (List.getElem?_eq_some_iff.mp e1).1
    have hk : k < S''.length := (List.getElem?_eq_some_iff.mp e2).1
    rw [hget n hn] at a1
    rw [hget k hk] at a2
    exact w.inj n k hn hk (fu.rs.nd (f n) (f k) _ _ a (w.ob n o e1).2 (w.ob k u e2).2 ((mapO_mu f o).trans m1) ((mapO_mu f u).trans m2) a1 a2)
  · have hk : k < S''.length := (List.getElem?_eq_some_iff.mp e1).1
    have a1' := a1
    rw [hget k hk] at a1'
    obtain ⟨c, e2⟩ := w.ob k o e1
    exact ro_map hget (fu.rs.ob (f k) _ a e2 a1') c
theorem up_wk {H0 : Hp} {al0 : List Addr} {kd : KD} {Q : VK} (up : Up K H0 al0 kd Q) : Up K H0 al0 (wk al0.length kd) Q := fun d S' al' H' v fu r h => by
  rcases h with h | ⟨f, d', S'', w, h⟩
  · exact up d S' al' H' v fu r h
  · obtain ⟨ae, f2, hg⟩ := fut_wk w fu
    refine up d' S'' ae H' v f2 (rd_map hg d' v ?_ w.cl) h
    rw [← w.d]
    exact r
theorem ux_wk {Y : Cy} {H0 : Hp} {al0 : List Addr} {xd : XD} (ux : UpX Y H0 al0 xd) : UpX Y H0 al0 (wkX al0.length xd) := fun ex S' al' H' cls d fu r h => by
  rcases h with h | ⟨f, d', S'', w, h⟩
  · exact ux ex S' al' H' cls d fu r h
  · obtain ⟨ae, f2, hg⟩ := fut_wk w fu
    obtain ⟨b, dx, v, e1, e3, e4, r⟩ := r
    refine ux (ex.1, d') S'' ae H' cls d f2 ⟨b, dx, v, e1, e3, e4, rd_map hg d' v ?_ w.cl⟩ h
    rw [← w.d]
    exact r
end

/-! ### THE RULE for a def -/
def startD (n : Nat) (ds : List D) : Sl := ds.map some ++ List.replicate (n - ds.length) none
theorem rsl_start {K : PySem.W.Frag} {H : Hp} {al : List Addr} {N : List Str} {ds : List D} {vs : List V} (r : RDs K H al ds vs) : RSl K H al (startD N.length ds) (L2.start N vs) := by
  refine ⟨by unfold startD L2.start; simp [RDs.length r], fun i d e => ?_⟩
  unfold startD at e
  by_cases hi : i < ds.length
  · rw [List.getElem?_append_left (by simpa using hi), List.getElem?_map] at e
    cases q : ds[i]? with
    | none => rw [q] at e; cases e
    | some d' =>
      rw [q] at e
      have e' : some d' = some d := Option.some.inj e
      cases e'
      obtain ⟨v, hv, rv⟩ := RDs.get r q
      refine ⟨v, ?_, rv⟩
      unfold L2.start
      rw [List.getElem?_append_left (by rw [List.length_map, RDs.length r]; exact hi), List.getElem?_map, hv]
      rfl
  · rw [List.getElem?_append_right (by simpa using hi), List.getElem?_replicate] at e
    split at e <;> cases e
/-- the end of a def's body -/
def endsD (n : Nat) (kd : KD) (xd : XD) : EndsD := ⟨fun _ S' => wk n kd .non S', wk n kd, fun _ _ => False, fun _ _ => False, wkX n xd⟩
section
variable {P : Program} {w : World} {K : PySem.W.Frag} {mg : Str → Option Value} {base : Heap} {x qual : Str} {params : Arguments} {body : List Stmt} {scope : Scope} {f : Addr} {fd : FuncData} {N ps : List Str} {k : Nat} {sp : SpD} {t : TSD}
/-- a body's reading keeps a promise -/
def Keeps (m : Nat) (N : Nat) (t : TSD) (sp : SpD) : Prop := ∀ ds S kd xd, ds.length = m → clS S → clDs S.length ds → sp ds S kd xd → t (endsD S.length kd xd) (startD N ds) S
theorem def_ok (F : FunD K x qual params body scope [] [] f fd) (S : FnScope N ps scope)
    (hbody : ∀ (cdv : Value) (A : Around) (outer : List Env) (s : Shared) (H : Hp) (E : XK), Room k (A.deeper (envOfC qual scope s.heap.objs.size f cdv)) → QSs (cxOf (L2.CX P w) P w K mg base N qual scope f cdv A outer s H E) E body t)
    (hsp : Keeps ps.length N.length t sp) : FnOk P w K mg base (L2.CX P w) (k + 1) f fd ps (LP K mg ps.length sp) := by
  refine F.ok S (fun vs H Q E h => h.1) fun cdv A outer s H vs Q E hr h => ?_
  obtain ⟨hl, ds, al, S0, kd, xd, rs, rd, q, up, ux⟩ := h
  refine ⟨_, hbody cdv A outer s H E hr, startD N.length ds, al, S0, endsD S0.length kd xd, rs, rsl_start rd, hsp ds S0 kd xd (by rw [← RDs.length rd]; exact hl) (rs_cl rs) (by rw [← rs.len]; exact rds_cl ds vs rd) q, ?_⟩
  rw [← rs.len]
  exact ⟨fun sg S' al' H' sv f1 r1 q1 => up_wk up .non S' al' H' .non f1 rfl q1, up_wk up, fun sg S' al' H' sv f1 r1 q1 => q1.elim, fun sg S' al' H' sv f1 r1 q1 => q1.elim, ux_wk ux⟩
end
/-! ### the law's end -/
theorem rol_only {K : PySem.W.Frag} {H : Hp} {a : Addr} {vs : List V} (o : Only H) (h : SqL K H a vs) : RoL K H a vs := by
  rcases h with (h | h) | h
  · rcases o a with z | ⟨ob, xs, z⟩
    · rw [z] at h; cases h
    · rw [z] at h; cases h
  · exact .inl h
  · exact .inr h
theorem law_sp {K : PySem.W.Frag} {mg : Str → Option Value} {sp : SpD} {H : Hp} {a : Addr} {ns : List Int} (o : Only H) (h : SqL K H a (ns.map V.int)) (q : sp [.ref 0] [.ro (ns.map D.int)] (fun d _ => d = .bl true) XF) :
    LP K mg 1 sp [.ref a] H (fun v _ => v = .bl true) (fun _ _ _ => False) := by
  refine ⟨rfl, [.ref 0], [a], [.ro (ns.map D.int)], _, XF, ⟨rfl, fun n m o u b e1 e2 m1 m2 a1 a2 => ?_, fun n ob b e1 e2 => ?_⟩, ⟨.ref a, [], rfl, ⟨a, rfl, rfl⟩, rfl⟩, q, fun d S' al' H' v f r e => ?_, fun ex S' al' H' cls d f r e => e.elim⟩
  · match n with
    | 0 => cases e1; cases m1
    | n + 1 => simp at e1
  · match n with
    | 0 =>
      cases e1
      cases e2
      exact ⟨_, rol_only o h, ints_rd ns⟩
    | n + 1 => simp at e1
  · cases (show d = .bl true from e)
    exact r
end Q
namespace Q
open PySem
open Spec PyProof.Rows L2

/-! ### calls with keywords, without arguments -/
def pick {α : Type} (idx : List Nat) (ws : List α) : List α := idx.filterMap fun j => ws[j]?
theorem pick_vals {idx : List Nat} {zs : List V} {ws : List Value} (r : Vals zs ws) : Vals (pick idx zs) (pick idx ws) := by
  unfold pick
  induction idx with
  | nil => exact .nil
  | cons j idx ih =>
    rw [List.filterMap_cons, List.filterMap_cons]
    cases e : zs[j]? with
    | none =>
      have e2 := r.none_of e
      rw [e2]
      exact ih
    | some v =>
      obtain ⟨u, e2, rv⟩ := r.get e
      rw [e2]
      exact .cons rv ih
theorem pick_rds {K : PySem.W.Frag} {H : Hp} {al : List Addr} {idx : List Nat} {ds : List D} {vs : List V} (r : RDs K H al ds vs) : RDs K H al (pick idx ds) (pick idx vs) := by
  unfold pick
  induction idx with
  | nil => exact rfl
  | cons j idx ih =>
    rw [List.filterMap_cons, List.filterMap_cons]
    cases e : ds[j]? with
    | none =>
      have e2 : vs[j]? = none := by
        rw [List.getElem?_eq_none_iff] at e ⊢
        rw [RDs.length r]
        exact e
      rw [e2]
      exact ih
    | some d =>
      obtain ⟨v, e2, rv⟩ := RDs.get r e
      rw [e2]
      exact ⟨v, _, rfl, rv, ih⟩
/-- how a call with keywords binds -/
structure KB (K : PySem.W.Frag) (fd : FuncData) (ps : List Str) (n : Nat) (ks : List Str) (idx : List Nat) : Prop where
  to : ∀ (s : Shared) (us ws : List Value), us.length = n → ws.length = ks.length → BindsTo s fd ⟨us, ks.zip ws⟩ (ps.zip (us ++ pick idx ws))
theorem kb_of {K : PySem.W.Frag} {x qual : Str} {params : Arguments} {body : List Stmt} {scope : Scope} {f : Addr} {fd : FuncData} {ps : List Str} (F : FunD K x qual params body scope [] [] f fd) (n : Nat) (ks : List Str) (idx : List Nat)
    (h : ∀ (kV doc pm : Value) (an : Option Addr) (cdv ct : Value) (us ws : List Value), us.length = n → ws.length = ks.length → bindArgs (PySem.W.fnOf x qual params body scope .none kV doc pm an cdv ct) ⟨us, ks.zip ws⟩ = pure (ps.zip (us ++ pick idx ws))) : KB K fd ps n ks idx := by
  obtain ⟨_, _, dV, kV, doc, pm, an, cdv, ct, _, rfl, _, _, ⟨_, rfl⟩ | ⟨e, _⟩, _⟩ := F.ex
  · exact ⟨fun s us ws l1 l2 => .of_eq (h kV doc pm an cdv ct us ws l1 l2)⟩
  · exact (e rfl).elim
def kCK2 (r : SpD) (n m : Nat) (idx : List Nat) (k : KD) (x : XD) (ds : List D) : List D → Sto → Prop := fun zs S => ds.length = n ∧ zs.length = m ∧ r (ds ++ pick idx zs) S k x
def kCK1 (r : SpD) (n m : Nat) (idx : List Nat) (tk : TAD) (sg : Sl) (k : KD) (x : XD) : List D → Sto → Prop := fun ds S => tk sg S (kCK2 r n m idx k x ds) x
def dCallK (r : SpD) (n m : Nat) (idx : List Nat) (t tk : TAD) : TED := fun sg S k x => t sg S (kCK1 r n m idx tk sg k x) x
section
variable {X : Cx} {E : XK} {e : Expr} {es : List Expr} {te : TED} {tr tk : TAD} {pos p kpos : Pos} {kws : List Keyword} {nm : Option Str}
abbrev QK (X : Cx) (E : XK) (kws : List Keyword) (t : TAD) : Prop := PK X kws (LA (cy X E) t)
theorem pk_imp {t t' : TA} (h : PK X kws t) (f : ∀ s H Q, t' s H Q → t s H Q) : PK X kws t' := ⟨fun pos pins s σ H Q I q => h.run pos pins s σ H Q I (f σ H Q q)⟩
theorem q_knil : QK X E [] dNil := pk_imp pk_nil fun s H Q ⟨sg, al, S, kd, xd, rs, rl, q, up, ux⟩ => up [] S al H [] (.now rs) rfl q
theorem q_kcons (ha : QE X E e te) (hr : QK X E kws tr) : QK X E (⟨nm, e, kpos⟩ :: kws) (dCons te tr) :=
  pk_imp (pk_cons ha hr) fun s H Q ⟨sg, al, S, kd, xd, rs, rl, q, up, ux⟩ => ⟨sg, al, S, kCons1 tr sg kd xd, xd, rs, rl, q, fun d S1 al1 H1 v f1 r1 q1 =>
    ⟨sg, al1, S1, kCons2 kd d, xd, f1.rs, f1.rsl rl, q1, fun ds S2 al2 H2 vs f2 r2 q2 => up (d :: ds) S2 al2 H2 (v :: vs) (f1.trans f2) ⟨v, vs, rfl, f2.rd r1, r2⟩ q2, ux.mono f1⟩, ux⟩
variable {k n : Nat} {f : Addr} {fd : FuncData} {ps ks : List Str} {sp : SpD} {x : Str} {idx : List Nat}
theorem runK {pins : List (Addr × Obj)} {σ : L2.St} {H : Hp} {s : Shared} {Q : VK} {us ws : List Value} {vs zs : List V} (F : FnOk X.prog X.w X.K X.mg X.base (L2.CX X.prog X.w) k f fd ps (LP X.K X.mg ps.length sp)) (hr : Room k X.A) (hb : KB X.K fd ps n ks idx) (hx : Passes (L2.CX X.prog X.w) X E)
    (I : Inv X pins σ H s) (r : Vals vs us) (rz : Vals zs ws) (l1 : vs.length = n) (l2 : zs.length = ks.length) (h : LP X.K X.mg ps.length sp (vs ++ pick idx zs) H Q E) : wpAny (model X.prog X.w) X.A (call (.ref f) us (ks.zip ws)) (EP X pins σ Q) X.xe s := by
  have r2 := r.append (pick_vals (idx := idx) rz)
  refine wpAny_call (codeAny_mono (F.run X.A X.stack s H ⟨us, ks.zip ws⟩ (us ++ pick idx ws) (vs ++ pick idx zs) Q E hr I.env0 (hb.to s us ws (r.length.symm.trans l1) (rz.length.symm.trans l2)) r2 h) ?_)
  intro r s' hq
  match r, hq with
  | .error e, hq => exact hx pins σ H s e s' I hq
  | .ok (.ret u), hq => exact I.after hq
  | .ok .next, hq => exact hq.elim
  | .ok .brk, hq => exact hq.elim
  | .ok .cont, hq => exact hq.elim
theorem q_callK (F : FnOk X.prog X.w X.K X.mg X.base (L2.CX X.prog X.w) k f fd ps (LP X.K X.mg ps.length sp)) (hr : Room k X.A) (hg : Gl X x) (hm : X.mg x = some (.ref f)) (hk : PySem.W.keepIn X.K (.ref f) = true) (hb : KB X.K fd ps n ks idx) (hx : Passes (L2.CX X.prog X.w) X E)
    (ha : QA X E (e :: es) tr) (hkw : QK X E kws tk) (hall : (backToKw pos (keywordEach kws X.env)).all (·.1.isSome) = true := by rfl) (hks : (backToKw pos (keywordEach kws X.env)).filterMap (·.1) = ks := by rfl) (hdb : (x == ("__debug__" : Str)) = false := by decide) (he : starEach (e :: es) X.env = (false, eval e X.env) :: starEach es X.env := by rfl) (hpl : ((backTo pos (starEach (e :: es) X.env)).any (·.1) || (backToKw pos (keywordEach kws X.env)).any (·.1.isNone)) = false := by rfl) :
    QE X E (.Call (.Name x p) (e :: es) kws pos) (dCallK (spN ps.length sp) n ks.length idx tr tk) := by
  constructor
  rintro pins s σ H Q I ⟨sg, al, S, kd, xd, rs, rl, q, up, ux⟩
  refine wpAny_Call_Name_kw <| ld_glob I hg hm (PySem.W.callWith_KW (h₀ := X.base) I.ok.mod.kin hk hall (thn (ha.run pos pins s σ H (fun vs H1 => ∃ ds al1 S1, Fut X.K H al H1 al1 S1 ∧ RDs X.K H1 al1 ds vs ∧ kCK1 (spN ps.length sp) n ks.length idx tk sg kd xd ds S1) I
    ⟨sg, al, S, _, xd, rs, rl, q, fun ds S1 al1 H1 vs f1 r1 q1 => ⟨ds, al1, S1, f1, r1, q1⟩, ux⟩) fun us s1 ⟨vs, H1, I1, r, ds, al1, S1, f1, r1, q1⟩ => ?_) hpl he) hdb
  refine thn (hkw.run pos pins s1 σ H1 (fun zs H2 => ∃ es al2 S2, Fut X.K H1 al1 H2 al2 S2 ∧ RDs X.K H2 al2 es zs ∧ kCK2 (spN ps.length sp) n ks.length idx kd xd ds es S2) I1
    ⟨sg, al1, S1, _, xd, f1.rs, f1.rsl rl, q1, fun es S2 al2 H2 vs f2 r2 q2 => ⟨es, al2, S2, f2, r2, q2⟩, ux.mono f1⟩) fun ws s2 ⟨zs, H2, I2, rz, es, al2, S2, f2, r2, l1, l2, q2⟩ => ⟨I2.kIn, ?_⟩
  rw [hks]
  exact runK F hr hb hx I2 r rz (by rw [RDs.length r1]; exact l1) (by rw [RDs.length r2]; exact l2)
    ⟨by rw [RDs.length (RDs.append (f2.rds r1) (pick_rds r2))]; exact q2.1, ds ++ pick idx es, al2, S2, kd, xd, f2.rs, RDs.append (f2.rds r1) (pick_rds r2), q2.2, up.mono (f1.trans f2), ux.mono (f1.trans f2)⟩
theorem q_callK0 (F : FnOk X.prog X.w X.K X.mg X.base (L2.CX X.prog X.w) k f fd ps (LP X.K X.mg ps.length sp)) (hr : Room k X.A) (hg : Gl X x) (hm : X.mg x = some (.ref f)) (hk : PySem.W.keepIn X.K (.ref f) = true) (hb : KB X.K fd ps 0 ks idx) (hx : Passes (L2.CX X.prog X.w) X E)
    (hkw : QK X E kws tk) (hall : (backToKw pos (keywordEach kws X.env)).all (·.1.isSome) = true := by rfl) (hks : (backToKw pos (keywordEach kws X.env)).filterMap (·.1) = ks := by rfl) (hdb : (x == ("__debug__" : Str)) = false := by decide) (hpl : ((backTo pos (starEach [] X.env)).any (·.1) || (backToKw pos (keywordEach kws X.env)).any (·.1.isNone)) = false := by rfl) :
    QE X E (.Call (.Name x p) [] kws pos) (dCallK (spN ps.length sp) 0 ks.length idx dNil tk) := by
  constructor
  rintro pins s σ H Q I ⟨sg, al, S, kd, xd, rs, rl, q, up, ux⟩
  refine wpAny_Call_Name_kw <| ld_glob I hg hm (PySem.W.callWith_KW0 (h₀ := X.base) I.ok.mod.kin hk hall ?_ hpl) hdb
  refine thn (hkw.run pos pins s σ H (fun zs H2 => ∃ es al2 S2, Fut X.K H al H2 al2 S2 ∧ RDs X.K H2 al2 es zs ∧ kCK2 (spN ps.length sp) 0 ks.length idx kd xd [] es S2) I
    ⟨sg, al, S, _, xd, rs, rl, q, fun es S2 al2 H2 vs f2 r2 q2 => ⟨es, al2, S2, f2, r2, q2⟩, ux⟩) fun ws s2 ⟨zs, H2, I2, rz, es, al2, S2, f2, r2, l1, l2, q2⟩ => ⟨I2.kIn, ?_⟩
  rw [hks]
  exact runK F hr hb hx I2 (vs := []) .nil rz rfl (by rw [RDs.length r2]; exact l2)
    ⟨by have := RDs.length (pick_rds (idx := idx) r2); rw [List.nil_append, this]; exact q2.1, [] ++ pick idx es, al2, S2, kd, xd, f2.rs, pick_rds r2, q2.2, up.mono f2, ux.mono f2⟩
theorem q_call0 (F : FnOk X.prog X.w X.K X.mg X.base (L2.CX X.prog X.w) k f fd ps (LP X.K X.mg n sp)) (hr : Room k X.A) (hg : Gl X x) (hm : X.mg x = some (.ref f)) (hk : PySem.W.keepIn X.K (.ref f) = true) (hb : Binds X.K fd ps []) (hx : Passes (L2.CX X.prog X.w) X E)
    (hdb : (x == ("__debug__" : Str)) = false := by decide) :
    QE X E (.Call (.Name x p) [] [] pos) (dCall (spN n sp) dNil) :=
  pe_imp (pe_call0 (dvs := []) F hr hg hm hk hb .nil hx hdb) fun s H Q ⟨sg, al, S, kd, xd, rs, rl, q, up, ux⟩ =>
    ⟨q.1, [], al, S, kd, xd, rs, rfl, q.2, up, ux⟩
/-- no exception is wished for: inside a comprehension -/
theorem passE0 : Passes (L2.CX X.prog X.w) X E0 := passL
end
end Q
namespace Q
open PySem
open Spec PyProof.Rows L2

/-- a def of the text, known to a caller -/
structure FT (P : Program) (w : World) (K : PySem.W.Frag) (mg : Str → Option Value) (base : Heap) (x : Str) (k : Nat) (ps : List Str) (sp : SpD) (f : Addr) (fd : FuncData) : Prop where
  ok : FnOk P w K mg base (L2.CX P w) k f fd ps (LP K mg ps.length sp)
  hm : mg x = some (.ref f)
  hk : PySem.W.keepIn K (.ref f) = true
  hb : Binds K fd ps []
section
variable {P : Program} {w : World} {K : PySem.W.Frag} {mg : Str → Option Value} {base : Heap} {N : List Str} {qual : Str} {scope : Scope} {f : Addr} {cd : Value} {A : Around} {outer : List Env} {s : Shared} {H : Hp} {E : XK}
theorem takes_cx : Takes (cxOf (L2.CX P w) P w K mg base N qual scope f cd A outer s H E) (fun c d _ H => E c d H) := takes_of rfl rfl rfl rfl
theorem pass_cx : Passes (L2.CX P w) (cxOf (L2.CX P w) P w K mg base N qual scope f cd A outer s H E) E := passes_call takes_cx fun _ _ _ _ h => h
theorem own_cx : PassesOwn (model P w) (cxOf (L2.CX P w) P w K mg base N qual scope f cd A outer s H E).A (cxOf (L2.CX P w) P w K mg base N qual scope f cd A outer s H E).env (cxOf (L2.CX P w) P w K mg base N qual scope f cd A outer s H E).xe := passes_of rfl
end
def GlOk (mg : Str → Option Value) (x : Str) (u : Value) (d : D) : Prop := mg x = some u ∧ ((∃ i, d = .int i ∧ RelV (.int i) u) ∨ ∃ z, d = .str z ∧ RelV (.str z) u)
theorem gl_int {mg : Str → Option Value} {x : Str} {i : Int} (h : ∃ t, mg x = some (.int i t)) : ∃ u, GlOk mg x u (.int i) := by
  obtain ⟨t, e⟩ := h
  exact ⟨_, e, .inl ⟨i, rfl, t, rfl⟩⟩
theorem gl_str {mg : Str → Option Value} {x z : Str} (h : ∃ t, mg x = some (.str z t)) : ∃ u, GlOk mg x u (.str z) := by
  obtain ⟨t, e⟩ := h
  exact ⟨_, e, .inr ⟨z, rfl, t, rfl⟩⟩
/-- a module's name for a built-in function -/
theorem q_callBf {X : Cx} {E : XK} {e : Expr} {es : List Expr} {tr : TAD} {pos p : Pos} {x : Str} {id : String} {r : SpD} (hc : CallR X (.builtin id) (LLs (cy X E) r)) (hm : X.mg x = some (.builtin id)) (ha : QA X E (e :: es) tr) (hg : Gl X x := by rfl) (hdb : (x == ("__debug__" : Str)) = false := by decide)
    (h1 : starEach (e :: es) X.env = (false, eval e X.env) :: starEach es X.env := by rfl) (h2 : (backTo pos (starEach es X.env)).any (·.1) = false := by rfl) : QE X E (.Call (.Name x p) (e :: es) [] pos) (dCall r tr) :=
  pe_imp (pe_callBfun hc hg hm ha hdb h1 h2) fun s H Q q => lls q
def spGcd : SpD := fun ds S k _ => match ds with
  | [.int i, .int j] => k (.int ((Nat.gcd i.natAbs j.natAbs : Nat) : Int)) S
  | _ => False
theorem c_gcd {X : Cx} {E : XK} : CallR X (.builtin "math.gcd") (LLs (cy X E) spGcd) := by
  intro pins s σ H xs us Q I r ⟨ds, al, S, kd, xd, rs, rd, q, up, ux⟩
  unfold spGcd at q
  split at q
  · obtain ⟨v, v', e, rv, rv'⟩ := rds2 rd
    cases (show v = _ from rv)
    cases (show v' = _ from rv')
    subst e
    exact cr_gcd pins s σ H _ us Q I r ⟨_, _, rfl, up_at up rs (d := .int _) rfl q⟩
  · exact q.elim
/-! ### the hook: what stands at the head, with the module's names of built-in things -/
def bfB (K : PySem.W.Frag) (p : Str × Value) : Bool := He.eqO (PySem.W.nsIn K mainGlobals p.1) (some (some p.2))
theorem bf_ok {K : PySem.W.Frag} {h : Heap} {mg : Str → Option Value} (X : K.In h) (G : h.Ns mainGlobals mg) {x : Str} {u : Value} (c : bfB K (x, u) = true) : mg x = some u := PySem.W.mg_of X G (He.eqO_ok c)
abbrev AlB : Type := Bool × He.AlD
def obsB (bf : List (Str × Value)) (fa : List He.Fa) (fn : List He.DefD) (K : PySem.W.Frag) : AlB := (bf.all (bfB K), He.obsD fa fn K)
def SaysB (bf : List (Str × Value)) (fa : List He.Fa) (fn : List He.DefD) (K : PySem.W.Frag) : Prop := bf.all (bfB K) = true ∧ He.SaysD fa fn K
def obsBG (n : Nat) (bf : List (Str × Value)) (fa : List He.Fa) (fn : List He.DefD) (g : Addr → Option Obj) : AlB := obsB bf fa fn (He.frG g (He.asD g n))
def hookB (n : Nat) (bf : List (Str × Value)) (fa : List He.Fa) (fn : List He.DefD) : PySem.W.Hook where
  α := AlB
  obs s := obsBG n bf fa fn s.heap.get?
  val _ := (true, He.valD fn)
  says _ h := ∃ K : PySem.W.Frag, K.In h ∧ SaysB bf fa fn K
  of _ _ e := ⟨_, He.frG_in, congrArg (fun z : AlB => z.1) e, congrArg (fun z : AlB => z.2) e⟩
  keeps _ _ _ := fun ⟨K, hK, c⟩ k => ⟨K, PySem.W.Frag.In.keeps hK k, c⟩
theorem obsBG_eq {n : Nat} {bf : List (Str × Value)} {fa : List He.Fa} {fn : List He.DefD} {g : Addr → Option Obj} {s : Shared} (h : ∀ a, g a = s.heap.get? a) : obsBG n bf fa fn g = (hookB n bf fa fn).obs s :=
  (congrArg (obsBG n bf fa fn) (funext h : g = s.heap.get?)).trans rfl
theorem SaysB.bf {bf : List (Str × Value)} {fa : List He.Fa} {fn : List He.DefD} {K : PySem.W.Frag} (c : SaysB bf fa fn K) (i : Nat) {p : Str × Value} (h : bf[i]? = some p := by rfl) : bfB K p = true := List.all_eq_true.mp c.1 p (List.mem_of_getElem? h)
theorem q_glb {X : Cx} {E : XK} {x : Str} {u : Value} {d : D} {pos : Pos} (g : GlOk X.mg x u d) (hg : Gl X x := by rfl) (hd : (x == ("__debug__" : Str)) = false := by decide) : QE X E (.Name x pos) (dC d) := by
  obtain ⟨hm, ⟨i, e, r⟩ | ⟨z, e, r⟩⟩ := g
  · subst e
    exact q_val (pe_glob hg hm r hd) fun _ _ => rfl
  · subst e
    exact q_val (pe_glob hg hm r hd) fun _ _ => rfl
def rIAdd : R2D := fun d e S k _ => match d, e with
  | .int i, .int j => k (.int (i + j)) S
  | _, _ => False
theorem io_add {X : Cx} {E : XK} : OpR X (inplaceOp .Add) (LL2 (cy X E) rIAdd) := o_int0 iop_add fun _ _ _ _ => rfl
theorem io_sub {X : Cx} {E : XK} : OpR X (inplaceOp .Sub) (LL2 (cy X E) rSub) := o_int0 iop_sub fun _ _ _ _ => rfl
theorem io_xor {X : Cx} {E : XK} : OpR X (inplaceOp .BitXor) (LL2 (cy X E) rXor) := o_int0 iop_xor fun _ _ _ _ => rfl
/-- what the law's text owes: its world's facts, its binding, its end, its walk -/
structure Owes (Pg : Program) (n k : Nat) (x : Str) (w : World) (mg : Str → Option Value) (fa : Addr) (h : Heap) : Prop where
  ex : ∃ (K : PySem.W.Frag) (fd : FuncData) (sp : Sp), (K.In h ∧ ∀ (s : Shared) (u : Value), BindsTo s fd ⟨[u], []⟩ [(x, u)]) ∧
    (∀ (H : Hp) (a : Addr) (ns : List Int), ns.length ≤ n → Only H → SqL K H a (ns.map V.int) → sp [.ref a] H (fun v _ => v = .bl true) fun _ _ _ => False) ∧ ∀ B : Heap, K.In B → B.Ns mainGlobals mg → FnOk Pg w K mg B (L2.CX Pg w) k fa fd [x] sp
/-- the law's end, what it lets out by the world -/
theorem walk_ofW {l : PySem.W.OpenLaw} {n k : Nat} {q : Program} {loose : List Str} {XP : (Str → Option Value) → Heap → Prop} {YP : World → Heap → Prop} {d : DefRec} {x : Str} (hn : l.most = some n) (hn2 : n ≤ sizeLine) (hdf : d.params.defaults = []) (hr : Room k callerA)
    (F : ∀ (w : World) (mg : Str → Option Value) (fa : Addr) (h : Heap), YP w h → h.Ns mainGlobals mg → mg d.name = some (.ref fa) → Owes l.prog n k x w mg fa h) : PySem.W.WalkO q loose XP YP l.row.toRowW d [] (fun f vs => PySem.call f vs) := by
  refine Att.attach_call hn hdf ?_
  intro w s₀ s₁ mg mb fa o pm cd doc a vs ns G Y ho hd hcd hmg hobj hints hlen hg
  obtain ⟨K, fd, sp, ⟨KX, hb⟩, hsp, hF⟩ := (F w mg fa _ Y G.T.g hmg).ex
  refine law_call KX G.T.g G.T.b G.T.builtins G.T.nolimit hg hobj hints (Nat.le_trans hlen hn2) hr hF hb (fun H hO hS => hsp H a ns hlen hO hS) ?_
  rintro H e s' ⟨_, _, _, _, _, _, _, _, _, _, _, _, z⟩
  exact z.elim
end Q
namespace Q
open PySem
open Spec PyProof.Rows L2

/-! ### the store, read -/
def lget (S : Sto) (n : Nat) : Option (List D) := match S[n]? with
  | some (.lst ds) => some ds
  | some (.ro ds) => some ds
  | _ => none
theorem isL_iff {S : Sto} {n : Nat} {ds : List D} : isL S n ds ↔ lget S n = some ds := by
  unfold isL lget
  cases e : S[n]? with
  | none => simp
  | some o => cases o <;> simp
theorem lget_lst {S : Sto} {n : Nat} {ds : List D} (h : S[n]? = some (.lst ds)) : lget S n = some ds := by unfold lget; rw [h]
theorem lget_lt {S : Sto} {n : Nat} {ds : List D} (h : lget S n = some ds) : n < S.length := by
  unfold lget at h
  cases e : S[n]? with
  | none => rw [e] at h; cases h
  | some o => exact (List.getElem?_eq_some_iff.mp e).1
theorem tyR_of {S : Sto} {n : Nat} {ds : List D} (h : lget S n = some ds) : tyR S n = some .list := by
  unfold lget at h
  unfold tyR
  cases e : S[n]? with
  | none => rw [e] at h; cases h
  | some o => rw [e] at h; cases o <;> first | rfl | cases h
theorem get_lt {S : Sto} {n : Nat} {o : O} (h : S[n]? = some o) : n < S.length := (List.getElem?_eq_some_iff.mp h).1
theorem get_app {S G : Sto} {n : Nat} {o : O} (h : S[n]? = some o) : (S ++ G)[n]? = some o := by rw [List.getElem?_append_left (get_lt h)]; exact h
theorem lget_app {S G : Sto} {n : Nat} {ds : List D} (h : lget S n = some ds) : lget (S ++ G) n = some ds := by
  have hl := lget_lt h
  unfold lget at h ⊢
  rw [List.getElem?_append_left hl]
  exact h
theorem get_at0 {S G : Sto} {o : O} : (S ++ o :: G)[S.length]? = some o := by simp
theorem get_at {S G : Sto} {k : Nat} : (S ++ G)[S.length + k]? = G[k]? := by rw [List.getElem?_append_right (by omega)]; congr 1; omega
theorem lget_at0 {S G : Sto} {ds : List D} : lget (S ++ .lst ds :: G) S.length = some ds := lget_lst (by simp)
theorem lget_at {S G : Sto} {k : Nat} : lget (S ++ G) (S.length + k) = lget G k := by unfold lget; rw [get_at]
theorem lget_hd {ds : List D} {G : Sto} : lget (.lst ds :: G) 0 = some ds := rfl
theorem lget_tl {o : O} {k : Nat} {G : Sto} : lget (o :: G) (k + 1) = lget G k := rfl
theorem lget_end {A G : Sto} {ds : List D} {m : Nat} (h : A.length = m) : lget (A ++ .lst ds :: G) m = some ds := by subst h; exact lget_at0
theorem lget_end1 {A G : Sto} {o : O} {ds : List D} {m : Nat} (h : A.length + 1 = m) : lget (A ++ o :: .lst ds :: G) m = some ds := by subst h; rw [lget_at]; rfl
theorem lget_end2 {A G : Sto} {o u : O} {ds : List D} {m : Nat} (h : A.length + 2 = m) : lget (A ++ o :: u :: .lst ds :: G) m = some ds := by subst h; rw [lget_at]; rfl
theorem get_k {A G : Sto} {o : O} {m : Nat} (k : Nat) (h : A.length + k = m) (e : G[k]? = some o) : (A ++ G)[m]? = some o := by subst h; rw [get_at]; exact e
theorem lget_k {A G : Sto} {ds : List D} {m : Nat} (k : Nat) (h : A.length + k = m) (e : lget G k = some ds) : lget (A ++ G) m = some ds := by subst h; rw [lget_at]; exact e
theorem set_at0 {S G : Sto} {o u : O} : (S ++ o :: G).set S.length u = S ++ u :: G := by
  rw [List.set_append_right (h := by omega)]
  simp
theorem set_at {S G : Sto} {k : Nat} {u : O} : (S ++ G).set (S.length + k) u = S ++ G.set k u := by
  rw [List.set_append_right (h := by omega)]
  congr 2
  omega
theorem set_app {S G : Sto} {n : Nat} {u : O} (h : n < S.length) : (S ++ G).set n u = S.set n u ++ G := List.set_append_left _ _ h
theorem app1 {S G : Sto} {o : O} : S ++ G ++ [o] = S ++ (G ++ [o]) := by simp
theorem ex_some {α β : Type} {x : α} {P : α → Prop} : (∃ y, some x = some y ∧ P y) ↔ P x := by simp
/-! ### weakening -/
mutual
theorem mapR_id {f : Nat → Nat} {m : Nat} (h : ∀ k, k < m → f k = k) : ∀ (d : D), clD m d → mapR f d = d
  | .non, _ => rfl
  | .bl _, _ => rfl
  | .int _, _ => rfl
  | .str _, _ => rfl
  | .tup ds, c => by rw [mapR, mapRs_id h ds c]
  | .ref n, c => by rw [mapR, h n c]
theorem mapRs_id {f : Nat → Nat} {m : Nat} (h : ∀ k, k < m → f k = k) : ∀ (ds : List D), clDs m ds → mapRs f ds = ds
  | [], _ => rfl
  | d :: ds, c => by rw [mapRs, mapR_id h d c.1, mapRs_id h ds c.2]
end
theorem mapKs_id {f : Nat → Nat} {m : Nat} (h : ∀ k, k < m → f k = k) : ∀ (ds : List (Key × D)), clKs m ds → (ds.map fun p => (p.1, mapR f p.2)) = ds
  | [], _ => rfl
  | d :: ds, c => by rw [List.map_cons, mapR_id h d.2 c.1, mapKs_id h ds c.2]
theorem mapO_id {f : Nat → Nat} {m : Nat} (h : ∀ k, k < m → f k = k) (o : O) (c : clO m o) : mapO f o = o := by
  cases o with
  | lst ds => rw [mapO, mapRs_id h ds c]
  | ro ds => rw [mapO, mapRs_id h ds c]
  | dic ds => rw [mapO, mapKs_id h ds c]
  | exo x d => rw [mapO, mapR_id h d c]
  | oth => rfl
mutual
theorem clD_le {m n : Nat} (h : m ≤ n) : ∀ (d : D), clD m d → clD n d
  | .non, _ => trivial
  | .bl _, _ => trivial
  | .int _, _ => trivial
  | .str _, _ => trivial
  | .tup ds, c => clDs_le h ds c
  | .ref k, c => Nat.lt_of_lt_of_le c h
theorem clDs_le {m n : Nat} (h : m ≤ n) : ∀ (ds : List D), clDs m ds → clDs n ds
  | [], _ => trivial
  | d :: ds, c => ⟨clD_le h d c.1, clDs_le h ds c.2⟩
end
theorem clKs_le {m n : Nat} (h : m ≤ n) : ∀ (ds : List (Key × D)), clKs m ds → clKs n ds
  | [], _ => trivial
  | d :: ds, c => ⟨clD_le h d.2 c.1, clKs_le h ds c.2⟩
theorem clO_le {m n : Nat} (h : m ≤ n) (o : O) (c : clO m o) : clO n o := by
  cases o with
  | lst ds => exact clDs_le h ds c
  | ro ds => exact clDs_le h ds c
  | dic ds => exact clKs_le h ds c
  | exo x d => exact clD_le h d c
  | oth => trivial
/-- a store with one object more or written -/
theorem clS_set {S : Sto} {n : Nat} {o : O} (c : clS S) (h : clO S.length o) : clS (S.set n o) := fun k u e => by
  rw [List.length_set]
  by_cases hk : n = k
  · subst hk
    by_cases hn : n < S.length
    · rw [List.getElem?_set_self hn] at e
      cases e
      exact h
    · rw [List.getElem?_eq_none (by rw [List.length_set]; omega)] at e
      cases e
  · rw [List.getElem?_set_ne hk] at e
    exact c k u e
theorem clS_push {S : Sto} {o : O} (c : clS S) (h : clO (S.length + 1) o) : clS (S ++ [o]) := fun k u e => by
  rw [List.length_append, List.length_singleton]
  rcases get_push_cases e with e | ⟨_, rfl⟩
  · exact clO_le (by omega) u (c k u e)
  · exact h
/-- garbage dropped -/
theorem wk_drop {S G : Sto} {n : Nat} {kd : KD} {d : D} (hn : S.length = n) (cS : clS S) (cd : clD S.length d) (h : kd d S) : wk n kd d (S ++ G) := by
  refine .inr ⟨fun k => k, d, S, ⟨fun _ _ => rfl, by omega, fun _ _ _ _ e => e, fun k o e => ⟨cS k o e, ?_⟩, (mapR_id (fun _ _ => rfl) d cd).symm, cd⟩, h⟩
  rw [mapO_id (fun _ _ => rfl) o (cS k o e)]
  exact get_app e
theorem wk_now {S : Sto} {n : Nat} {kd : KD} {d : D} (h : kd d S) : wk n kd d S := .inl h
/-- a new object at j is given back -/
theorem wk_new {S G : Sto} {n j : Nat} {kd : KD} {o : O} (hn : S.length = n) (cS : clS S) (hj : n ≤ j) (hg : (S ++ G)[j]? = some o) (co : clO n o) (h : kd (.ref n) (S ++ [o])) : wk n kd (.ref j) (S ++ G) := by
  subst hn
  have low : ∀ k, k < S.length → (if k < S.length then k else j) = k := fun k hk => if_pos hk
  refine .inr ⟨fun k => if k < S.length then k else j, .ref S.length, S ++ [o], ⟨low, by simp, fun a b ha hb e => ?_, fun k u e => ?_, ?_, ?_⟩, h⟩
  · simp only [List.length_append, List.length_singleton] at ha hb
    by_cases h1 : a < S.length
    · by_cases h2 : b < S.length
      · simpa [h1, h2] using e
      · simp [h1, h2] at e; omega
    · by_cases h2 : b < S.length
      · simp [h1, h2] at e; omega
      · omega
  · rw [List.length_append, List.length_singleton]
    rcases get_push_cases e with e | ⟨rfl, rfl⟩
    · have hk := get_lt e
      refine ⟨clO_le (by omega) u (cS k u e), ?_⟩
      rw [low k hk, mapO_id low u (cS k u e)]
      exact get_app e
    · refine ⟨clO_le (by omega) u co, ?_⟩
      rw [if_neg (Nat.lt_irrefl _), mapO_id low u co]
      exact hg
  · simp [mapR]
  · simp [clD]
/-! ### loops over data -/
def rng (lo : Int) (i n : Nat) : List D := (List.range' i n).map fun j => D.int (lo + (j : Nat))
theorem rng_zero (lo : Int) (i : Nat) : rng lo i 0 = [] := rfl
theorem rng_succ (lo : Int) (i n : Nat) : rng lo i (n + 1) = D.int (lo + (i : Nat)) :: rng lo (i + 1) n := by unfold rng; rw [List.range'_succ, List.map_cons]
theorem rng_eq (lo : Int) (n : Nat) : ((List.range n).map fun i => D.int (lo + (i : Nat))) = rng lo 0 n := by unfold rng; rw [List.range_eq_range']
/-- a loop by a word over what is left -/
theorem wFor_ind {grd : Sto → Prop} {g : TGD} {tb : TSD} {M : EndsD} (I : List D → Sl → Sto → Prop) (hend : ∀ sg S, I [] sg S → grd S ∧ M.nx sg S)
    (hstep : ∀ d r sg S (nx : Sl → Sto → Prop), I (d :: r) sg S → (∀ sg' S', I r sg' S' → nx sg' S') → grd S ∧ g d sg S (fun sg1 S1 => tb { M with nx := nx, ct := nx, bk := M.nx } sg1 S1) M.ex) :
    ∀ (items : List D) (sg : Sl) (S : Sto), I items sg S → wFor grd g tb M items sg S
  | [], sg, S, h => hend sg S h
  | d :: r, sg, S, h => hstep d r sg S _ h fun sg' S' h' => wFor_ind I hend hstep r sg' S' h'
/-- .. over a range -/
theorem wFor_rng {grd : Sto → Prop} {g : TGD} {tb : TSD} {M : EndsD} {lo : Int} (n : Nat) (I : Nat → Sl → Sto → Prop) {sg : Sl} {S : Sto} (h0 : I 0 sg S) (hend : ∀ sg S, I n sg S → grd S ∧ M.nx sg S)
    (hstep : ∀ i sg S (nx : Sl → Sto → Prop), i < n → I i sg S → (∀ sg' S', I (i + 1) sg' S' → nx sg' S') → grd S ∧ g (.int (lo + (i : Nat))) sg S (fun sg1 S1 => tb { M with nx := nx, ct := nx, bk := M.nx } sg1 S1) M.ex) :
    wFor grd g tb M ((List.range n).map fun i => D.int (lo + (i : Nat))) sg S := by
  rw [rng_eq]
  have key : ∀ (r i : Nat) (sg : Sl) (S : Sto), i + r = n → I i sg S → wFor grd g tb M (rng lo i r) sg S := by
    intro r
    induction r with
    | zero =>
      intro i sg S e h
      have : i = n := by omega
      subst this
      exact hend sg S h
    | succ r ih =>
      intro i sg S e h
      rw [rng_succ]
      exact hstep i sg S _ (by omega) h fun sg' S' h' => ih (i + 1) sg' S' (by omega) h'
  exact key n 0 sg S (by omega) h0
/-- a while by a word and a measure -/
theorem dWhile_by {c : TTD} {tb : TSD} {M : EndsD} {sg : Sl} {S : Sto} (I : Nat → Sl → Sto → Prop) (m0 : Nat) (h0 : I m0 sg S)
    (hs : ∀ m sg S (nx : Sl → Sto → Prop), I m sg S → (∀ m' sg' S', m' < m → I m' sg' S' → nx sg' S') → c sg S (fun b S1 => (b = true → tb { M with nx := nx, ct := nx, bk := M.nx } sg S1) ∧ (b = false → M.nx sg S1)) M.ex) : dWhile c tb M sg S :=
  ⟨I, ⟨m0, h0⟩, fun m sg S h => hs m sg S _ h fun m' sg' S' hm h' => ⟨m', hm, h'⟩⟩
/-- a comprehension whose element is reckoned purely -/
theorem wLc_map {grd : Sto → Prop} {i : Nat} {te : TED} {sg : Sl} {n0 : Nat} {k : Sto → Prop} {f : D → D} : ∀ (items : List D) (S : Sto) (acc : List D),
    (∀ d ∈ items, ∀ (acc : List D) (kk : KD), grd (S.set n0 (.lst acc)) ∧ (kk (f d) (S.set n0 (.lst acc)) → te (sg.set i (some d)) (S.set n0 (.lst acc)) kk XF)) → (∀ acc, grd (S.set n0 (.lst acc))) → n0 < S.length → acc.length + items.length ≤ sizeLine →
    k (S.set n0 (.lst (acc ++ items.map f))) → wLc grd (gNm i) dYes te sg n0 k items (S.set n0 (.lst acc))
  | [], S, acc, _, hg, _, _, hk => ⟨hg acc, by simpa using hk⟩
  | d :: r, S, acc, he, hg, hn, hl, hk => by
    refine ⟨hg acc, ⟨fun _ => ?_, fun z => nomatch z⟩⟩
    refine (he d List.mem_cons_self acc _).2 ?_
    refine ⟨acc, by rw [List.getElem?_set_self hn], by rw [List.length_cons] at hl; omega, ?_⟩
    rw [List.set_set]
    refine wLc_map r S (acc ++ [f d]) (fun d hd => he d (List.mem_cons_of_mem _ hd)) hg hn (by rw [List.length_append, List.length_singleton]; rw [List.length_cons] at hl; omega) ?_
    rw [List.append_assoc]
    exact hk
/-- .. with a test -/
theorem wLc_filter {grd : Sto → Prop} {i : Nat} {tt : TTD} {te : TED} {sg : Sl} {n0 : Nat} {k : Sto → Prop} {p : D → Bool} {f : D → D} : ∀ (items : List D) (S : Sto) (acc : List D),
    (∀ d ∈ items, ∀ (acc : List D) (kk : Bool → Sto → Prop), kk (p d) (S.set n0 (.lst acc)) → tt (sg.set i (some d)) (S.set n0 (.lst acc)) kk XF) →
    (∀ d ∈ items, p d = true → ∀ (acc : List D) (kk : KD), kk (f d) (S.set n0 (.lst acc)) → te (sg.set i (some d)) (S.set n0 (.lst acc)) kk XF) → (∀ acc, grd (S.set n0 (.lst acc))) → n0 < S.length → acc.length + items.length ≤ sizeLine →
    k (S.set n0 (.lst (acc ++ (items.filter p).map f))) → wLc grd (gNm i) tt te sg n0 k items (S.set n0 (.lst acc))
  | [], S, acc, _, _, hg, _, _, hk => ⟨hg acc, by simpa using hk⟩
  | d :: r, S, acc, ht, he, hg, hn, hl, hk => by
    refine ⟨hg acc, ht d List.mem_cons_self acc _ ⟨fun hp => ?_, fun hp => ?_⟩⟩
    · refine he d List.mem_cons_self hp acc _ ?_
      refine ⟨acc, by rw [List.getElem?_set_self hn], by rw [List.length_cons] at hl; omega, ?_⟩
      rw [List.set_set]
      refine wLc_filter r S (acc ++ [f d]) (fun d hd => ht d (List.mem_cons_of_mem _ hd)) (fun d hd => he d (List.mem_cons_of_mem _ hd)) hg hn (by rw [List.length_append, List.length_singleton]; rw [List.length_cons] at hl; omega) ?_
      rw [List.append_assoc]
      rw [List.filter_cons_of_pos hp] at hk
      exact hk
    · refine wLc_filter r S acc (fun d hd => ht d (List.mem_cons_of_mem _ hd)) (fun d hd => he d (List.mem_cons_of_mem _ hd)) hg hn (by rw [List.length_cons] at hl; omega) ?_
      rw [List.filter_cons_of_neg (by rw [hp]; decide)] at hk
      exact hk
/-- the reading of [.. for name in ..] from a fresh list -/
theorem lc_map {it : ItD} {i : Nat} {te : TED} {sg : Sl} {k : KD} {S : Sto} (f : D → D)
    (he : ∀ d ∈ it.items, ∀ (acc : List D) (kk : KD), kk (f d) (S ++ [.lst acc]) → te (sg.set i (some d)) (S ++ [.lst acc]) kk XF) (hg : ∀ acc, it.grd (S ++ [.lst acc])) (hl : it.items.length ≤ sizeLine)
    (hk : k (.ref S.length) (S ++ [.lst (it.items.map f)])) : kLc (gNm i) dYes te sg k it S := by
  unfold kLc
  have e : ∀ acc, (S ++ [O.lst []]).set S.length (.lst acc) = S ++ [.lst acc] := fun acc => set_at0
  have q := wLc_map (grd := it.grd) (i := i) (te := te) (sg := sg) (n0 := S.length) (k := fun S' => k (.ref S.length) S') (f := f) it.items (S ++ [.lst []]) []
    (fun d hd acc kk => ⟨by rw [e]; exact hg acc, by rw [e]; exact he d hd acc kk⟩) (fun acc => by rw [e]; exact hg acc) (by simp) (by simpa using hl) (by rw [e]; exact hk)
  rw [e] at q
  exact q
theorem lc_filter {it : ItD} {i : Nat} {tt : TTD} {te : TED} {sg : Sl} {k : KD} {S : Sto} (p : D → Bool) (f : D → D)
    (ht : ∀ d ∈ it.items, ∀ (acc : List D) (kk : Bool → Sto → Prop), kk (p d) (S ++ [.lst acc]) → tt (sg.set i (some d)) (S ++ [.lst acc]) kk XF)
    (he : ∀ d ∈ it.items, p d = true → ∀ (acc : List D) (kk : KD), kk (f d) (S ++ [.lst acc]) → te (sg.set i (some d)) (S ++ [.lst acc]) kk XF) (hg : ∀ acc, it.grd (S ++ [.lst acc])) (hl : it.items.length ≤ sizeLine)
    (hk : k (.ref S.length) (S ++ [.lst ((it.items.filter p).map f)])) : kLc (gNm i) tt te sg k it S := by
  unfold kLc
  have e : ∀ acc, (S ++ [O.lst []]).set S.length (.lst acc) = S ++ [.lst acc] := fun acc => set_at0
  have q := wLc_filter (grd := it.grd) (i := i) (tt := tt) (te := te) (sg := sg) (n0 := S.length) (k := fun S' => k (.ref S.length) S') (p := p) (f := f) it.items (S ++ [.lst []]) []
    (fun d hd acc kk => by rw [e]; exact ht d hd acc kk) (fun d hd hp acc kk => by rw [e]; exact he d hd hp acc kk) (fun acc => by rw [e]; exact hg acc) (by simp) (by simpa using hl) (by rw [e]; exact hk)
  rw [e] at q
  exact q
/-! ### == of data without objects -/
mutual
def pyD : D → PyData
  | .non => .none
  | .bl b => .bool b
  | .int i => .int i
  | .str x => .str x
  | .tup ds => .tuple (pyDs ds)
  | .ref _ => .none
def pyDs : List D → List PyData
  | [] => []
  | d :: ds => pyD d :: pyDs ds
end
mutual
/-- without objects, of at most this depth -/
def pd : Nat → D → Bool
  | _, .non => true
  | _, .bl _ => true
  | _, .int _ => true
  | _, .str x => (PyData.str x).canLay0
  | 0, .tup _ => false
  | n + 1, .tup ds => pds n ds
  | _, .ref _ => false
def pds : Nat → List D → Bool
  | _, [] => true
  | n, d :: ds => pd n d && pds n ds
end
def eqD (d e : D) : Bool := PyData.eqv (pyD d) (pyD e)
def eqDs (d e : List D) : Bool := PyData.eqvAll (pyDs d) (pyDs e)
mutual
theorem pd_py {S : Sto} : ∀ (d : D) (n : Nat), pd n d = true → DPy S d (pyD d) ∧ (pyD d).canLay0 = true ∧ (pyD d).depth ≤ n
  | .non, n, _ => ⟨.non, rfl, Nat.zero_le _⟩
  | .bl b, n, _ => ⟨.bl b, rfl, Nat.zero_le _⟩
  | .int i, n, _ => ⟨.int i, rfl, Nat.zero_le _⟩
  | .str x, n, h => ⟨.str x, by cases n <;> exact h, Nat.zero_le _⟩
  | .tup ds, 0, h => by cases h
  | .tup ds, n + 1, h => by
    obtain ⟨h1, h2, h3⟩ := pds_py (S := S) ds n h
    exact ⟨.tup h1, h2, by show PyData.depthAll (pyDs ds) + 1 ≤ n + 1; omega⟩
  | .ref _, n, h => by cases n <;> cases h
theorem pds_py {S : Sto} : ∀ (ds : List D) (n : Nat), pds n ds = true → DPys S ds (pyDs ds) ∧ PyData.canLayAll0 (pyDs ds) = true ∧ PyData.depthAll (pyDs ds) ≤ n
  | [], n, _ => ⟨.nil, rfl, Nat.zero_le _⟩
  | d :: ds, n, h => by
    have h' : pd n d = true ∧ pds n ds = true := by simpa [pds] using h
    obtain ⟨a1, a2, a3⟩ := pd_py (S := S) d n h'.1
    obtain ⟨b1, b2, b3⟩ := pds_py (S := S) ds n h'.2
    exact ⟨.cons a1 b1, by show ((pyD d).canLay0 && PyData.canLayAll0 (pyDs ds)) = true; rw [a2, b2]; rfl, by show max (pyD d).depth (PyData.depthAll (pyDs ds)) ≤ n; omega⟩
end
theorem shaped_of {p : PyData} {n : Nat} (h : p.canLay0 = true) (h2 : p.depth ≤ n) (hn : n ≤ 64) : SeqAt.shaped p = true := by
  unfold SeqAt.shaped
  rw [h, decide_eq_true (by omega : p.depth ≤ 64)]
  rfl
theorem eqG_pure {d e : D} {S : Sto} {k : Bool → Prop} (n m : Nat) (hd : pd n d = true) (he : pd m e = true) (h : k (eqD d e)) (hn : n ≤ 64 := by decide) (hm : m ≤ 64 := by decide) : eqG d e S k := by
  obtain ⟨a1, a2, a3⟩ := pd_py (S := S) d n hd
  obtain ⟨b1, b2, b3⟩ := pd_py (S := S) e m he
  exact ⟨_, _, a1, b1, shaped_of a2 a3 hn, shaped_of b2 b3 hm, h⟩
/-- two lists of data without objects -/
theorem eqG_lst {a b : Nat} {xs ys : List D} {S : Sto} {k : Bool → Prop} (n m : Nat) (ha : lget S a = some xs) (hb : lget S b = some ys) (hd : pds n xs = true) (he : pds m ys = true) (h : k (eqDs xs ys)) (hn : n ≤ 60 := by decide) (hm : m ≤ 60 := by decide) : eqG (.ref a) (.ref b) S k := by
  obtain ⟨a1, a2, a3⟩ := pds_py (S := S) xs n hd
  obtain ⟨b1, b2, b3⟩ := pds_py (S := S) ys m he
  exact ⟨_, _, .ref (isL_iff.mpr ha) a1, .ref (isL_iff.mpr hb) b1, shaped_of (n := n + 1) a2 (by show PyData.depthAll _ + 1 ≤ n + 1; omega) (by omega), shaped_of (n := m + 1) b2 (by show PyData.depthAll _ + 1 ≤ m + 1; omega) (by omega), h⟩
theorem eqDs_nil (ds : List D) : eqDs ds [] = ds.isEmpty := by cases ds <;> rfl
theorem eqD_tup (ds es : List D) : eqD (.tup ds) (.tup es) = eqDs ds es := by
  unfold eqD eqDs
  rw [pyD, pyD, PyData.eqv]
theorem eqDs_cons (d e : D) (ds es : List D) : eqDs (d :: ds) (e :: es) = (eqD d e && eqDs ds es) := by
  unfold eqDs eqD
  rw [pyDs, pyDs, PyData.eqvAll]
theorem eqD_int (i j : Int) : eqD (.int i) (.int j) = decide (i = j) := by
  show (i == j) = decide (i = j)
  rw [Bool.beq_eq_decide_eq]
theorem atI0 {α : Type} (a : α) (l : List α) : atI (a :: l) (0 : Int) = some a := atI_nat (j := 0) rfl
theorem atI1 {α : Type} (a b : α) (l : List α) : atI (a :: b :: l) (1 : Int) = some b := atI_nat (j := 1) rfl
theorem atI2 {α : Type} (a b c : α) (l : List α) : atI (a :: b :: c :: l) (2 : Int) = some c := atI_nat (j := 2) rfl
theorem atI3 {α : Type} (a b c d : α) (l : List α) : atI (a :: b :: c :: d :: l) (3 : Int) = some d := atI_nat (j := 3) rfl
theorem atI_in {α : Type} (l : List α) (r : Nat) (h : r < l.length) : ∃ d, atI l (r : Int) = some d ∧ d ∈ l := ⟨l[r], atI_nat (List.getElem?_eq_getElem h), List.getElem_mem h⟩
theorem ixN_nat {n j : Nat} (h : j < n) : ixN n (j : Int) = some j := by
  unfold ixN
  rw [if_pos (by omega), if_pos (by omega)]
  simp
theorem get_set_self {S : Sto} {n : Nat} {o u : O} (h : S[n]? = some o) : (S.set n u)[n]? = some u := List.getElem?_set_self (get_lt h)
theorem lget_set_self {S : Sto} {n : Nat} {o : O} {ds : List D} (h : S[n]? = some o) : lget (S.set n (.lst ds)) n = some ds := lget_lst (get_set_self h)
theorem paired_len {α β : Type} {R : α → β → Prop} : ∀ {l : List α} {m : List β}, Paired R l m → l.length = m.length
  | _, _, .nil => rfl
  | _, _, .cons _ t => by rw [List.length_cons, List.length_cons, paired_len t]
theorem paired_get {α β : Type} {R : α → β → Prop} : ∀ {l : List α} {m : List β} {i : Nat} {a : α} {b : β}, Paired R l m → l[i]? = some a → m[i]? = some b → R a b
  | _, _, 0, _, _, .cons r _, h1, h2 => by
    simp at h1 h2
    subst h1 h2
    exact r
  | _, _, i + 1, _, _, .cons _ t, h1, h2 => paired_get (i := i) t (by simpa using h1) (by simpa using h2)
/-- the same data, of the same kinds -/
def sameD (S : Sto) : Nat → D → D → Prop
  | 0, d, e => flatD d = true ∧ d = e
  | n + 1, d, e => (flatD d = true ∧ d = e) ∨ (∃ xs ys, d = .tup xs ∧ e = .tup ys ∧ ys.length ≤ sizeLine ∧ Paired (sameD S n) xs ys) ∨
      ∃ a b xs ys, d = .ref a ∧ e = .ref b ∧ lget S a = some xs ∧ lget S b = some ys ∧ ys.length ≤ sizeLine ∧ Paired (sameD S n) xs ys
theorem sameD_mono {S G : Sto} : ∀ (n : Nat) (d e : D), sameD S n d e → sameD (S ++ G) n d e
  | 0, d, e, h => h
  | n + 1, d, e, h => by
    rcases h with h | ⟨xs, ys, h1, h2, hl, h3⟩ | ⟨a, b, xs, ys, h1, h2, h3, h4, hl, h5⟩
    · exact .inl h
    · exact .inr (.inl ⟨xs, ys, h1, h2, hl, Paired.mapP h3 fun a b q => sameD_mono n a b q⟩)
    · exact .inr (.inr ⟨a, b, xs, ys, h1, h2, lget_app h3, lget_app h4, hl, Paired.mapP h5 fun a b q => sameD_mono n a b q⟩)
theorem sameD_flat {S : Sto} {d : D} (h : flatD d = true) : ∀ n, sameD S n d d
  | 0 => ⟨h, rfl⟩
  | n + 1 => .inl ⟨h, rfl⟩
theorem sameD_lst {S : Sto} {n a b : Nat} {xs ys : List D} (h1 : lget S a = some xs) (h2 : lget S b = some ys) (hl : ys.length ≤ sizeLine) (h : Paired (sameD S n) xs ys) : sameD S (n + 1) (.ref a) (.ref b) := .inr (.inr ⟨a, b, xs, ys, rfl, rfl, h1, h2, hl, h⟩)
theorem sameD_tup {S : Sto} {n : Nat} {xs ys : List D} (hl : ys.length ≤ sizeLine) (h : Paired (sameD S n) xs ys) : sameD S (n + 1) (.tup xs) (.tup ys) := .inr (.inl ⟨xs, ys, rfl, rfl, hl, h⟩)
theorem paired_same {S : Sto} {n : Nat} {f : D → Prop} : ∀ (xs : List D), (∀ d ∈ xs, sameD S n d d) → Paired (sameD S n) xs xs
  | [], _ => .nil
  | d :: ds, h => .cons (h d List.mem_cons_self) (paired_same (f := f) ds fun e he => h e (List.mem_cons_of_mem _ he))
theorem len1 {α : Type} {l : List α} (h : l.length = 1) : ∃ a, l = [a] := match l, h with | [a], _ => ⟨a, rfl⟩
theorem len2 {α : Type} {l : List α} (h : l.length = 2) : ∃ a b, l = [a, b] := match l, h with | [a, b], _ => ⟨a, b, rfl⟩
theorem len3 {α : Type} {l : List α} (h : l.length = 3) : ∃ a b c, l = [a, b, c] := match l, h with | [a, b, c], _ => ⟨a, b, c, rfl⟩
theorem sl16 : (sizeLine : Nat) = 16777216 := sizeLine_eq
/-- a cut between two statements -/
theorem dSeq_cut {t u : TSD} {M : EndsD} {sg : Sl} {S : Sto} (P : Sl → Sto → Prop) (h : ∀ nx : Sl → Sto → Prop, (∀ sg S, P sg S → nx sg S) → t { M with nx := nx } sg S) (h2 : ∀ sg S, P sg S → u M sg S) : dSeq t u M sg S := h (u M) h2
theorem dSeq_go {t u : TSD} {M : EndsD} {sg : Sl} {S : Sto} (h : t { M with nx := u M } sg S) : dSeq t u M sg S := h
theorem sorted_at {S : Sto} {w : Nat} {ns : List Int} {k : KD} {x : XD} (hw : lget S w = some (ns.map D.int)) (h : ∀ ms : List Int, ms.Perm ns → ms.Pairwise (· ≤ ·) → k (.ref S.length) (S ++ [.lst (ms.map D.int)])) : spSorted [.ref w] S k x := ⟨ns, isL_iff.mpr hw, h⟩
theorem map_natint (l : List Nat) : (l.map fun c : Nat => (c : Int)).map D.int = l.map fun c : Nat => D.int (c : Int) := by rw [List.map_map]; rfl
theorem inF_nats {c : Nat} : ∀ {l : List Nat}, inF (.int (c : Int)) (l.map fun c : Nat => D.int (c : Int)) = decide (c ∈ l) := by
  intro l
  induction l with
  | nil => rfl
  | cons a l ih =>
    show ((decide ((a : Int) = (c : Int))) || inF (.int (c : Int)) (l.map fun c : Nat => D.int (c : Int))) = _
    rw [ih, Bool.eq_iff_iff]
    simp only [Bool.or_eq_true, decide_eq_true_eq, List.mem_cons]
    exact ⟨fun h => h.imp (fun h => by omega) id, fun h => h.imp (fun h => by omega) id⟩
theorem flat_nats (l : List Nat) : (l.map fun c : Nat => D.int (c : Int)).all flatD = true := by
  rw [List.all_map]
  exact List.all_eq_true.mpr fun _ _ => rfl
theorem sl_ok (n : Nat) (h : n ≤ 1000000) : n ≤ sizeLine := Nat.le_trans h (by decide)
/-- data that is the same as itself -/
def sdB : Nat → D → Bool
  | _, .non => true
  | _, .bl _ => true
  | _, .int _ => true
  | _, .str _ => true
  | n + 1, .tup ds => decide (ds.length ≤ 1000000) && ds.all (sdB n)
  | _, _ => false
theorem sameD_self {S : Sto} : ∀ (n : Nat) (d : D), sdB n d = true → sameD S n d d
  | n, .non, _ => sameD_flat rfl n
  | n, .bl _, _ => sameD_flat rfl n
  | n, .int _, _ => sameD_flat rfl n
  | n, .str _, _ => sameD_flat rfl n
  | n + 1, .tup ds, h => by
    have h : (decide (ds.length ≤ 1000000) && ds.all (sdB n)) = true := h
    rw [Bool.and_eq_true, List.all_eq_true] at h
    exact sameD_tup (sl_ok _ (of_decide_eq_true h.1)) (paired_same (f := fun _ => True) ds fun d hd => sameD_self n d (h.2 d hd))
  | 0, .tup _, h => nomatch h
  | 0, .ref _, h => nomatch h
  | _ + 1, .ref _, h => nomatch h
theorem paired_self {S : Sto} {n : Nat} (xs : List D) (h : xs.all (sdB n) = true) : Paired (sameD S n) xs xs := paired_same (f := fun _ => True) xs fun d hd => sameD_self n d (List.all_eq_true.mp h d hd)
/-! ### slices whose ends are natural -/
theorem cut_take (ds : List D) (k : Nat) : cutD ds none (some (k : Int)) = ds.take k := by
  unfold cutD
  rw [HT.sIx_nat]
  show (ds.drop 0).take (min k ds.length - 0) = _
  rw [List.drop_zero, Nat.sub_zero, ← List.take_take, List.take_length]
theorem cut_drop (ds : List D) (k : Nat) : cutD ds (some (k : Int)) none = ds.drop k := by
  unfold cutD
  rw [HT.sIx_nat]
  show (ds.drop (min k ds.length)).take (ds.length - min k ds.length) = _
  by_cases h : k ≤ ds.length
  · rw [Nat.min_eq_left h]
    exact List.take_of_length_le (by rw [List.length_drop]; exact Nat.le_refl _)
  · rw [Nat.min_eq_right (by omega), List.drop_of_length_le (Nat.le_refl _), List.drop_of_length_le (by omega)]
    simp
end Q
namespace Q
open PySem
open Spec PyProof.Rows L2

/-! ### dicts: a comprehension, sorted keys -/
def keyD : Key → D
  | .inl i => .int i
  | .inr x => .str x
theorem key_rd {K : PySem.W.Frag} {H : Hp} {al : List Addr} {k : Key} {v : V} (r : RD K H al (keyD k) v) : v = kV k := by
  cases k with
  | inl i => exact r
  | inr x => exact r
def putD (kvs : List (Key × D)) (k : Key) (v : D) : List (Key × D) := match kvs.any fun p => decide (p.1 = k) with
  | true => kvs.map fun p => if p.1 = k then (p.1, v) else p
  | false => kvs ++ [(k, v)]
theorem rks_any {K : PySem.W.Frag} {H : Hp} {al : List Addr} {k : Key} : ∀ {ds : List (Key × D)} {vs : List (Key × V)}, RKs K H al ds vs → (vs.any fun p => decide (p.1 = k)) = ds.any fun p => decide (p.1 = k)
  | [], _, h => by rw [show _ = [] from h]; rfl
  | d :: ds, _, ⟨v, r, e, _, h2⟩ => by
    subst e
    rw [List.any_cons, List.any_cons, rks_any h2]
theorem rks_app {K : PySem.W.Frag} {H : Hp} {al : List Addr} {k : Key} {d : D} {v : V} (rd : RD K H al d v) : ∀ {ds : List (Key × D)} {vs : List (Key × V)}, RKs K H al ds vs → RKs K H al (ds ++ [(k, d)]) (vs ++ [(k, v)])
  | [], _, h => by rw [show _ = [] from h]; exact ⟨v, [], rfl, rd, rfl⟩
  | p :: ds, _, ⟨w, r, e, h1, h2⟩ => by
    subst e
    exact ⟨w, _, rfl, h1, rks_app rd h2⟩
theorem rks_map1 {K : PySem.W.Frag} {H : Hp} {al : List Addr} {k : Key} {d : D} {v : V} (rd : RD K H al d v) : ∀ {ds : List (Key × D)} {vs : List (Key × V)}, RKs K H al ds vs → RKs K H al (ds.map fun p => if p.1 = k then (p.1, d) else p) (vs.map fun p => if p.1 = k then (p.1, v) else p)
  | [], _, h => by rw [show _ = [] from h]; exact rfl
  | p :: ds, _, ⟨w, r, e, h1, h2⟩ => by
    subst e
    rw [List.map_cons, List.map_cons]
    by_cases q : p.1 = k
    · rw [if_pos q, if_pos q]
      exact ⟨v, _, rfl, rd, rks_map1 rd h2⟩
    · rw [if_neg q, if_neg q]
      exact ⟨w, _, rfl, h1, rks_map1 rd h2⟩
theorem rks_put {K : PySem.W.Frag} {H : Hp} {al : List Addr} {k : Key} {d : D} {v : V} {ds : List (Key × D)} {vs : List (Key × V)} (rd : RD K H al d v) (r : RKs K H al ds vs) : RKs K H al (putD ds k d) (putK vs k v) := by
  unfold putD putK
  rw [rks_any r]
  cases ds.any fun p => decide (p.1 = k) with
  | true => exact rks_map1 rd r
  | false => exact rks_app rd r
theorem rks_len {K : PySem.W.Frag} {H : Hp} {al : List Addr} : ∀ {ds : List (Key × D)} {vs : List (Key × V)}, RKs K H al ds vs → vs.length = ds.length
  | [], _, h => by rw [show _ = [] from h]; rfl
  | d :: ds, _, ⟨v, r, e, _, h2⟩ => by
    subst e
    rw [List.length_cons, List.length_cons, rks_len h2]
theorem rks_keys {K : PySem.W.Frag} {H : Hp} {al : List Addr} : ∀ {ds : List (Key × D)} {vs : List (Key × V)}, RKs K H al ds vs → vs.map (·.1) = ds.map (·.1)
  | [], _, h => by rw [show _ = [] from h]; rfl
  | d :: ds, _, ⟨v, r, e, _, h2⟩ => by
    subst e
    rw [List.map_cons, List.map_cons, rks_keys h2]
theorem new_dic {K : PySem.W.Frag} {H : Hp} {al : List Addr} {S : Sto} {p : Addr} {ds : List (Key × D)} {vs : List (Key × V)} (r : RS K H al S) (hp : H p = none) (rd : RKs K H al ds vs) : Fut K H al (upd H p (.dK vs)) (al ++ [p]) (S ++ [.dic ds]) :=
  Fut.push r hp ⟨vs, upd_same, RKs.mono (Keep.laid hp) _ _ rd⟩
theorem set_dic {K : PySem.W.Frag} {H : Hp} {al : List Addr} {S : Sto} {n : Nat} {p : Addr} {ds xs : List (Key × D)} {vs : List (Key × V)} (rs : RS K H al S) (h : S[n]? = some (.dic xs)) (hp : al[n]? = some p) (r : RKs K H al ds vs) : Fut K H al (upd H p (.dK vs)) al (S.set n (.dic ds)) := by
  obtain ⟨us, e1, _⟩ := rs.ob n _ p h hp
  have kp : Keep H (upd H p (.dK vs)) := Keep.write e1 (.inr ⟨_, rfl⟩)
  refine Fut.set rs h rfl hp ⟨vs, upd_same, ?_⟩ rfl
  have := RKs.mono (t := []) kp _ _ r
  rwa [List.append_nil] at this
def kDc4 (n0 : Nat) (k : Sto → Prop) (y : D) : KD := fun z S => ∃ kvs key, y = keyD key ∧ S[n0]? = some (.dic kvs) ∧ kvs.length < sizeLine ∧ k (S.set n0 (.dic (putD kvs key z)))
def kDc3 (tv : TED) (sg : Sl) (n0 : Nat) (k : Sto → Prop) : KD := fun y S => tv sg S (kDc4 n0 k y) XF
def wDc (grd : Sto → Prop) (g : TGD) (tt : TTD) (tk tv : TED) (sg : Sl) (n0 : Nat) (k : Sto → Prop) : List D → Sto → Prop
  | [], S => grd S ∧ k S
  | d :: r, S => grd S ∧ g d sg S (fun sg1 S1 => tt sg1 S1 (fun b S2 => (b = true → tk sg1 S2 (kDc3 tv sg1 n0 (wDc grd g tt tk tv sg n0 k r)) XF) ∧ (b = false → wDc grd g tt tk tv sg n0 k r S2)) XF) XF
def kDc (g : TGD) (tt : TTD) (tk tv : TED) (sg : Sl) (k : KD) : ItD → Sto → Prop := fun it S => wDc it.grd g tt tk tv sg S.length (fun S' => k (.ref S.length) S') it.items (S ++ [.dic []])
def dDc (ti : TID) (g : TGD) (tt : TTD) (tk tv : TED) (vs : List Nat) : TED := fun sg S k x => ti sg S (kDc g tt tk tv (wipeD sg vs) k) x
theorem dc_red {K : PySem.W.Frag} {mg : Str → Option Value} {ti : TID} {g : TGD} {tt : TTD} {tk tv : TED} {vs : List Nat} {tV : TG} {s : L2.St} {H : Hp} {Q : VK} {E : XK}
    (hl : ∀ v s H Q, LG ⟨K, mg, E0⟩ g v s H Q → tV v s H Q) (hw : WipeOK vs tV) (h : LE ⟨K, mg, E⟩ (dDc ti g tt tk tv vs) s H Q) : tDc (LI ⟨K, mg, E⟩ ti) tV (LT ⟨K, mg, E0⟩ tt) (LE ⟨K, mg, E0⟩ tk) (LE ⟨K, mg, E0⟩ tv) vs s H Q := by
  obtain ⟨sg, al, S, kd, xd, rs, rl, q, up, ux⟩ := h
  refine ⟨sg, al, S, kDc g tt tk tv (wipeD sg vs) kd, xd, rs, rl, q, fun it S1 al1 H1 J f1 iok q1 => ?_, ux⟩
  intro D hD
  have q1 : wDc it.grd g tt tk tv (wipeD sg vs) S1.length (fun S' => kd (.ref S1.length) S') it.items (S1 ++ [.dic []]) := q1
  have fN : Fut K H1 al1 (upd H1 D (.dK [])) (al1 ++ [D]) (S1 ++ [.dic []]) := new_dic f1.rs hD rfl
  have aN : (al1 ++ [D])[S1.length]? = some D := by rw [← f1.rs.len]; simp
  refine ⟨fun i m H' => ∃ al' S', Fut K (upd H1 D (.dK [])) (al1 ++ [D]) H' al' S' ∧ wDc it.grd g tt tk tv (wipeD sg vs) S1.length (fun S' => kd (.ref S1.length) S') (it.items.drop i) S' ∧ m = it.items.length - i ∧ i ≤ it.items.length, ⟨it.items.length, _, _, .now fN.rs, q1, by simp, Nat.zero_le _⟩, ?_⟩
  rintro i m H2 ⟨al2, S2, f2, w2, rfl, hi⟩
  by_cases hlt : i < it.items.length
  · rw [List.drop_eq_getElem_cons hlt] at w2
    obtain ⟨gr, w2⟩ := w2
    refine .inr ⟨iok.go i H2 al2 S2 (fN.trans f2) gr hlt, fun H' => ∃ m', m' < it.items.length - i ∧ ∃ al' S', Fut K (upd H1 D (.dK [])) (al1 ++ [D]) H' al' S' ∧ wDc it.grd g tt tk tv (wipeD sg vs) S1.length (fun S' => kd (.ref S1.length) S') (it.items.drop (i + 1)) S' ∧ m' = it.items.length - (i + 1) ∧ i + 1 ≤ it.items.length, fun H' h => h, fun x H' hy => ?_⟩
    obtain ⟨f3, r3⟩ := iok.yld i _ H2 al2 S2 x H' (fN.trans f2) gr (List.getElem?_eq_getElem hlt) hy
    have fA := (f1.trans fN).trans (f2.trans f3)
    refine hw _ _ _ _ _ (fun s2 H2 e q => ⟨e.trans (wipe_wipe _ _), q⟩) (hl _ _ _ _ ⟨_, wipeD sg vs, al2, S2, _, XF, f3.rs, rsl_wipe (fA.rsl rl) vs, r3, w2, fun sg4 S4 al4 H4 sv4 f4 rl4 q4 => ?_, ux0⟩)
    refine ⟨sg4, al4, S4, _, XF, f4.rs, rl4, q4, fun b S5 al5 H5 f5 q5 => ite_of ⟨fun e => ?_, fun e => ?_⟩, ux0⟩
    · refine ⟨sg4, al5, S5, _, XF, f5.rs, f5.rsl rl4, q5.1 e, fun y S6 al6 H6 v6 f6 r6 q6 => ?_, ux0⟩
      refine ⟨sg4, al6, S6, _, XF, f6.rs, f6.rsl (f5.rsl rl4), q6, fun z S7 al7 H7 v7 f7 r7 q7 => ?_, ux0⟩
      obtain ⟨acc, key, ek, ha, hz, q7⟩ := q7
      subst ek
      have fB := ((f2.trans f3).trans f4).trans ((f5.trans f6).trans f7)
      have a7 := getExt fB aN
      obtain ⟨us, e7, ru⟩ := f7.rs.ob _ _ _ ha a7
      exact ⟨us, key, key_rd r6, e7, by rw [rks_len ru]; exact hz, it.items.length - (i + 1), by omega, al7, _, fB.trans (set_dic f7.rs ha a7 (rks_put r7 ru)), q7, rfl, hlt⟩
    · exact ⟨it.items.length - (i + 1), by omega, al5, S5, ((f2.trans f3).trans f4).trans f5, q5.2 e, rfl, hlt⟩
  · have e : i = it.items.length := by omega
    subst e
    rw [List.drop_length] at w2
    obtain ⟨gr, w2⟩ := w2
    exact .inl ⟨iok.stop H2 al2 S2 (fN.trans f2) gr, up (.ref S1.length) S2 al2 H2 (.ref D) ((f1.trans fN).trans f2) ⟨D, rfl, getExt f2 aN⟩ w2⟩
section
variable {X : Cx} {E : XK} {tg iter : Expr} {g : TGD} {tV : TG} {is : List Nat}
theorem q_dc {kx vx : Expr} {ifs : List Expr} {scope : Scope} {own : List (Str × Nat)} {pos : Pos} {ti : TID} {tt : TTD} {tk tv : TED} (hc : X.calm = true) (hN : X.N.Nodup) (hi : QI X E tg iter ti) (ok : BlkOk X.N X.env.scope scope own)
    (hg : ∀ (s : Shared) (H : Hp) (C : Addr) (cl : List (Str × Addr)) (fp : List Addr), QG (X.blk s H scope (compEnvC scope cl C X.env) fp) E0 tg g tV is) (ht : ∀ (s : Shared) (H : Hp) (C : Addr) (cl : List (Str × Addr)) (fp : List Addr), QTs (X.blk s H scope (compEnvC scope cl C X.env) fp) E0 ifs tt)
    (hk : ∀ (s : Shared) (H : Hp) (C : Addr) (cl : List (Str × Addr)) (fp : List Addr), QE (X.blk s H scope (compEnvC scope cl C X.env) fp) E0 kx tk)
    (he : ∀ (s : Shared) (H : Hp) (C : Addr) (cl : List (Str × Addr)) (fp : List Addr), QE (X.blk s H scope (compEnvC scope cl C X.env) fp) E0 vx tv) (his : is.all (own.map (·.2)).contains = true := by rfl) (hs : ∀ x, foldedSetIterable iter X.env x = pure x := by intro _; rfl) :
    QE X E (.DictComp kx vx [⟨tg, iter, ifs, 0⟩] scope pos) (dDc ti g tt tk tv (own.map (·.2))) := by
  have hv : ∀ i ∈ is, i ∈ own.map (·.2) := fun i hi => by
    have q := List.all_eq_true.mp his i hi
    simpa using q
  refine pe_imp (pe_dc (tk := LE ⟨X.K, X.mg, E0⟩ tk) (tv := LE ⟨X.K, X.mg, E0⟩ tv) (tt := LT ⟨X.K, X.mg, E0⟩ tt) hc hN hi ok (fun s H C cl fp => (hg s H C cl fp).1) ht hk he hs) fun s H Q q => ?_
  have h0 := hg X.s_0 H 0 [] []
  exact dc_red (mg := X.mg) h0.2.1 (h0.2.2 _ hv) q
end
/-- sorted of a dict's keys, ints -/
def spSortedD : SpD := fun ds S k _ => match ds with
  | [.ref n] => ∃ (kvs : List (Key × D)) (ks : List Int), S[n]? = some (.dic kvs) ∧ kvs.map (·.1) = ks.map Sum.inl ∧ ks.length < 64 ∧ ∀ ms : List Int, ms.Perm ks → ms.Pairwise (· ≤ ·) → k (.ref S.length) (S ++ [.lst (ms.map D.int)])
  | _ => False
theorem c_sortedD {X : Cx} {E : XK} (hc : X.calm = true) : CallR X (.builtin "sorted") (LLs (cy X E) spSortedD) := by
  intro pins s σ H xs us Q I r ⟨ds, al, S, kd, xd, rs, rd, q, up, ux⟩
  unfold spSortedD at q
  split at q
  · obtain ⟨kvs, ks, hS, hk, hz, q⟩ := q
    obtain ⟨v, e, a, e2, ha⟩ := rds1 rd
    subst e e2
    obtain ⟨vs, e1, rk⟩ := rs.ob _ _ _ hS ha
    exact call_sortedDI hc pins s σ H _ us Q I r ⟨a, vs, ks, rfl, .of e1, (rks_keys rk).trans hk, hz, fun ms p hp hs hn => up_new up rs hn (ints_rd ms) (q ms hp hs)⟩
  · exact q.elim
end Q
namespace Q
open PySem
open Spec PyProof.Rows L2

/-! ### defs that are called where no repr is under way; repr -/
structure FnG (P : Program) (w : World) (K : PySem.W.Frag) (mg : Str → Option Value) (base : Heap) (k : Nat) (f : Addr) (fd : FuncData) (ps : List Str) (sp : Sp) : Prop where
  len : ∀ vs H Q E, sp vs H Q E → vs.length = ps.length
  go : ∀ (A : Around) (outer : List Env) (s : Shared) (H : Hp) (args : Args) (us : List Value) (vs : List V) (Q : VK) (E : XK), A.guards = some [] → Room k A → Env0 P w K mg base A outer s H → BindsTo s fd args (ps.zip us) → Vals vs us → sp vs H Q E →
    codeAny (model P w) A (.call (.ref f) args) (CR (L2.CX P w) outer P w H s Q E) s
theorem FnG.of {P : Program} {w : World} {K : PySem.W.Frag} {mg : Str → Option Value} {base : Heap} {k : Nat} {f : Addr} {fd : FuncData} {ps : List Str} {sp : Sp} (F : FnOk P w K mg base (L2.CX P w) k f fd ps sp) : FnG P w K mg base k f fd ps sp :=
  ⟨F.len, fun A outer s H args us vs Q E _ => F.run A outer s H args us vs Q E⟩
section
variable {P : Program} {w : World} {K : PySem.W.Frag} {mg : Str → Option Value} {base : Heap} {x qual : Str} {params : Arguments} {body : List Stmt} {scope : Scope} {f : Addr} {fd : FuncData} {ps N : List Str} {k : Nat} {t : TSD} {sp : SpD}
theorem def_okG (F : FunD K x qual params body scope [] [] f fd) (S : FnScope N ps scope)
    (hbody : ∀ (cdv : Value) (A : Around) (outer : List Env) (s : Shared) (H : Hp) (E : XK), A.guards = some [] → Room k (A.deeper (envOfC qual scope s.heap.objs.size f cdv)) → QSs (cxOf (L2.CX P w) P w K mg base N qual scope f cdv A outer s H E) E body t)
    (hsp : Keeps ps.length N.length t sp) : FnG P w K mg base (k + 1) f fd ps (LP K mg ps.length sp) := by
  obtain ⟨_, _, _, _, doc, pm, an, cdv, ct, _, rfl, lk, hcd, _, _⟩ := F.ex
  constructor
  · exact fun vs H Q E h => h.1
  intro A outer s H args us vs Q E hG hr e0 hb r h
  obtain ⟨hl, ds, al, S0, kd, xd, rs, rd, q, up, ux⟩ := h
  have hlu := hl
  have keep : ∀ b o, base.get? b = some o → s.heap.get? b = some o := fun b o e => (e0.bs b o e).1
  have par : ∀ y ∈ ps.zip us, scope.names.lookup y.1 = some .local ∨ (scope.names.lookup y.1 = some .cell ∧ ((cellsFrom (s.heap.objs.size + 1) scope.names []).lookup y.1).isSome = true) := by
    rintro ⟨n, v⟩ hy
    exact (S.par n (List.of_mem_zip hy).1).imp id fun q => ⟨q, PySem.W.cellsFrom_some _ _ _ (.inl q)⟩
  refine codeAny_call_function hr.depth (e0.mod.kin.keeps keep _ _ lk) rfl S.co S.gen rfl (PySem.W.codeRec_of (e0.mod.kin.keeps keep) hcd) (hb _ _ _ _ (wpAny_newFunctionEnv_cells S.kind par ?_))
  rintro env rfl s1 nw
  refine ⟨(e0.mod.nolimit.keeps keep).keeps nw.toInCall.keep, codeAny_func ?_⟩
  have J := inv_start (CX := L2.CX P w) (E := E) S hr.hd e0 hl r nw
  have T := hbody cdv A outer s H E hG (hr.deeper _)
  refine wpAny_mono (T.run [] s1 (start N vs) H { nx := fun _ H' => Q .non H', rt := Q } J ⟨startD N.length ds, al, S0, endsD S0.length kd xd, rs, rsl_start rd, hsp ds S0 kd xd (by rw [← RDs.length rd]; exact hl) (rs_cl rs) (by rw [← rs.len]; exact rds_cl ds vs rd) q, ?_⟩) ?_ fun _ _ z => z
  · rw [← rs.len]
    exact ⟨fun sg S' al' H' sv f1 r1 q1 => up_wk up .non S' al' H' .non f1 rfl q1, up_wk up, fun sg S' al' H' sv f1 r1 q1 => q1.elim, fun sg S' al' H' sv f1 r1 q1 => q1.elim, ux_wk ux⟩
  · intro fl s' hs
    match fl, hs with
    | .ret u, ⟨v, σ', H', J, rv, q⟩ => exact ⟨v, H', J.os, J.bare, J.base, J.hok, rv, q⟩
    | .next, ⟨σ', H', J, q⟩ => exact ⟨.non, H', J.os, J.bare, J.base, J.hok, rfl, q⟩
    | .brk, ⟨_, _, _, q⟩ => exact q.elim
    | .cont, ⟨_, _, _, q⟩ => exact q.elim
end
section
variable {X : Cx} {E : XK} {e : Expr} {es : List Expr} {tr : TAD} {pos p : Pos} {k n : Nat} {f : Addr} {fd : FuncData} {ps : List Str} {sp : SpD} {x : Str}
theorem q_callG (hG : X.A.guards = some []) (F : FnG X.prog X.w X.K X.mg X.base k f fd ps (LP X.K X.mg n sp)) (hr : Room k X.A) (hg : Gl X x) (hm : X.mg x = some (.ref f)) (hk : PySem.W.keepIn X.K (.ref f) = true) (hb : Binds X.K fd ps []) (hx : Passes (L2.CX X.prog X.w) X E)
    (ha : QA X E (e :: es) tr) (hdb : (x == ("__debug__" : Str)) = false := by decide) (he : starEach (e :: es) X.env = (false, eval e X.env) :: starEach es X.env := by rfl) (hpl : (backTo pos (starEach es X.env)).any (·.1) = false := by rfl) :
    QE X E (.Call (.Name x p) (e :: es) [] pos) (dCall (spN n sp) tr) := by
  constructor
  rintro pins s σ H Q I ⟨sg, al, S, kd, xd, rs, rl, q, up, ux⟩
  refine wpAny_Call_Name_kw (ld_glob I hg hm (PySem.W.callWith_K (h₀ := X.base) I.ok.mod.kin hk (thn (ha.run pos pins s σ H (fun vs H1 => ∃ ds al1 S1, Fut X.K H al H1 al1 S1 ∧ RDs X.K H1 al1 ds vs ∧ kCall (spN n sp) kd xd ds S1) I
    ⟨sg, al, S, _, xd, rs, rl, q, fun ds S1 al1 H1 vs f1 r1 q1 => ⟨ds, al1, S1, f1, r1, q1⟩, ux⟩) ?_) he hpl) hdb)
  rintro us s1 ⟨vs, H1, I1, r, ds, al1, S1, f1, r1, l1, q1⟩
  refine ⟨I1.kIn, ?_⟩
  have h : LP X.K X.mg n sp vs H1 Q E := ⟨by rw [RDs.length r1]; exact l1, ds, al1, S1, kd, xd, f1.rs, r1, q1, up.mono f1, ux.mono f1⟩
  have l2 : (us ++ []).length = ps.length := by rw [List.append_nil, ← r.length]; exact F.len _ _ _ _ h
  have b := hb s1 us I1.kIn l2
  rw [List.append_nil] at b
  refine wpAny_call (codeAny_mono (F.go X.A X.stack s1 H1 ⟨us, []⟩ us vs Q E hG hr I1.env0 b r h) ?_)
  intro r' s' hq
  match r', hq with
  | .error e, hq => exact hx pins σ H1 s1 e s' I1 hq
  | .ok (.ret u), hq => exact I1.after hq
  | .ok .next, hq => exact hq.elim
  | .ok .brk, hq => exact hq.elim
  | .ok .cont, hq => exact hq.elim
/-- repr of a tuple, of a list -/
def spRepr : SpD := fun ds S k _ => ∃ d q, ds = [d] ∧ DPy S d q ∧ flatD d = false ∧ q.showable = true ∧ q.hasDict = false ∧ q.depth ≤ 60 ∧ q.shown.length ≤ sizeLine ∧ k (.str q.shown) S
theorem c_repr (hG : X.A.guards = some []) (hr : Room k X.A) : CallR X (.builtin "repr") (LLs (cy X E) spRepr) := by
  intro pins s σ H xs us Q I r ⟨ds, al, S, kd, xd, rs, rd, ⟨d, q, ed, hd, hf, h1, h2, h3, h4, hk⟩, up, ux⟩
  subst ed
  obtain ⟨v, e, rv⟩ := rds1 rd
  subst e
  obtain ⟨u, eu, ru⟩ := vals1 r
  subst eu
  obtain ⟨as, R⟩ := Dp.reads I q v u (DPy.dp rs q d v hd rv) ru
  have un := hr.un
  obtain ⟨a, ea⟩ : ∃ a, u = .ref a := by
    cases d with
    | tup ds =>
      obtain ⟨a, vs, e, _⟩ := rv
      subst e
      exact ⟨a, ru⟩
    | ref n =>
      obtain ⟨a, e, _⟩ := rv
      subst e
      exact ⟨a, ru⟩
    | _ => exact nomatch hf
  subst ea
  refine repr_of_reads' R h1 (fun z => by rw [h2] at z; cases z) hG (by omega) (fun _ _ e => e) (fun h' u tk kp => ⟨.str q.shown, H, I.kept kp, ⟨u, rfl⟩, up_at up rs (d := .str q.shown) rfl hk⟩) h4
end
end Q
namespace Q
open PySem
open Spec PyProof.Rows L2

/-! ### the law's call, where no repr is under way -/
section
variable {P : Program} {w : World} {K : PySem.W.Frag} {mg mb : Str → Option Value} {k : Nat} {fa a : Addr} {fd : FuncData} {x : Str} {sp : Sp} {st : Shared} {vs : List Value} {ns : List Int} {H : Hp}
/-- the caller's side, where the script alone may be tracked -/
theorem lone_env (KX : K.In st.heap) (hns : st.heap.Ns mainGlobals mg) (hb : st.heap.Ns builtinsNs mb) (hbb : ∀ x : Str, x ≠ "__name__" → mb x = bootBuiltins x) (hlim : st.heap.NoLimit) (hg : st.gens = #[])
    (ha : st.heap.get? a = some { cls := .type "list", data := .seq vs.toArray }) (hok : HOk P w H st.heap) (hA : ∀ b, H b ≠ none → b = a) (hK : H a ≠ none → K.lookup a = none) :
    K.In (hidT st.heap H) ∧ (hidT st.heap H).Ns mainGlobals mg ∧ Env0 P w K mg (hidT st.heap H) callerA [] st H := by
  have free : ∀ {b : Addr}, (H b = none) ∨ (b = a ∧ H b ≠ none) := fun {b} => by
    by_cases q : H b = none
    · exact .inl q
    · exact .inr ⟨hA b q, q⟩
  have nsIn : ∀ {b : Addr} {m : Str → Option Value}, st.heap.Ns b m → (hidT st.heap H).Ns b m := by
    rintro b m ⟨o, es, ep, e, d, r⟩
    rcases free (b := b) with q | ⟨rfl, _⟩
    · exact ⟨o, es, ep, hidT_get e q, d, r⟩
    · rw [ha] at e
      cases e
      cases d
  have kin : K.In (hidT st.heap H) := by
    intro b o e
    rcases free (b := b) with q | ⟨rfl, q⟩
    · exact hidT_get (KX b o e) q
    · rw [hK q] at e
      cases e
  obtain ⟨mc, l1, l2⟩ := hlim
  exact ⟨kin, nsIn hns, rfl, ⟨kin, nsIn hns, ⟨mb, nsIn hb, hbb⟩, mc, nsIn l1, l2⟩, fun b o e => of_hidT e, Nat.le_of_eq (hidT_size _ _), trivial, fun b hb => (nomatch hb), hok, .of_eq hg⟩
theorem law_callG (KX : K.In st.heap) (hns : st.heap.Ns mainGlobals mg) (hb : st.heap.Ns builtinsNs mb) (hbb : ∀ x : Str, x ≠ "__name__" → mb x = bootBuiltins x) (hlim : st.heap.NoLimit) (hg : st.gens = #[])
    (ha : st.heap.get? a = some { cls := .type "list", data := .seq vs.toArray }) (hi : IntsAre vs ns) (hl : ns.length ≤ sizeLine) (hr : Room k callerA)
    (F : ∀ B : Heap, K.In B → B.Ns mainGlobals mg → FnG P w K mg B k fa fd [x] sp) (hbind : ∀ (s : Shared) (u : Value), BindsTo s fd ⟨[u], []⟩ [(x, u)])
    (hsp : ∀ H : Hp, Only H → SqL K H a (ns.map V.int) → sp [.ref a] H (fun v _ => v = .bl true) fun _ _ _ => False)
    (hCX : ∀ H e s', L2.CX P w [] H st (fun _ _ _ => False) e s' → False) :
    codeAny (model P w) callerA (.call (.ref fa) ⟨[.ref a], []⟩) (fun r s' => r = .ok (.ret (.bool true)) ∧ OldK st.heap s'.heap ∧ s'.os = st.os ∧ AllBare s'.gens) st := by
  have rv := vals_ints hi
  suffices go : ∀ H : Hp, Only H → SqL K H a (ns.map V.int) → HOk P w H st.heap → (∀ b, H b ≠ none → b = a) → (H a ≠ none → K.lookup a = none) →
      codeAny (model P w) callerA (.call (.ref fa) ⟨[.ref a], []⟩) (fun r s' => r = .ok (.ret (.bool true)) ∧ OldK st.heap s'.heap ∧ s'.os = st.os ∧ AllBare s'.gens) st by
    cases hk : K.lookup a with
    | some o =>
      have e := KX a o hk
      rw [ha] at e
      cases e
      exact go (fun _ => none) (fun _ => .inl rfl) (.inr ⟨_, vs.toArray, _, hk, rfl, rfl, rfl, by rw [List.size_toArray, hi.length]; exact hl, by simpa using rv⟩) (fun _ _ z => nomatch z) (fun _ z => (z rfl).elim) fun z => (z rfl).elim
    | none =>
      have at_ : ∀ b : Addr, (b = a ∧ (if b = a then some (HO.frz { cls := .type "list", data := .seq vs.toArray } (.lst (ns.map V.int))) else none) = some (.frz { cls := .type "list", data := .seq vs.toArray } (.lst (ns.map V.int)))) ∨
          (if b = a then some (HO.frz { cls := .type "list", data := .seq vs.toArray } (.lst (ns.map V.int))) else none) = none := fun b => by
        by_cases q : b = a
        · exact .inl ⟨q, if_pos q⟩
        · exact .inr (if_neg q)
      refine go (fun b => if b = a then some (.frz { cls := .type "list", data := .seq vs.toArray } (.lst (ns.map V.int))) else none) (fun b => ?_) (.inl (.inr ⟨{ cls := .type "list", data := .seq vs.toArray }, if_pos rfl⟩)) (fun b u z => ?_) (fun b z => ?_) fun _ => hk
      · rcases at_ b with ⟨_, q⟩ | q
        · exact .inr ⟨_, _, q⟩
        · exact .inl q
      · rcases at_ b with ⟨rfl, q⟩ | q
        · cases q.symm.trans z
          exact ⟨ha, by rw [List.length_map]; exact hl, vs, _, rv, ha⟩
        · cases q.symm.trans z
      · rcases at_ b with ⟨e, _⟩ | q
        · exact e
        · exact absurd q z
  intro H hO hS hok hA hK
  obtain ⟨k1, k2, e0⟩ := lone_env KX hns hb hbb hlim hg ha hok hA hK
  refine codeAny_mono ((F _ k1 k2).go callerA [] st H ⟨[.ref a], []⟩ [.ref a] [.ref a] _ _ rfl hr e0 (hbind st (.ref a)) (.cons rfl .nil) (hsp H hO hS)) ?_
  intro r s' h
  match r, h with
  | .error e, h => exact (hCX H e s' h).elim
  | .ok .next, h => exact h.elim
  | .ok .brk, h => exact h.elim
  | .ok .cont, h => exact h.elim
  | .ok (.ret u), ⟨v, H', os, bare, un, hok', r', q⟩ =>
    cases (show v = .bl true from q)
    cases (show u = Value.bool true from r')
    refine ⟨rfl, OldK.of_keep fun b o e => ?_, os, bare⟩
    rcases hO b with z | ⟨ob, xs, z⟩
    · exact un.keep b o e z (by intro z; exact absurd (show b ∈ ([] : List Addr) from z) (by simp)) (by simp)
    · obtain ⟨e1, _⟩ := hok b _ z
      rw [e] at e1
      cases e1
      exact (hok' b _ (un.frzs b _ _ z)).1
end
structure OwesG (Pg : Program) (n k : Nat) (x : Str) (w : World) (mg : Str → Option Value) (fa : Addr) (h : Heap) : Prop where
  ex : ∃ (K : PySem.W.Frag) (fd : FuncData) (sp : Sp), (K.In h ∧ ∀ (s : Shared) (u : Value), BindsTo s fd ⟨[u], []⟩ [(x, u)]) ∧
    (∀ (H : Hp) (a : Addr) (ns : List Int), ns.length ≤ n → Only H → SqL K H a (ns.map V.int) → sp [.ref a] H (fun v _ => v = .bl true) fun _ _ _ => False) ∧ ∀ B : Heap, K.In B → B.Ns mainGlobals mg → FnG Pg w K mg B k fa fd [x] sp
theorem walk_ofG {l : PySem.W.OpenLaw} {n k : Nat} {q : Program} {loose : List Str} {XP : (Str → Option Value) → Heap → Prop} {YP : World → Heap → Prop} {d : DefRec} {x : Str} (hn : l.most = some n) (hn2 : n ≤ sizeLine) (hdf : d.params.defaults = []) (hr : Room k callerA)
    (F : ∀ (w : World) (mg : Str → Option Value) (fa : Addr) (h : Heap), YP w h → h.Ns mainGlobals mg → mg d.name = some (.ref fa) → OwesG l.prog n k x w mg fa h) : PySem.W.WalkO q loose XP YP l.row.toRowW d [] (fun f vs => PySem.call f vs) := by
  refine Att.attach_call hn hdf ?_
  intro w s₀ s₁ mg mb fa o pm cd doc a vs ns G Y ho hd hcd hmg hobj hints hlen hg
  obtain ⟨K, fd, sp, ⟨KX, hb⟩, hsp, hF⟩ := (F w mg fa _ Y G.T.g hmg).ex
  refine law_callG KX G.T.g G.T.b G.T.builtins G.T.nolimit hg hobj hints (Nat.le_trans hlen hn2) hr hF hb (fun H hO hS => hsp H a ns hlen hO hS) ?_
  rintro H e s' ⟨_, _, _, _, _, _, _, _, _, _, _, _, z⟩
  exact z.elim
/-- a def that asks for known guards, known to a caller -/
structure FTG (P : Program) (w : World) (K : PySem.W.Frag) (mg : Str → Option Value) (base : Heap) (x : Str) (k : Nat) (ps : List Str) (sp : SpD) (f : Addr) (fd : FuncData) : Prop where
  ok : FnG P w K mg base k f fd ps (LP K mg ps.length sp)
  hm : mg x = some (.ref f)
  hk : PySem.W.keepIn K (.ref f) = true
  hb : Binds K fd ps []
end Q
namespace Q
open PySem
open Spec PyProof.Rows L2

/-! ### xs.insert(i, y), xs[::-1] of a list -/
def rIns : RMD := fun d ds S k _ => match d, ds with
  | .ref n, [.int i, y] => ∃ xs, S[n]? = some (.lst xs) ∧ xs.length < sizeLine ∧ 0 ≤ i ∧ i < 2 ^ 63 ∧ k .non (S.set n (.lst (xs.take i.toNat ++ [y] ++ xs.drop i.toNat)))
  | _, _ => False
theorem m_ins {X : Cx} {E : XK} : MtR X "list.insert" (LLm (cy X E) rIns) := by
  intro pins s σ H x vs v us Q I rx rv ⟨d, ds, al, S, kd, xd, rs, rd, rds, q, up, ux⟩
  unfold rIns at q
  split at q
  · obtain ⟨xs, h1, hz, h0, h63, q⟩ := q
    obtain ⟨a, us', e1, ha, hH, r1⟩ := lst_at rs h1 rd
    obtain ⟨z, y, e2, rz, ry⟩ := rds2 rds
    cases (show z = _ from rz)
    exact mt_insert pins s σ H x vs v us Q I rx rv ⟨a, us', _, y, e1, e2, hH, by rw [RDs.length r1]; exact hz, h0, h63, up .non _ al _ .non (set_lst rs h1 ha (RDs.append (RDs.append (RDs.take _ r1) (RDs.one ry)) (RDs.drop _ r1))) rfl q⟩
  · exact q.elim
def kRev (k : KD) : KD := fun d S => match d with
  | .ref n => ∃ xs, isL S n xs ∧ k (.ref S.length) (S ++ [.lst xs.reverse])
  | _ => False
def dRevL (te : TED) : TED := fun sg S k x => te sg S (kRev k) x
theorem rds_rev {K : PySem.W.Frag} {H : Hp} {al : List Addr} : ∀ {ds : List D} {vs : List V}, RDs K H al ds vs → RDs K H al ds.reverse vs.reverse
  | [], _, h => by rw [show _ = [] from h]; exact rfl
  | d :: ds, _, ⟨v, r, e, h1, h2⟩ => by
    subst e
    rw [List.reverse_cons, List.reverse_cons]
    exact RDs.append (rds_rev h2) (RDs.one h1)
theorem q_revL {X : Cx} {E : XK} {e : Expr} {te : TED} {k : Nat} {p1 p2 p3 pos : Pos} (he : QE X E e te) : QE X E (.Subscript e (.Slice none none (some (.UnaryOp .USub (.Constant (.int 1) k p1) p2)) p3) pos) (dRevL te) :=
  pe_imp (pe_revL he) fun s H Q ⟨sg, al, S, kd, xd, rs, rl, q, up, ux⟩ => ⟨sg, al, S, kRev kd, xd, rs, rl, q, fun d S1 al1 H1 v f1 r1 q1 => by
    unfold kRev at q1
    split at q1
    · obtain ⟨xs, hl, q1⟩ := q1
      obtain ⟨a, vs, e2, _, h1, rv⟩ := isL_at f1.rs hl r1
      exact ⟨a, vs, e2, h1, fun p hp => up_new (up.mono f1) f1.rs hp (rds_rev rv) q1⟩
    · exact q1.elim, ux⟩
/-- a comprehension whose element may change the store -/
theorem lc_ind {it : ItD} {i : Nat} {te : TED} {sg : Sl} {k : KD} {S : Sto} (I : List D → List D → Sto → Prop) (h0 : I it.items [] (S ++ [.lst []])) (hend : ∀ acc T, I [] acc T → it.grd T ∧ k (.ref S.length) T)
    (hs : ∀ d r acc T (kk : KD), I (d :: r) acc T → (∀ y T2, T2[S.length]? = some (.lst acc) → acc.length < sizeLine → I r (acc ++ [y]) (T2.set S.length (.lst (acc ++ [y]))) → kk y T2) → it.grd T ∧ te (sg.set i (some d)) T kk XF) : kLc (gNm i) dYes te sg k it S := by
  have go : ∀ (items acc : List D) (T : Sto), I items acc T → wLc it.grd (gNm i) dYes te sg S.length (fun S' => k (.ref S.length) S') items T := by
    intro items
    induction items with
    | nil => exact fun acc T h => hend acc T h
    | cons d r ih =>
      intro acc T h
      have q := hs d r acc T (kLc3 S.length (wLc it.grd (gNm i) dYes te sg S.length (fun S' => k (.ref S.length) S') r)) h fun y T2 h1 h2 h3 => ⟨acc, h1, h2, ih _ _ h3⟩
      exact ⟨q.1, ⟨fun _ => q.2, fun z => nomatch z⟩⟩
  exact go _ _ _ h0
theorem set_mid {A G G2 : Sto} {o u : O} {m : Nat} (h : A.length + G.length = m) : (A ++ (G ++ o :: G2)).set m u = A ++ (G ++ u :: G2) := by
  subst h
  rw [← List.append_assoc, ← List.length_append, set_at0, List.append_assoc]
theorem get_mid {A G G2 : Sto} {o : O} {m : Nat} (h : A.length + G.length = m) : (A ++ (G ++ o :: G2))[m]? = some o := by
  subst h
  rw [← List.append_assoc, ← List.length_append, get_at0]
theorem set_in {A G : Sto} {u : O} {m r : Nat} (h : A.length + r = m) : (A ++ G).set m u = A ++ G.set r u := by
  subst h
  exact set_at
end Q
namespace Q
open PySem
open Spec PyProof.Rows L2

/-! ### tuple(range(n)), list(range(n)) -/
def rgD (a b : Int) : List D := (List.range (b - a).toNat).map fun i => D.int (a + (i : Nat))
theorem rg_rds {K : PySem.W.Frag} {H : Hp} {al : List Addr} (a b : Int) : RDs K H al (rgD a b) (rgV a b) := by
  unfold rgD rgV
  generalize List.range (b - a).toNat = l
  induction l with
  | nil => exact rfl
  | cons i l ih => exact ⟨_, _, rfl, rfl, ih⟩
def kTupRg (k : KD) : KD := fun d S => match d with
  | .int n => RgOk 0 n ∧ k (.tup (rgD 0 n)) S
  | _ => False
def kLstRg (k : KD) : KD := fun d S => match d with
  | .int n => RgOk 0 n ∧ k (.ref S.length) (S ++ [.lst (rgD 0 n)])
  | _ => False
def dTupRg (te : TED) : TED := fun sg S k x => te sg S (kTupRg k) x
def dLstRg (te : TED) : TED := fun sg S k x => te sg S (kLstRg k) x
theorem q_tupRg {X : Cx} {E : XK} {a : Expr} {te : TED} {p p2 pos pos2 : Pos} (hc : X.calm = true) (hm : X.mg "tuple" = none) (hr : X.mg "range" = none) (ha : QE X E a te) (hg : Gl X "tuple" := by rfl) (hg2 : Gl X "range" := by rfl)
    (n1 : starEach [a] X.env = (false, eval a X.env) :: starEach [] X.env := by rfl) (n2 : starEach [Expr.Call (.Name "range" p2) [a] [] pos2] X.env = (false, eval (.Call (.Name "range" p2) [a] [] pos2) X.env) :: starEach [] X.env := by rfl) :
    QE X E (.Call (.Name "tuple" p) [.Call (.Name "range" p2) [a] [] pos2] [] pos) (dTupRg te) :=
  pe_imp (pe_tupRg hc hg hm (prg_1 hg2 hr ha n1) n2) fun s H Q ⟨sg, al, S, kd, xd, rs, rl, q, up, ux⟩ => ⟨sg, al, S, kTupRg kd, xd, rs, rl, q, fun d S1 al1 H1 v f1 r1 q1 => by
    unfold kTupRg at q1
    split at q1
    · cases (show v = _ from r1)
      exact ⟨_, rfl, q1.1, fun p hp => up_tup (up.mono f1) f1.rs hp (rg_rds _ _) q1.2⟩
    · exact q1.elim, ux⟩
theorem q_lstRg {X : Cx} {E : XK} {a : Expr} {te : TED} {p p2 pos pos2 : Pos} (hc : X.calm = true) (hm : X.mg "list" = none) (hr : X.mg "range" = none) (ha : QE X E a te) (hg : Gl X "list" := by rfl) (hg2 : Gl X "range" := by rfl)
    (n1 : starEach [a] X.env = (false, eval a X.env) :: starEach [] X.env := by rfl) (n2 : starEach [Expr.Call (.Name "range" p2) [a] [] pos2] X.env = (false, eval (.Call (.Name "range" p2) [a] [] pos2) X.env) :: starEach [] X.env := by rfl) :
    QE X E (.Call (.Name "list" p) [.Call (.Name "range" p2) [a] [] pos2] [] pos) (dLstRg te) :=
  pe_imp (pe_listRg hc hg hm (prg_1 hg2 hr ha n1) n2) fun s H Q ⟨sg, al, S, kd, xd, rs, rl, q, up, ux⟩ => ⟨sg, al, S, kLstRg kd, xd, rs, rl, q, fun d S1 al1 H1 v f1 r1 q1 => by
    unfold kLstRg at q1
    split at q1
    · cases (show v = _ from r1)
      exact ⟨_, rfl, q1.1, fun p hp => up_new (up.mono f1) f1.rs hp (rg_rds _ _) q1.2⟩
    · exact q1.elim, ux⟩
end Q
namespace Q
open PySem
open Spec PyProof.Rows L2

/-! ### xs[::-1] of a list or a tuple -/
section
variable {prog : Program} {w : World} {A : Around} {E : Value → Shared → Prop} {s : Shared}
theorem adj_back (n : Nat) : Builtin.Slice.sliceAdjust none none (-1) (n : Int) = ((n : Int) - 1, -1) := rfl
theorem plc_back (n : Nat) : Builtin.Slice.slicePlaces ((n : Int) - 1) (-1) (-1) = n := by
  unfold Builtin.Slice.slicePlaces
  rw [if_neg (by decide), show (- -1 : Int) = 1 from rfl, Int.ediv_one]
  split <;> omega
theorem back_applied {sl : Addr} {vs : Value} {n : Nat} {Q : Int × Int × Nat → Shared → Prop} (hs : s.heap.IsSliceOf sl .none .none vs) (ps : IsPart vs (some (-1))) (h : Q ((n : Int) - 1, -1, n) s) :
    wpAny (model prog w) A (Builtin.Slice.sliceApplied (.ref sl) (pure (n : Int))) Q E s := by
  obtain ⟨o, ho, _, hd⟩ := id hs
  unfold Builtin.Slice.sliceApplied Builtin.Slice.sliceFields
  refine wpAny_bind (wpAny_bind (wpAny_field ho hd (x := .none) rfl (wpAny_bind (wpAny_field ho hd (x := .none) rfl (wpAny_bind (wpAny_field ho hd (x := vs) rfl (wpAny_pure ?_)))))))
  refine wpAny_bind (HT.slicePart_ ps ?_)
  show wpAny _ _ (if ((-1 : Int) == 0) = true then _ else _) _ _ s
  rw [if_neg (by decide)]
  refine wpAny_bind (slicePart_none (wpAny_bind (slicePart_none (wpAny_bind (wpAny_pure ?_)))))
  show wpAny _ _ (match Builtin.Slice.sliceAdjust none none (-1) (n : Int) with | (lo, hi) => pure (lo, (-1 : Int), Builtin.Slice.slicePlaces lo hi (-1))) _ _ s
  rw [adj_back]
  show wpAny _ _ (pure ((n : Int) - 1, (-1 : Int), Builtin.Slice.slicePlaces ((n : Int) - 1) (-1) (-1))) _ _ s
  rw [plc_back]
  exact wpAny_pure h
theorem back_pick (xs : Array Value) : ((List.range xs.size).filterMap fun (k : Nat) => xs[(((xs.size : Int) - 1) + (k : Int) * (-1)).toNat]?).toArray = xs.toList.reverse.toArray := by
  have e : ((List.range xs.size).filterMap fun (k : Nat) => xs[(((xs.size : Int) - 1) + (k : Int) * (-1)).toNat]?) = ((List.range xs.size).map fun k => xs.size - 1 - k).filterMap (xs[·]?) := by
    rw [List.filterMap_map]
    refine congrArg (fun f => (List.range xs.size).filterMap f) (funext fun k => ?_)
    show xs[(((xs.size : Int) - 1) + (k : Int) * (-1)).toNat]? = xs[xs.size - 1 - k]?
    rw [show (((xs.size : Int) - 1) + (k : Int) * (-1)).toNat = xs.size - 1 - k by omega]
  rw [e, PySem.W.krv_range, List.filterMap_reverse, PySem.W.krv_all]
theorem back_tup {t sl : Addr} {items : Array Value} {vs : Value} {Q : Value → Shared → Prop} (ht : IsTup s.heap t items) (hs : s.heap.IsSliceOf sl .none .none vs) (ps : IsPart vs (some (-1)))
    (h : Q (.ref s.heap.objs.size) { s with heap := s.heap.push { cls := .type "tuple", data := .seq items.toList.reverse.toArray } }) (hz : items.size ≤ sizeLine) : wpAny (model prog w) A (getItem (.ref t) (.ref sl)) Q E s := by
  have ok : sizeOk (.seq items.toList.reverse.toArray) := by
    show items.toList.reverse.toArray.size ≤ sizeLine
    rw [List.size_toArray, List.length_reverse, Array.length_toList]
    exact hz
  obtain ⟨o, ho, hc, hd⟩ := id hs
  have hT : s.TypeIs (.ref sl) "slice" := ⟨o, ho, hc⟩
  unfold getItem
  try with_reducible refine wpAny_holding ?_
  first | refine wpAny_bind (wpAny_pure ?_) | skip
  refine wpAny_bind (wpAny_sequenceKey ht.typeIs (by decide) ?_)
  refine wpAny_bind (wpAny_callSpecial?_slot (name := Str.ofString "__getitem__") ht.typeIs PyProof.Rows.slot_tuple_getitem (wpAny_call_entry PyProof.Rows.slot_tuple_getitem ht.typeIs entry_tuple_getitem ?_ (args_tuple_getitem _ _)))
  show wpAny _ _ (Builtin.Tuple.tupleItemsOf (.ref t) >>= _) _ _ s
  refine wpAny_bind (tupleItemsOf_ ht ?_)
  refine wpAny_bind (wpAny_typeOf hT ?_)
  rw [if_pos (by decide)]
  refine wpAny_bind (back_applied hs ps ?_)
  have no : ¬ ((((items.size : Int) - 1 == 0) && ((-1 : Int) == 1) && (items.size == items.size)) = true) := by
    rw [show ((-1 : Int) == 1) = false from by decide, Bool.and_false, Bool.false_and]
    exact Bool.false_ne_true
  show wpAny _ _ (if (((items.size : Int) - 1 == 0) && ((-1 : Int) == 1) && (items.size == items.size)) = true then _ else _) _ _ s
  rw [if_neg no, back_pick]
  first
    | exact wpAny_bind (m := Builtin.Tuple.tupleExact _) (wpAny_newObj_type (wpAny_pure ⟨_, rfl, wpAny_pure h⟩) ok)
    | exact wpAny_bind (m := Builtin.Tuple.tupleExact _) (wpAny_newObj_type (wpAny_bind (wpAny_pure (wpAny_pure ⟨_, rfl, wpAny_pure h⟩))) ok)
    | exact wpAny_bind (wpAny_bind (m := Builtin.Tuple.tupleExact _) (wpAny_newObj_type (wpAny_pure (wpAny_pure ⟨_, rfl, wpAny_pure h⟩)) ok))
end
def tBack (K : PySem.W.Frag) (te : TE) : TE := fun σ H Q => te σ H fun x H1 => ∃ a xs, x = .ref a ∧
  ((SqL K H1 a xs ∧ ∀ p, H1 p = none → Q (.ref p) (upd H1 p (.lst xs.reverse))) ∨ (SqT K H1 a xs ∧ ∀ p, H1 p = none → Q (.ref p) (upd H1 p (.tup xs.reverse))))
theorem pe_back {X : Cx} {e : Expr} {te : TE} {k : Nat} {p1 p2 p3 pos : Pos} (he : PE X e te) : PE X (.Subscript e (.Slice none none (some (.UnaryOp .USub (.Constant (.int 1) k p1) p2)) p3) pos) (tBack X.K te) := by
  refine ⟨fun pins s σ H Q I h => ?_⟩
  refine Subscript_ (thn (he.run pins s σ H _ I h) fun v s1 ⟨x, H1, I1, r1, a, xs, ex, q⟩ => ?_)
  subst ex
  cases r1
  have step : PO X (some (.UnaryOp .USub (.Constant (.int 1) k p1) p2)) (tPart (tUn (rU fun i => .int (-i)) (tC (.int 1)))) := po_some (pe_un un_neg pe_int)
  refine wpAny_Slice (thn (po_none.run pins s1 σ H1 (fun o H2 => o = none ∧ H2 = H1) I1 ⟨rfl, rfl⟩) fun vl s2 ⟨l, H2, I2, pl, el, e2⟩ => ?_)
  subst el e2
  refine thn (po_none.run pins s2 σ H2 (fun o H3 => o = none ∧ H3 = H2) I2 ⟨rfl, rfl⟩) fun vu s3 ⟨u, H3, I3, pu, eu, e3⟩ => ?_
  subst eu e3
  refine thn (step.run pins s3 σ H3 (fun o H4 => o = some (-1) ∧ H4 = H3) I3 ⟨1, rfl, -1, rfl, rfl, rfl⟩) fun vs s4 ⟨o, H4, I4, ps, eo, e4⟩ => ?_
  subst eo e4
  have I5 : Inv X pins σ H4 { s4 with heap := s4.heap.push { cls := .type "slice", data := .fields #[vl, vu, vs] } } := I4.kept (t' := s4.toks) fun b ob q => Heap.get?_push_of_some _ q
  rcases q with ⟨hx, q⟩ | ⟨hx, q⟩
  · obtain ⟨its, r, ht, hz⟩ := I5.list hx
    have hlen := r.length
    show wpAny (model X.prog X.w) X.A (subscriptTail e (.Slice none none (some (.UnaryOp .USub (.Constant (.int 1) k p1) p2)) p3) (.ref a) (.ref s4.heap.objs.size)) (EP X pins σ Q) X.xe { s4 with heap := s4.heap.push { cls := .type "slice", data := .fields #[vl, vu, vs] } }
    refine tail_any (ops := [.ref a, .ref s4.heap.objs.size]) ht.isList.typeIs (PySem.slot_list_getitem.lookup) ?_ (by with_unfolding_all rfl)
    refine wpAny_getItem_list_slice ht.isList (Heap.IsSliceOf.new _ vl vu vs) pl pu ps (by decide) ?_ (by rw [List.size_toArray]; omega)
    rw [PySem.W.krv_pick]
    refine ⟨.ref _, _, I5.laid (t' := s4.toks) (o := .lst xs.reverse) (fun b ob q => Heap.get?_push_of_some _ q) (Nat.le_refl _) ?_, rfl, q _ (I5.hok.fresh (Nat.le_refl _))⟩
    exact ⟨by rw [List.length_reverse]; exact hz, _, 0, r.reverse, Heap.get?_push_size _ rfl⟩
  · obtain ⟨its, r, ht, hz⟩ := I5.tuple hx
    have hlen := r.length
    cases pl
    cases pu
    show wpAny (model X.prog X.w) X.A (subscriptTail e (.Slice none none (some (.UnaryOp .USub (.Constant (.int 1) k p1) p2)) p3) (.ref a) (.ref s4.heap.objs.size)) (EP X pins σ Q) X.xe { s4 with heap := s4.heap.push { cls := .type "slice", data := .fields #[.none, .none, vs] } }
    refine tail_any (ops := [.ref a, .ref s4.heap.objs.size]) ht.typeIs (PyProof.Rows.slot_tuple_getitem.lookup) ?_ (by with_unfolding_all rfl)
    refine back_tup ht (Heap.IsSliceOf.new _ .none .none vs) ps ?_ (by rw [List.size_toArray]; omega)
    refine ⟨.ref _, _, I5.laid (t' := s4.toks) (o := .tup xs.reverse) (fun b ob q => Heap.get?_push_of_some _ q) (Nat.le_refl _) ?_, rfl, q _ (I5.hok.fresh (Nat.le_refl _))⟩
    exact ⟨by rw [List.length_reverse]; exact hz, its.reverse, r.reverse, ⟨_, Heap.get?_push_size _ rfl, rfl, _, rfl⟩⟩
def kBack (k : KD) : KD := fun d S => match d with
  | .ref n => ∃ xs, isL S n xs ∧ k (.ref S.length) (S ++ [.lst xs.reverse])
  | .tup xs => k (.tup xs.reverse) S
  | _ => False
def dBack (te : TED) : TED := fun sg S k x => te sg S (kBack k) x
theorem q_back {X : Cx} {E : XK} {e : Expr} {te : TED} {k : Nat} {p1 p2 p3 pos : Pos} (he : QE X E e te) : QE X E (.Subscript e (.Slice none none (some (.UnaryOp .USub (.Constant (.int 1) k p1) p2)) p3) pos) (dBack te) :=
  pe_imp (pe_back he) fun s H Q ⟨sg, al, S, kd, xd, rs, rl, q, up, ux⟩ => ⟨sg, al, S, kBack kd, xd, rs, rl, q, fun d S1 al1 H1 v f1 r1 q1 => by
    unfold kBack at q1
    split at q1
    · obtain ⟨xs, hl, q1⟩ := q1
      obtain ⟨a, vs, e2, _, h1, rv⟩ := isL_at f1.rs hl r1
      exact ⟨a, vs, e2, .inl ⟨h1, fun p hp => up_new (up.mono f1) f1.rs hp (rds_rev rv) q1⟩⟩
    · obtain ⟨a, vs, e2, h1, rv⟩ := r1
      exact ⟨a, vs, e2, .inr ⟨h1, fun p hp => up_tup (up.mono f1) f1.rs hp (rds_rev rv) q1⟩⟩
    · exact q1.elim, ux⟩
end Q
namespace Q
open PySem
open Spec PyProof.Rows L2
open Sem (wp)
open AutoSeq1 (wpAny_loadPart')

/-! ### enumerate of a tuple -/
theorem mk_enumT (t : Addr) (xs : Array Value) (n : Nat) (dct : Option Addr) (sl : Array (Option Value)) :
    Meets (Builtin.«enumerate.__new__» ⟨[.type "enumerate", .ref t], []⟩) (fun _ R s => s.heap.get? t = some { cls := .type "tuple", dict := dct, data := .seq xs n, slots := sl } ∧
      R (.ok (.ret (.ref (s.heap.push { cls := .type "tuple_iterator", data := .fields #[.ref t, .int 0 0] }).objs.size)))
        { s with heap := (s.heap.push { cls := .type "tuple_iterator", data := .fields #[.ref t, .int 0 0] }).push { cls := .type "enumerate", data := .fields #[.none, .bool false, .ref s.heap.objs.size, rawInt 0, .none, .none] } }) :=
  .of_wp fun prog w A R s hyp => by
    obtain ⟨hq, g, d, tk, os⟩ := s
    obtain ⟨ht, hyp⟩ := hyp
    have hs := sub_enumerate
    have hT : Heap.IsTuple (Shared.heap ⟨hq, g, d, tk, os⟩) t xs := ⟨_, ht, rfl, n, rfl⟩
    wp_walk using wpAny_loadPart' ht
    refine wpAny_stack_any fun _ => wpAny_pure ?_
    split
    · rename_i c _ _ _ _ _
      cases (c == Value.type "enumerate")
      · wp_walk using wpAny_loadPart' ht, wpAny_pyIter_tuple hT
        exact ⟨_, rfl, hyp⟩
      · wp_walk using wpAny_loadPart' ht, wpAny_pyIter_tuple hT
        exact ⟨_, rfl, hyp⟩
    · wp_walk using wpAny_loadPart' ht, wpAny_pyIter_tuple hT
      exact ⟨_, rfl, hyp⟩
section
variable {prog : Program} {w : World} {A : Around} {E : Value → Shared → Prop} {s : Shared}
theorem call_enumT {t : Addr} {xs : Array Value} {Q : Value → Shared → Prop} (hT : s.heap.IsTuple t xs)
    (h : ∀ g, IsEnum g (s.heap.objs.size + 1) s.heap.objs.size 0 .none → g.IsTupleIter s.heap.objs.size t 0 → (∀ b o, s.heap.get? b = some o → g.get? b = some o) → Q (.ref (s.heap.objs.size + 1)) { s with heap := g }) :
    wpAny (model prog w) A (call (.type "enumerate") [.ref t]) Q E s := by
  obtain ⟨⟨c, dct, dt, sl⟩, ht, hc, n, hd⟩ := hT
  have hc' : c = .type "tuple" := hc
  have hd' : dt = .seq xs n := hd
  subst hc' hd'
  refine callType_new F.called_enumerate (by decide) (F.typeCall_enumerate_1 _) (F.newCall_enumerate_1 _) (fun o => F.args_object_init_2 o _) F.entry_enumerate_new (mk_enumT t xs n dct sl) ⟨ht, ?_⟩
  generalize hg : s.heap.push { cls := .type "tuple_iterator", data := .fields #[.ref t, .int 0 0] } = g1
  have z1 : g1.objs.size = s.heap.objs.size + 1 := by rw [← hg]; exact Heap.size_push ..
  have i1 : g1.get? s.heap.objs.size = some { cls := .type "tuple_iterator", data := .fields #[.ref t, .int 0 0] } := by rw [← hg]; exact Heap.get?_push_size _ rfl
  have k1 : ∀ b o, s.heap.get? b = some o → g1.get? b = some o := fun b o q => by rw [← hg]; exact Heap.get?_push_of_some _ q
  show _ ∧ _
  have en : IsEnum (g1.push { cls := .type "enumerate", data := .fields #[.none, .bool false, .ref s.heap.objs.size, rawInt 0, .none, .none] }) g1.objs.size s.heap.objs.size 0 .none := Heap.get?_push_size _ rfl
  rw [z1] at en ⊢
  exact ⟨⟨_, en, rfl⟩, h _ en ⟨_, Heap.get?_push_of_some _ i1, rfl, rfl⟩ fun b o q => Heap.get?_push_of_some _ (k1 b o q)⟩
theorem enumT_next {e it t : Addr} {i : Nat} {xs : Array Value} {x old : Value} {Q : Value → Shared → Prop} (he : IsEnum s.heap e it i old) (hi : s.heap.IsTupleIter it t i) (ht : s.heap.IsTuple t xs) (hx : xs[i]? = some x) (hne : e ≠ it)
    (hQ : ∀ g, IsEnumOut g e it ((i : Int) + 1) x s.heap.objs.size → g.IsTupleIter it t (i + 1) → g.get? s.heap.objs.size = some { cls := .type "tuple", data := .seq #[.int i s.toks, x] } →
      (∀ b o, b ≠ e → b ≠ it → s.heap.get? b = some o → g.get? b = some o) → Q (.ref s.heap.objs.size) { s with heap := g, toks := s.toks + 1 }) :
    wpAny (model prog w) A (Builtin.«enumerate.__next__» ⟨[.ref e], []⟩) (fun fin s' => ∃ v, fin = .done (.ret v) ∧ Q v s') E s := by
  obtain ⟨hq, gl, dd, tk, os⟩ := s
  show wpAny _ _ (field (.ref e) 2 >>= _) _ _ _
  refine wpAny_bind (wpAny_field he rfl (x := .ref it) rfl (wpAny_bind (RZ.nextOf_tuple_item hi ht hx fun g1 hi1 sb1 => ?_)))
  have sb1 : Heap.SameBut it hq g1 := sb1
  have e1 : IsEnum g1 e it i old := (sb1.2 e hne).trans he
  refine wpAny_bind (s := ⟨g1, gl, dd, tk, os⟩) (wpAny_field e1 rfl (x := rawInt i) rfl (wpAny_bind (s := ⟨g1, gl, dd, tk, os⟩) (wpAny_field e1 rfl (x := .none) rfl ?_)))
  show wpAny _ _ (mkInt i >>= _) _ _ ⟨g1, gl, dd, tk, os⟩
  refine wpAny_bind (wpAny_mkInt ?_)
  refine wpAny_bind (s := ⟨g1, gl, dd, tk + 1, os⟩) (wpAny_setField_rec e1 (by simp) fun g2 e2 sb2 => ?_)
  have sb2 : Heap.SameBut e g1 g2 := sb2
  have e2 : IsEnum g2 e it ((i : Int) + 1) old := e2
  refine wpAny_bind (s := ⟨g2, gl, dd, tk + 1, os⟩) (wpAny_setField_rec e2 (by simp) fun g3 e3 sb3 => ?_)
  have sb3 : Heap.SameBut e g2 g3 := sb3
  have e3 : IsEnum g3 e it ((i : Int) + 1) old := e3
  refine wpAny_bind (s := ⟨g3, gl, dd, tk + 1, os⟩) (wpAny_newTuple ?_)
  have z3 : g3.objs.size = hq.objs.size := by rw [sb3.1, sb2.1, sb1.1]
  generalize hg : g3.push { cls := .type "tuple", data := .seq #[.int i tk, x] } = g4
  have e4 : IsEnum g4 e it ((i : Int) + 1) old := by rw [← hg]; exact Heap.get?_push_of_some _ e3
  have t4 : g4.get? hq.objs.size = some { cls := .type "tuple", data := .seq #[.int i tk, x] } := by rw [← hg, ← z3]; exact Heap.get?_push_size _ rfl
  have i4 : g4.IsTupleIter it t (i + 1) := by
    rw [← hg]
    obtain ⟨o, q, r⟩ := (hi1.extBut sb2.extBut (Ne.symm hne)).extBut sb3.extBut (Ne.symm hne)
    exact ⟨o, Heap.get?_push_of_some _ q, r⟩
  have k4 : ∀ b o, b ≠ e → b ≠ it → hq.get? b = some o → g4.get? b = some o := fun b o n1 n2 q => by
    rw [← hg]
    exact Heap.get?_push_of_some _ (sb3.extBut b o n1 (sb2.extBut b o n1 (sb1.extBut b o n2 q)))
  have hlt : e < hq.objs.size := Heap.lt_size he
  have hgt : hq.objs.size ≠ e := Nat.ne_of_gt hlt
  show wpAny _ _ (Builtin.SmallTypes.ownedTupleIsFree (.ref e) >>= _) _ _ ⟨g4, gl, dd, tk + 1, os⟩
  rw [z3]
  refine wpAny_bind ?_
  unfold Builtin.SmallTypes.ownedTupleIsFree
  refine wpAny_bind (wpAny_field e4 rfl (x := .none) rfl (wpAny_pure ?_))
  simp only [if_true]
  refine wpAny_bind (wpAny_rule (wpAny_bind (wpAny_field e4 rfl (x := old) rfl (wpAny_bind (wpAny_setField_rec e4 (by simp) fun g5 e5 sb5 => ?_)))))
  have sb5 : Heap.SameBut e g4 g5 := sb5
  have e5 : IsEnum g5 e it ((i : Int) + 1) x := e5
  refine wpAny_bind (s := ⟨g5, gl, dd, tk + 1, os⟩) ?_
  unfold Builtin.SmallTypes.ownedTupleHandOut
  refine wpAny_bind (s := ⟨g5, gl, dd, tk + 1, os⟩) (wpAny_setField_rec e5 (by simp) fun g6 e6 sb6 => ?_)
  have sb6 : Heap.SameBut e g5 g6 := sb6
  have e6 : IsEnumOut g6 e it ((i : Int) + 1) x hq.objs.size := e6
  refine wpAny_setField_rec (s := ⟨g6, gl, dd, tk + 1, os⟩) e6 (by simp) fun g7 e7 sb7 => ?_
  have sb7 : Heap.SameBut e g6 g7 := sb7
  have e7 : IsEnumOut g7 e it ((i : Int) + 1) x hq.objs.size := e7
  refine wpAny_bind (s := ⟨g7, gl, dd, tk + 1, os⟩) (wpAny_letGo (wpAny_pure ⟨_, rfl, hQ g7 e7 ?_ ?_ ?_⟩))
  · exact ((i4.extBut sb5.extBut (Ne.symm hne)).extBut sb6.extBut (Ne.symm hne)).extBut sb7.extBut (Ne.symm hne)
  · exact sb7.extBut _ _ hgt (sb6.extBut _ _ hgt (sb5.extBut _ _ hgt t4))
  · exact fun b o n1 n2 q => sb7.extBut b o n1 (sb6.extBut b o n1 (sb5.extBut b o n1 (k4 b o n1 n2 q)))
theorem enumT_item {e it t : Addr} {i : Nat} {xs : Array Value} {x old : Value} {Q : Option Value → Shared → Prop} (he : IsEnum s.heap e it i old) (hi : s.heap.IsTupleIter it t i) (ht : s.heap.IsTuple t xs) (hx : xs[i]? = some x) (hne : e ≠ it)
    (hQ : ∀ g, IsEnumOut g e it ((i : Int) + 1) x s.heap.objs.size → g.IsTupleIter it t (i + 1) → g.get? s.heap.objs.size = some { cls := .type "tuple", data := .seq #[.int i s.toks, x] } →
      (∀ b o, b ≠ e → b ≠ it → s.heap.get? b = some o → g.get? b = some o) → Q (some (.ref s.heap.objs.size)) { s with heap := g, toks := s.toks + 1 }) : wpAny (model prog w) A (pyNext (.ref e)) Q E s := by
  have ty : s.TypeIs (.ref e) "enumerate" := ⟨_, he, rfl⟩
  unfold pyNext
  refine wpAny_bind (wpAny_attempt (wpAny_callSpecial?_slot (name := Str.ofString "__next__") ty F.slot_enumerate_next (wpAny_call_entry F.slot_enumerate_next ty F.entry_enumerate_next ?_ (F.args_enumerate_next_1 _))))
  exact enumT_next he hi ht hx hne fun g a b c d => wpAny_pure (hQ g a b c d)
theorem enumT_end {e it t : Addr} {i : Nat} {xs : Array Value} {old : Value} {Q : Option Value → Shared → Prop} (hh : A.handled = none) (he : IsEnum s.heap e it i old) (hi : s.heap.IsTupleIter it t i) (ht : s.heap.IsTuple t xs) (hx : xs[i]? = none)
    (hQ : ∀ g, Heap.ExtBut it s.heap g → Q none { s with heap := g }) : wpAny (model prog w) A (pyNext (.ref e)) Q E s := by
  have ty : s.TypeIs (.ref e) "enumerate" := ⟨_, he, rfl⟩
  unfold pyNext
  refine wpAny_bind (wpAny_attempt (wpAny_callSpecial?_slot (name := Str.ofString "__next__") ty F.slot_enumerate_next (wpAny_call_entry F.slot_enumerate_next ty F.entry_enumerate_next ?_ (F.args_enumerate_next_1 _))))
  show wpAny _ _ (field (.ref e) 2 >>= _) _ _ _
  refine wpAny_bind (wpAny_field he rfl (x := .ref it) rfl (wpAny_bind (RZ.nextOf_tuple_end hh hi ht hx fun g y xb ⟨o, ho, hc⟩ => ?_)))
  exact wpAny_bind (wpAny_isInstance (T := "StopIteration") (b := true) ⟨o, ho, hc⟩ isSubtype_stop (wpAny_pure (hQ _ xb)))
end
/-- the tuple at a, each item in a new pair -/
def IteT (K : PySem.W.Frag) (a : Addr) : It :=
  ⟨fun i H => ∃ (xs : List V) (x : V), SqT K H a xs ∧ xs[i]? = some x, fun i H v H' => ∃ T x, v = .ref T ∧ H T = none ∧ H' = upd H T (.tup [.int (i : Nat), x]) ∧ ∀ xs, SqT K H a xs → xs[i]? = some x, fun i H => ∃ xs : List V, SqT K H a xs ∧ xs.length ≤ i⟩
theorem turn_enumT {P : Program} {w : World} {K : PySem.W.Frag} {elts : List Expr} {kk : Nat} {tpos : Pos} (a e it : Addr) :
    Turn P w K (.Tuple elts kk tpos) (IteT K a) [e, it] e (fun i h => (∃ old, IsEnum h e it ((i : Nat) : Int) old) ∧ h.IsTupleIter it a i ∧ e ≠ it) where
  mem := by simp
  obj := fun i h st b hb => by
    obtain ⟨⟨old, he⟩, ⟨o, ho, hc, hd⟩, _⟩ := st
    rcases (show b = e ∨ b = it by simpa using hb) with q | q
    · exact q ▸ ⟨_, he, fun v q => nomatch q⟩
    · exact q ▸ ⟨o, ho, fun v z => by rw [hd] at z; cases z⟩
  keep := fun i g g' st kp => by
    obtain ⟨⟨old, he⟩, hi, hne⟩ := st
    exact ⟨⟨old, kp e (by simp) _ he⟩, hi.at fun o q => kp it (by simp) o q, hne⟩
  item := by
    intro X hP hw hK hc i pins s σ H E I hf st hg
    subst hP hw hK
    obtain ⟨⟨old, he⟩, hi, hne⟩ := st
    obtain ⟨xs, x, hq, hx⟩ := hg
    obtain ⟨us, rv, p, _⟩ := I.tuple hq
    obtain ⟨u, hu, ru⟩ := rv.get hx
    have le : e < s.heap.objs.size := Heap.lt_size he
    have li : it < s.heap.objs.size := by
      obtain ⟨_, q, _⟩ := hi
      exact Heap.lt_size q
    refine enumT_item he hi (show s.heap.IsTuple a us.toArray from p) (x := u) (by simpa using hu) hne fun g eo gi gT kp => ?_
    refine ⟨_, rfl, wpAny_letOwnedTupleGo_enum (s := { s with heap := g, toks := s.toks + 1 }) eo fun g2 e2 sb => ?_⟩
    have T2 : g2.get? s.heap.objs.size = some { cls := .type "tuple", data := .seq #[.int i s.toks, u] } := (sb.2 _ (Nat.ne_of_gt le)).trans gT
    have ok : ObjOk X.prog X.w (upd H s.heap.objs.size (.tup [.int (i : Nat), x])) g2 s.heap.objs.size (.tup [.int (i : Nat), x]) := ⟨by show 2 ≤ sizeLine; decide, [.int i s.toks, u], .cons ⟨_, rfl⟩ (.cons ru .nil), ⟨_, T2, rfl, _, rfl⟩⟩
    have I2 : Inv X pins σ (upd H s.heap.objs.size (.tup [.int (i : Nat), x])) { s with heap := g2, toks := s.toks + 1 } :=
      I.turnedNew (ch := [e, it]) (fun b o nb q => (sb.2 b fun z => nb (by simp [z])).trans (kp b o (fun z => nb (by simp [z])) (fun z => nb (by simp [z])) q)) hf (Nat.le_refl _) ok
    refine ⟨.ref s.heap.objs.size, _, I2, rfl, ⟨_, x, rfl, I.hok.fresh (Nat.le_refl _), rfl, fun ys hy => by rw [I.tuple_inj hy hq]; exact hx⟩, ⟨⟨u, ?_⟩, gi.at fun o q => (sb.2 it (Ne.symm hne)).trans q, hne⟩, fun b hb => ?_⟩
    · rw [show ((i + 1 : Nat) : Int) = (i : Int) + 1 by omega]
      exact e2
    · have lb : b < s.heap.objs.size := by
        rcases (show b = e ∨ b = it by simpa using hb) with q | q
        · exact q ▸ le
        · exact q ▸ li
      rw [upd_ne (Nat.ne_of_lt lb)]
      exact (hf b hb).1
  done := by
    intro X hP hw hK hc i pins s σ H E I hf st hg
    subst hP hw hK
    obtain ⟨⟨old, he⟩, hi, hne⟩ := st
    obtain ⟨xs, hq, hx⟩ := hg
    obtain ⟨us, rv, p, _⟩ := I.tuple hq
    obtain ⟨f0, f1, f2, f3, f4, f5⟩ := hf it (by simp)
    have hl := rv.length
    exact enumT_end (I.ok.hd hc) he hi (show s.heap.IsTuple a us.toArray from p) (by simp; omega) fun g xb => ⟨rfl, I.turned (t' := s.toks) (fun b o nb q => xb b o nb q) f0 f1 f3 f4 f5⟩
  self := fun A i s Q E st h => by
    obtain ⟨⟨_, he⟩, _⟩ := st
    exact wpAny_pyIter_enum he h
def iEnumV (K : PySem.W.Frag) (ta : TA) : TI := fun σ H R => ta σ H fun vs H1 => ∃ a xs, vs = [.ref a] ∧ ((SqL K H1 a xs ∧ R (Ite K a) H1) ∨ (SqT K H1 a xs ∧ R (IteT K a) H1))
theorem pi_enumV {X : Cx} {e : Expr} {ta : TA} {p pos tpos : Pos} {elts : List Expr} {kk : Nat} (hg : Gl X "enumerate") (hm : X.mg "enumerate" = none) (ha : PA X [e] ta) (hs : starEach [e] X.env = [(false, eval e X.env)] := by rfl) :
    PI X (.Tuple elts kk tpos) (.Call (.Name "enumerate" p) [e] [] pos) (iEnumV X.K ta) := by
  refine ⟨fun pins s σ H R I h => ?_⟩
  refine Call_ (ld_blt I hg hm boot_enumerate (PyProof.Rows.callWith_type1 (thn (ha.run pos pins s σ H _ I h) fun us s1 ⟨vs, H1, I1, r1, a, xs, ex, q⟩ => ?_) hs rfl))
  subst ex
  obtain ⟨u, eu, ru⟩ := vals1 r1
  subst eu
  cases (show u = .ref a from ru)
  have fr : ∀ b, b ∈ [s1.heap.objs.size + 1, s1.heap.objs.size] → FpOk X pins H1 b := fun b hb => by
    have hle : s1.heap.objs.size ≤ b := by
      rcases (show b = s1.heap.objs.size + 1 ∨ b = s1.heap.objs.size by simpa using hb) with q | q <;> omega
    exact I1.fpOk hle (I1.hok.fresh hle)
  rcases q with ⟨hq, q⟩ | ⟨hq, q⟩
  · obtain ⟨us, rv, p', _⟩ := I1.list hq
    exact call_enumerate_list p'.isList fun g he hi _ kp => wpAny_pyIter_enum he ⟨s1.heap.objs.size + 1, [_, _], _, _, H1, rfl, I1.kept (t' := s1.toks) kp, turn_enum a (s1.heap.objs.size + 1) s1.heap.objs.size, ⟨⟨.none, he⟩, hi, Nat.succ_ne_self _⟩, fr, q⟩
  · obtain ⟨us, rv, p', _⟩ := I1.tuple hq
    exact call_enumT (show s1.heap.IsTuple a us.toArray from p') fun g he hi kp => wpAny_pyIter_enum he ⟨s1.heap.objs.size + 1, [_, _], _, _, H1, rfl, I1.kept (t' := s1.toks) kp, turn_enumT a (s1.heap.objs.size + 1) s1.heap.objs.size, ⟨⟨.none, he⟩, hi, Nat.succ_ne_self _⟩, fr, q⟩
/-- a reading's items with their places -/
def enumD (ds : List D) : List D := (List.range ds.length).zipWith (fun (i : Nat) d => D.tup [.int (i : Int), d]) ds
theorem enumD_get {ds : List D} {i : Nat} {d : D} (h : (enumD ds)[i]? = some d) : ∃ y, ds[i]? = some y ∧ d = .tup [.int (i : Int), y] := by
  unfold enumD at h
  rw [List.getElem?_zipWith] at h
  cases hy : ds[i]? with
  | none =>
    rw [hy] at h
    cases hr : (List.range ds.length)[i]? <;> (rw [hr] at h; cases h)
  | some y =>
    have hi := (List.getElem?_eq_some_iff.mp hy).1
    rw [hy, List.getElem?_range hi] at h
    exact ⟨y, rfl, (Option.some.inj h).symm⟩
theorem enumD_len (ds : List D) : (enumD ds).length = ds.length := by
  unfold enumD
  rw [List.length_zipWith, List.length_range, Nat.min_self]
theorem pair_rd {K : PySem.W.Frag} {H' : Hp} {al' : List Addr} {i : Nat} {y : D} {v : V} {T : Addr} {S' : Sto} (rs : RS K H' al' S') (hT : H' T = none) (rv : RD K H' al' y v) :
    Fut K H' al' (upd H' T (.tup [.int (i : Nat), v])) al' S' ∧ RD K (upd H' T (.tup [.int (i : Nat), v])) al' (.tup [.int (i : Int), y]) (.ref T) := by
  have f := Fut.lay (o := .tup [.int (i : Nat), v]) rs hT
  exact ⟨f, T, [.int (i : Nat), v], rfl, .inl (.of upd_same), _, _, rfl, rfl, RDs.one (f.rd rv)⟩
theorem it_enumT {K : PySem.W.Frag} {H : Hp} {al : List Addr} {a : Addr} {ds : List D} {vs : List V} (h : SqT K H a vs) (r : RDs K H al ds vs) : ItOK K (IteT K a) ⟨enumD ds, fun _ => True⟩ H al where
  go := fun i H' al' S' f _ hi => by
    have hi : i < (enumD ds).length := hi
    rw [enumD_len] at hi
    have hl : i < vs.length := by rw [RDs.length r]; exact hi
    exact ⟨vs, vs[i], sqt_keep f.keep h, List.getElem?_eq_getElem hl⟩
  yld := fun i d H' al' S' x H'' f _ hd hy => by
    obtain ⟨T, y, e1, hT, e2, hy⟩ := hy
    obtain ⟨y0, hy0, rfl⟩ := enumD_get hd
    subst e1 e2
    obtain ⟨v, hv, rv⟩ := RDs.get (f.rds r) hy0
    have q := hy vs (sqt_keep f.keep h)
    rw [hv] at q
    cases q
    exact pair_rd f.rs hT rv
  stop := fun H' al' S' f _ => ⟨vs, sqt_keep f.keep h, by show vs.length ≤ (enumD ds).length; rw [enumD_len, RDs.length r]; exact Nat.le_refl _⟩
theorem it_enumL {K : PySem.W.Frag} {H : Hp} {al : List Addr} {a : Addr} {n : Nat} {ds : List D} (ha : al[n]? = some a) : ItOK K (Ite K a) ⟨enumD ds, fun S => isL S n ds⟩ H al where
  go := fun i H' al' S' f g hi => by
    have hi : i < (enumD ds).length := hi
    rw [enumD_len] at hi
    obtain ⟨vs, h1, r1⟩ := isL_sq f.rs g (getExt f ha)
    have hl : i < vs.length := by rw [RDs.length r1]; exact hi
    exact ⟨vs, vs[i], h1, List.getElem?_eq_getElem hl⟩
  yld := fun i d H' al' S' x H'' f g hd hy => by
    obtain ⟨T, y, e1, hT, e2, hy⟩ := hy
    obtain ⟨y0, hy0, rfl⟩ := enumD_get hd
    subst e1 e2
    obtain ⟨vs, h1, r1⟩ := isL_sq f.rs g (getExt f ha)
    obtain ⟨v, hv, rv⟩ := RDs.get r1 hy0
    have q := hy vs h1
    rw [hv] at q
    cases q
    exact pair_rd f.rs hT rv
  stop := fun H' al' S' f g => by
    obtain ⟨vs, h1, r1⟩ := isL_sq f.rs g (getExt f ha)
    exact ⟨vs, h1, by show vs.length ≤ (enumD ds).length; rw [enumD_len, RDs.length r1]; exact Nat.le_refl _⟩
def kEn (k : ItD → Sto → Prop) : List D → Sto → Prop := fun ds S => match ds with
  | [.tup ds] => k ⟨enumD ds, fun _ => True⟩ S
  | [.ref n] => ∃ ds, isL S n ds ∧ k ⟨enumD ds, fun S => isL S n ds⟩ S
  | _ => False
def iEn (ta : TAD) : TID := fun sg S k x => ta sg S (kEn k) x
theorem q_enum {X : Cx} {E : XK} {e : Expr} {ta : TAD} {p pos tpos : Pos} {elts : List Expr} {kk : Nat} (hg : Gl X "enumerate") (hm : X.mg "enumerate" = none) (ha : QA X E [e] ta) (hs : starEach [e] X.env = [(false, eval e X.env)] := by rfl) :
    QI X E (.Tuple elts kk tpos) (.Call (.Name "enumerate" p) [e] [] pos) (iEn ta) :=
  pi_imp (pi_enumV hg hm ha hs) fun s H R ⟨sg, al, S, kd, xd, rs, rl, q, up, ux⟩ => ⟨sg, al, S, kEn kd, xd, rs, rl, q, fun ds S1 al1 H1 vs f1 r1 q1 => by
    unfold kEn at q1
    split at q1
    · obtain ⟨v, e, a, us, e2, h1, rv⟩ := rds1 r1
      subst e e2
      exact ⟨a, us, rfl, .inr ⟨h1, up _ S1 al1 H1 _ f1 (it_enumT h1 rv) q1⟩⟩
    · obtain ⟨ds, hl, q1⟩ := q1
      obtain ⟨v, e, rv⟩ := rds1 r1
      subst e
      obtain ⟨a, us, e2, ha2, h1, r2⟩ := isL_at f1.rs hl rv
      subst e2
      exact ⟨a, us, rfl, .inl ⟨h1, up _ S1 al1 H1 _ f1 (it_enumL ha2) q1⟩⟩
    · exact q1.elim, ux⟩
end Q
namespace Q
open PySem
open Spec PyProof.Rows L2

/-! ### [.. for x in .. for y in ..] -/
def wLc2 (grd : Sto → Prop) (g : TGD) (tt : TTD) (ti1 : TID) (g1 : TGD) (tt1 : TTD) (te : TED) (vs1 : List Nat) (sg : Sl) (n0 : Nat) (k : Sto → Prop) : List D → Sto → Prop
  | [], S => grd S ∧ k S
  | d :: r, S => grd S ∧ g d sg S (fun sg1 S1 => tt sg1 S1 (fun b S2 => (b = true → ti1 sg1 S2 (fun it1 S3 => wLc it1.grd g1 tt1 te (wipeD sg1 vs1) n0 (wLc2 grd g tt ti1 g1 tt1 te vs1 sg n0 k r) it1.items S3) XF) ∧ (b = false → wLc2 grd g tt ti1 g1 tt1 te vs1 sg n0 k r S2)) XF) XF
def kLc2 (g : TGD) (tt : TTD) (ti1 : TID) (g1 : TGD) (tt1 : TTD) (te : TED) (vs1 : List Nat) (sg : Sl) (k : KD) : ItD → Sto → Prop := fun it S => wLc2 it.grd g tt ti1 g1 tt1 te vs1 sg S.length (fun S' => k (.ref S.length) S') it.items (S ++ [.lst []])
def dLc2 (ti : TID) (g : TGD) (tt : TTD) (ti1 : TID) (g1 : TGD) (tt1 : TTD) (te : TED) (vs vs1 : List Nat) : TED := fun sg S k x => ti sg S (kLc2 g tt ti1 g1 tt1 te vs1 (wipeD sg vs) k) x
theorem lc2_red {K : PySem.W.Frag} {mg : Str → Option Value} {ti ti1 : TID} {g g1 : TGD} {tt tt1 : TTD} {te : TED} {vs vs1 : List Nat} {tV tV1 : TG} {s : L2.St} {H : Hp} {Q : VK} {E : XK}
    (hl : ∀ v s H Q, LG ⟨K, mg, E0⟩ g v s H Q → tV v s H Q) (hw : WipeOK vs tV) (hl1 : ∀ v s H Q, LG ⟨K, mg, E0⟩ g1 v s H Q → tV1 v s H Q) (hw1 : WipeOK vs1 tV1) (h : LE ⟨K, mg, E⟩ (dLc2 ti g tt ti1 g1 tt1 te vs vs1) s H Q) :
    tLc2 (LI ⟨K, mg, E⟩ ti) tV (LT ⟨K, mg, E0⟩ tt) (LI ⟨K, mg, E0⟩ ti1) tV1 (LT ⟨K, mg, E0⟩ tt1) (LE ⟨K, mg, E0⟩ te) vs vs1 s H Q := by
  obtain ⟨sg, al, S, kd, xd, rs, rl, q, up, ux⟩ := h
  refine ⟨sg, al, S, kLc2 g tt ti1 g1 tt1 te vs1 (wipeD sg vs) kd, xd, rs, rl, q, fun it S1 al1 H1 J f1 iok q1 => ?_, ux⟩
  intro D hD
  generalize hk : (fun S' => kd (.ref S1.length) S') = ke
  have q1 : wLc2 it.grd g tt ti1 g1 tt1 te vs1 (wipeD sg vs) S1.length ke it.items (S1 ++ [.lst []]) := by subst hk; exact q1
  have fN : Fut K H1 al1 (upd H1 D (.lst [])) (al1 ++ [D]) (S1 ++ [.lst []]) := new_lst f1.rs hD rfl
  have aN : (al1 ++ [D])[S1.length]? = some D := by rw [← f1.rs.len]; simp
  generalize upd H1 D (.lst []) = H0 at fN ⊢
  generalize al1 ++ [D] = al0 at fN aN
  generalize S1 ++ [O.lst []] = S0 at fN q1
  refine ⟨fun i m H' => ∃ al' S', Fut K H0 al0 H' al' S' ∧ wLc2 it.grd g tt ti1 g1 tt1 te vs1 (wipeD sg vs) S1.length ke (it.items.drop i) S' ∧ m = it.items.length - i ∧ i ≤ it.items.length, ⟨it.items.length, _, _, .now fN.rs, q1, by simp, Nat.zero_le _⟩, ?_⟩
  rintro i m H2 ⟨al2, S2, f2, w2, rfl, hi⟩
  by_cases hlt : i < it.items.length
  · rw [List.drop_eq_getElem_cons hlt] at w2
    obtain ⟨gr, w2⟩ := w2
    refine .inr ⟨iok.go i H2 al2 S2 (fN.trans f2) gr hlt, fun H' => ∃ m', m' < it.items.length - i ∧ ∃ al' S', Fut K H0 al0 H' al' S' ∧ wLc2 it.grd g tt ti1 g1 tt1 te vs1 (wipeD sg vs) S1.length ke (it.items.drop (i + 1)) S' ∧ m' = it.items.length - (i + 1) ∧ i + 1 ≤ it.items.length, fun H' h => h, fun x H' hy => ?_⟩
    obtain ⟨f3, r3⟩ := iok.yld i _ H2 al2 S2 x H' (fN.trans f2) gr (List.getElem?_eq_getElem hlt) hy
    have fA := (f1.trans fN).trans (f2.trans f3)
    refine hw _ _ _ _ _ (fun s2 H2 e q => ⟨e.trans (wipe_wipe _ _), q⟩) (hl _ _ _ _ ⟨_, wipeD sg vs, al2, S2, _, XF, f3.rs, rsl_wipe (fA.rsl rl) vs, r3, w2, fun sg4 S4 al4 H4 sv4 f4 rl4 q4 => ?_, ux0⟩)
    refine ⟨sg4, al4, S4, _, XF, f4.rs, rl4, q4, fun b S5 al5 H5 f5 q5 => ite_of ⟨fun e => ?_, fun e => ?_⟩, ux0⟩
    · refine ⟨sg4, al5, S5, _, XF, f5.rs, f5.rsl rl4, q5.1 e, fun it1 S6 al6 H6 J1 f6 iok1 q6 => ?_, ux0⟩
      have fB := ((f2.trans f3).trans f4).trans (f5.trans f6)
      generalize hkn : wLc2 it.grd g tt ti1 g1 tt1 te vs1 (wipeD sg vs) S1.length ke (it.items.drop (i + 1)) = kn at q6 ⊢
      refine ⟨fun j m H' => ∃ al' S', Fut K H6 al6 H' al' S' ∧ wLc it1.grd g1 tt1 te (wipeD sg4 vs1) S1.length kn (it1.items.drop j) S' ∧ m = it1.items.length - j ∧ j ≤ it1.items.length, ⟨it1.items.length, _, _, .now f6.rs, q6, by simp, Nat.zero_le _⟩, ?_⟩
      rintro j m H7 ⟨al7, S7, f7, w7, rfl, hj⟩
      by_cases hlj : j < it1.items.length
      · rw [List.drop_eq_getElem_cons hlj] at w7
        obtain ⟨gr7, w7⟩ := w7
        refine .inr ⟨iok1.go j H7 al7 S7 f7 gr7 hlj, fun H' => ∃ m', m' < it1.items.length - j ∧ ∃ al' S', Fut K H6 al6 H' al' S' ∧ wLc it1.grd g1 tt1 te (wipeD sg4 vs1) S1.length kn (it1.items.drop (j + 1)) S' ∧ m' = it1.items.length - (j + 1) ∧ j + 1 ≤ it1.items.length, fun H' h => h, fun x1 H' hy1 => ?_⟩
        obtain ⟨f8, r8⟩ := iok1.yld j _ H7 al7 S7 x1 H' f7 gr7 (List.getElem?_eq_getElem hlj) hy1
        refine hw1 _ _ _ _ _ (fun s2 H2 e q => ⟨e.trans (wipe_wipe _ _), q⟩) (hl1 _ _ _ _ ⟨_, wipeD sg4 vs1, al7, S7, _, XF, f8.rs, rsl_wipe (((f5.trans f6).trans (f7.trans f8)).rsl rl4) vs1, r8, w7, fun sg9 S9 al9 H9 sv9 f9 rl9 q9 => ?_, ux0⟩)
        refine ⟨sg9, al9, S9, _, XF, f9.rs, rl9, q9, fun b2 Sa ala Ha fa qa => ite_of ⟨fun e => ?_, fun e => ?_⟩, ux0⟩
        · refine ⟨sg9, ala, Sa, _, XF, fa.rs, fa.rsl rl9, qa.1 e, fun y Sb alb Hb vb fb rb qb => ?_, ux0⟩
          obtain ⟨acc, ha, hz, qb⟩ := qb
          have fC := ((f7.trans f8).trans f9).trans (fa.trans fb)
          have ab := getExt (fB.trans fC) aN
          obtain ⟨us, eb, ru⟩ := fb.rs.ob _ _ _ ha ab
          exact ⟨us, eb, by rw [RDs.length ru]; exact hz, it1.items.length - (j + 1), by omega, alb, _, fC.trans (set_lst fb.rs ha ab (RDs.append ru (RDs.one rb))), qb, rfl, hlj⟩
        · exact ⟨it1.items.length - (j + 1), by omega, ala, Sa, ((f7.trans f8).trans f9).trans fa, qa.2 e, rfl, hlj⟩
      · have e : j = it1.items.length := by omega
        subst e
        rw [List.drop_length] at w7
        obtain ⟨gr7, w7⟩ := w7
        exact .inl ⟨iok1.stop H7 al7 S7 f7 gr7, it.items.length - (i + 1), by omega, al7, S7, fB.trans f7, w7, rfl, hlt⟩
    · exact ⟨it.items.length - (i + 1), by omega, al5, S5, ((f2.trans f3).trans f4).trans f5, q5.2 e, rfl, hlt⟩
  · have e : i = it.items.length := by omega
    subst e
    rw [List.drop_length] at w2
    obtain ⟨gr, w2⟩ := w2
    subst hk
    exact .inl ⟨iok.stop H2 al2 S2 (fN.trans f2) gr, up (.ref S1.length) S2 al2 H2 (.ref D) ((f1.trans fN).trans f2) ⟨D, rfl, getExt f2 aN⟩ w2⟩
section
variable {X : Cx} {E : XK} {tg tg1 : Expr} {g g1 : TGD} {tV tV1 : TG} {is is1 : List Nat} {te : TED} {pos : Pos}
theorem q_lc2 {elt iter iter1 : Expr} {ifs ifs1 : List Expr} {scope : Scope} {own : List (Str × Nat)} {vs1 : List Nat} {ti ti1 : TID} {tt tt1 : TTD} (hc : X.calm = true) (hN : X.N.Nodup) (hi : QI X E tg iter ti) (ok : BlkOk X.N X.env.scope scope own)
    (hg : ∀ (s : Shared) (H : Hp) (C : Addr) (cl : List (Str × Addr)) (fp : List Addr), QG (X.blk s H scope (compEnvC scope cl C X.env) fp) E0 tg g tV is) (ht : ∀ (s : Shared) (H : Hp) (C : Addr) (cl : List (Str × Addr)) (fp : List Addr), QTs (X.blk s H scope (compEnvC scope cl C X.env) fp) E0 ifs tt)
    (hi1 : ∀ (s : Shared) (H : Hp) (C : Addr) (cl : List (Str × Addr)) (fp : List Addr), QI (X.blk s H scope (compEnvC scope cl C X.env) fp) E0 tg1 iter1 ti1)
    (hg1 : ∀ (s : Shared) (H : Hp) (C : Addr) (cl : List (Str × Addr)) (fp : List Addr), QG (X.blk s H scope (compEnvC scope cl C X.env) fp) E0 tg1 g1 tV1 is1) (ht1 : ∀ (s : Shared) (H : Hp) (C : Addr) (cl : List (Str × Addr)) (fp : List Addr), QTs (X.blk s H scope (compEnvC scope cl C X.env) fp) E0 ifs1 tt1)
    (he : ∀ (s : Shared) (H : Hp) (C : Addr) (cl : List (Str × Addr)) (fp : List Addr), QE (X.blk s H scope (compEnvC scope cl C X.env) fp) E0 elt te) (his : is.all (own.map (·.2)).contains = true := by rfl) (his1 : is1.all vs1.contains = true := by rfl) (hvs : vs1.all (own.map (·.2)).contains = true := by rfl)
    (hs : ∀ x, foldedSetIterable iter X.env x = pure x := by intro _; rfl) (hs1 : ∀ env x, foldedSetIterable iter1 env x = pure x := by intro _ _; rfl) :
    QE X E (.ListComp elt [⟨tg, iter, ifs, 0⟩, ⟨tg1, iter1, ifs1, 0⟩] scope pos) (dLc2 ti g tt ti1 g1 tt1 te (own.map (·.2)) vs1) := by
  have mem : ∀ {l m : List Nat}, l.all m.contains = true → ∀ i ∈ l, i ∈ m := fun {l m} h i hi => by
    have q := List.all_eq_true.mp h i hi
    simpa using q
  refine pe_imp (pe_lc2 (vs1 := vs1) (te := LE ⟨X.K, X.mg, E0⟩ te) (tt := LT ⟨X.K, X.mg, E0⟩ tt) (tt1 := LT ⟨X.K, X.mg, E0⟩ tt1) (wi1 := LI ⟨X.K, X.mg, E0⟩ ti1) hc hN hi ok (mem hvs) (fun s H C cl fp => (hg s H C cl fp).1) ht hi1 (fun s H C cl fp => (hg1 s H C cl fp).1) ht1 he hs hs1) fun s H Q q => ?_
  have h0 := hg X.s_0 H 0 [] []
  have h1 := hg1 X.s_0 H 0 [] []
  exact lc2_red (mg := X.mg) h0.2.1 (h0.2.2 _ (mem his)) h1.2.1 (h1.2.2 _ (mem his1)) q
theorem q_gtpB {s : Shared} {H : Hp} {scope : Scope} {env : Env} {fp : List Addr} {es : List Expr} {gs : TGDs} {is : List Nat} {tVs : TGs} {k n : Nat} (hc : X.calm = true) (h : QGs (X.blk s H scope env fp) E es gs tVs is) (hn : (assignEach es (X.blk s H scope env fp).env).length = n := by rfl)
    (hst : (assignEach es (X.blk s H scope env fp).env).findIdx? (·.1) = none := by rfl) : QG (X.blk s H scope env fp) E (.Tuple es k pos) (gTp n gs) (gTup X.K n tVs) is := q_gtp (X := X.blk s H scope env fp) hc h hn hst
end
/-- a comprehension with a test and any target, reckoned purely; st: the slots behind the target -/
theorem lc_filterG {it : ItD} {g : TGD} {tt : TTD} {te : TED} {sg : Sl} {k : KD} {S : Sto} (st : D → Sl) (p : D → Bool) (f : D → D)
    (hs : ∀ d ∈ it.items, ∀ (T : Sto) (K : Sl → Sto → Prop), K (st d) T → g d sg T K XF)
    (ht : ∀ d ∈ it.items, ∀ (acc : List D) (kk : Bool → Sto → Prop), kk (p d) (S ++ [.lst acc]) → tt (st d) (S ++ [.lst acc]) kk XF)
    (he : ∀ d ∈ it.items, p d = true → ∀ (acc : List D) (kk : KD), kk (f d) (S ++ [.lst acc]) → te (st d) (S ++ [.lst acc]) kk XF) (hg : ∀ acc, it.grd (S ++ [.lst acc])) (hl : it.items.length ≤ sizeLine)
    (hk : k (.ref S.length) (S ++ [.lst ((it.items.filter p).map f)])) : kLc g tt te sg k it S := by
  have go : ∀ (rest acc : List D), (∀ d ∈ rest, d ∈ it.items) → acc.length + rest.length ≤ sizeLine → k (.ref S.length) (S ++ [.lst (acc ++ (rest.filter p).map f)]) →
      wLc it.grd g tt te sg S.length (fun S' => k (.ref S.length) S') rest (S ++ [.lst acc]) := by
    intro rest
    induction rest with
    | nil => exact fun acc _ _ h => ⟨hg acc, by simpa using h⟩
    | cons d r ih =>
      intro acc hm hz h
      rw [List.length_cons] at hz
      have hd := hm d List.mem_cons_self
      have hr := fun y hy => hm y (List.mem_cons_of_mem _ hy)
      refine ⟨hg acc, hs d hd _ _ (ht d hd acc _ ⟨fun e => he d hd e acc _ ⟨acc, get_at0, by omega, ?_⟩, fun e => ih acc hr (by omega) ?_⟩)⟩
      · rw [set_at0]
        refine ih _ hr (by rw [List.length_append, List.length_singleton]; omega) ?_
        rw [List.filter_cons_of_pos e, List.map_cons] at h
        rwa [List.append_assoc]
      · rwa [List.filter_cons_of_neg (by rw [e]; decide)] at h
  exact go it.items [] (fun _ h => h) (by simpa using hl) hk
/-- [y for x in .. for y in ..] -/
theorem lc2_flat {it : ItD} {i j : Nat} {ti : TID} {sg : Sl} {k : KD} {S : Sto} (f : D → List D) (hj : j < sg.length)
    (hin : ∀ d ∈ it.items, ∀ (acc : List D) (K : ItD → Sto → Prop), (∀ grd : Sto → Prop, (∀ acc, grd (S ++ [.lst acc])) → K ⟨f d, grd⟩ (S ++ [.lst acc])) → ti (sg.set i (some d)) (S ++ [.lst acc]) K XF)
    (hg : ∀ acc, it.grd (S ++ [.lst acc])) (hl : (it.items.flatMap f).length ≤ sizeLine) (hk : k (.ref S.length) (S ++ [.lst (it.items.flatMap f)])) : kLc2 (gNm i) dYes ti (gNm j) dYes (dVar j) [j] sg k it S := by
  have inner : ∀ (sg2 : Sl) (grd : Sto → Prop) (ke : Sto → Prop), j < sg2.length → (∀ acc, grd (S ++ [.lst acc])) → ∀ (rest acc : List D), acc.length + rest.length ≤ sizeLine → ke (S ++ [.lst (acc ++ rest)]) → wLc grd (gNm j) dYes (dVar j) sg2 S.length ke rest (S ++ [.lst acc]) := by
    intro sg2 grd ke h2 hg2 rest
    induction rest with
    | nil => exact fun acc _ h => ⟨hg2 acc, by simpa using h⟩
    | cons d r ih =>
      intro acc hz h
      rw [List.length_cons] at hz
      refine ⟨hg2 acc, fun _ => ?_, fun z => nomatch z⟩
      simp only [dVar, List.getElem?_set_self h2]
      refine ⟨acc, get_at0, by omega, ?_⟩
      rw [set_at0]
      refine ih _ (by rw [List.length_append, List.length_singleton]; omega) ?_
      rwa [List.append_assoc]
  have go : ∀ (rest acc : List D), (∀ d ∈ rest, d ∈ it.items) → acc.length + (rest.flatMap f).length ≤ sizeLine → k (.ref S.length) (S ++ [.lst (acc ++ rest.flatMap f)]) →
      wLc2 it.grd (gNm i) dYes ti (gNm j) dYes (dVar j) [j] sg S.length (fun S' => k (.ref S.length) S') rest (S ++ [.lst acc]) := by
    intro rest
    induction rest with
    | nil => exact fun acc _ _ h => ⟨hg acc, by simpa using h⟩
    | cons d r ih =>
      intro acc hm hz h
      rw [List.flatMap_cons, List.length_append] at hz
      rw [List.flatMap_cons] at h
      refine ⟨hg acc, fun _ => hin d (hm d List.mem_cons_self) acc _ fun grd hgr => ?_, fun z => nomatch z⟩
      refine inner _ grd _ (by show j < ((sg.set i (some d)).set j none).length; simpa using hj) hgr (f d) acc (by omega) ?_
      exact ih _ (fun y hy => hm y (List.mem_cons_of_mem _ hy)) (by rw [List.length_append]; omega) (by rwa [List.append_assoc])
  exact go it.items [] (fun _ h => h) (by simpa using hl) hk
end Q
namespace Q
open PySem
open Spec PyProof.Rows L2
open Sem (wp)

/-! ### sorted(set(xs)) of a list of ints -/
abbrev nset (w : World) : Obj := { cls := .type "set", dict := none, data := .set #[] 0 (.fresh 0 0 (!w.params.followText "set-order")) }
abbrev lit (l : Addr) : Obj := { cls := .type "list_iterator", data := .fields #[.ref l, .int 0 0] }
section
variable {P : Program} {w : World} {A : Around} {E : Value → Shared → Prop} {s : Shared}
theorem set_of_list {l : Addr} {xs : Array Value} (ns : List Int) {Q : Value → Shared → Prop} (hh : A.handled = none) (hL : s.heap.IsList l xs) (hI : IntsAre xs.toList ns) (room : ns.length + 1 < scanBound)
    (hQ : ∀ (g : Heap) (tk c : Nat), SetR w g s.heap.objs.size (fun j => decide (j ∈ ns)) c → c ≤ ns.length → (∀ b o, s.heap.get? b = some o → g.get? b = some o) → Q (.ref s.heap.objs.size) { s with heap := g, toks := tk }) :
    wpAny (model P w) A (call (.type "set") [.ref l]) Q E s := by
  have size : xs.size = ns.length := by
    have := IntsAre.length hI
    rwa [Array.length_toList] at this
  obtain ⟨c, tl, hmro⟩ := F.called_set.mro
  have f1 := F.called_set.made
  have f2 := F.called_set.sub
  have f3 := F.called_set.notType
  have f4 := F.called_set.canCreate
  have f5 := F.typeCall_set_1 (.ref l)
  refine wpAny_call (codeAny_of_tree ?_)
  show wpAny _ _ (callAny (.type "set") _) _ _ _
  refine wpAny_pure ⟨Code.quiet_builtin _ (by decide +kernel), codeAny_builtin F.entry_type_call ?_⟩
  rw [Around.under_plain (weight_type_call_type "set" [.ref l] []) rfl]
  repeat (any_goals (first | assumption | wp_step))
  refine codeAny_mono (code_set_led1 (.ref l) (E := E) (Q₁ := fun o s1 => o = .ref s.heap.objs.size ∧ s1 = { s with heap := s.heap.push (nset w) }) ⟨rfl, rfl⟩) fun r s1 hr => ?_
  match r, hr with
  | .error e, hr => exact hr
  | .ok .next, hr => exact hr.elim
  | .ok .brk, hr => exact hr.elim
  | .ok .cont, hr => exact hr.elim
  | .ok (.ret o), hr =>
    obtain ⟨rfl, rfl⟩ := hr
    have g0 : (s.heap.push (nset w)).get? s.heap.objs.size = some (nset w) := Heap.get?_push_size _ rfl
    have ty : Shared.TypeIs { s with heap := s.heap.push (nset w) } (.ref s.heap.objs.size) "set" := ⟨_, g0, rfl⟩
    have f6 := F.called_set.init.lookup
    have f7 := F.called_set.init.bind (.ref s.heap.objs.size)
    repeat (any_goals (first | assumption | wp_step))
    refine codeAny_mono (codeAny_call_builtin (R := wants (fun r s2 => r = .none ∧ ∃ g tk c, s2 = { s with heap := g, toks := tk } ∧ SetR w g s.heap.objs.size (fun j => decide (j ∈ ns)) c ∧ c ≤ ns.length ∧ (∀ b o, s.heap.get? b = some o → g.get? b = some o)) E) F.called_set.init.plain F.entry_set_init (check_set_init_1 ty ?_)) fun r2 s2 h2 => ?_
    · obtain ⟨ol, hol, hcl, nl, hdl⟩ := hL
      obtain ⟨oc, od, oda, osl⟩ := ol
      have hcl : oc = .type "list" := hcl
      have hdl : oda = .seq xs nl := hdl
      subst hcl hdl
      have kol : (s.heap.push (nset w)).get? l = some { cls := .type "list", dict := od, data := .seq xs nl, slots := osl } := Heap.get?_push_of_some _ hol
      have f8 := F.sub_list_set
      have f9 := F.sub_list_frozenset
      have f10 : (Value.type "list" == Value.type "dict") = false := by decide
      have hL1 : (s.heap.push (nset w)).IsList l xs := ⟨_, kol, rfl, nl, rfl⟩
      unfold Builtin.«set.__init__» noKeywords Builtin.Frozenset.updateFrom
      generalize hPI : pyIter = PI
      wp_walk
      subst hPI
      refine wpAny_pyIter_list hL1 ?_
      refine wpAny_bind (wpAny_runValue ?_)
      have lt : l < s.heap.objs.size := Heap.lt_size hol
      have h3 : A.in1.in1.in1.handled = none := by simp [hh]
      have z1 : (s.heap.push (nset w)).objs.size = s.heap.objs.size + 1 := Heap.size_push ..
      have n1 : l ≠ (s.heap.push (nset w)).objs.size := by rw [z1]; exact Nat.ne_of_lt (Nat.lt_succ_of_lt lt)
      have n2 : s.heap.objs.size ∉ [(s.heap.push (nset w)).objs.size, l] := by
        rw [z1]
        simp only [List.mem_cons, List.not_mem_nil, or_false, not_or]
        exact ⟨Nat.ne_of_lt (Nat.lt_succ_self _), Nat.ne_of_gt lt⟩
      have val : ∀ (i : Nat) (v : Value), xs[i]? = some v → ∃ k t, ns[i]? = some k ∧ v = .int k t := fun i v hv => by
        have hi : i < ns.length := by rw [← size]; exact (Array.getElem?_eq_some_iff.mp hv).1
        obtain ⟨t, e⟩ := PyProof.Rows.IntsAre.int_at hI i v (by rw [Array.getElem?_toList]; exact hv)
        rw [List.getD_eq_getElem?_getD, List.getElem?_eq_getElem hi] at e
        exact ⟨ns[i], t, List.getElem?_eq_getElem hi, e⟩
      refine set_update_ints ((Walks.list h3 _ l n1 xs).toS) s.heap.objs.size n2 ns size room val (xs.size - 0) 0 _ (by omega) (Nat.zero_le _) ⟨⟨_, Heap.get?_push_size _ rfl, rfl, rfl⟩, hL1.push _⟩ ?_ ?_
      · have g1 : ((s.heap.push (nset w)).push (lit l)).get? s.heap.objs.size = some (nset w) := Heap.get?_push_of_some _ g0
        exact ⟨0, Nat.le_refl 0, setR_new_at g1⟩
      · intro s3 c3 mv hc3 R3
        obtain ⟨g, gg, dd, tk, os⟩ := s3
        cases mv.gens
        cases mv.drawn
        cases mv.os
        rw [size] at hc3
        refine wpAny_pure (wpAny_pure ⟨rfl, g, tk, c3, rfl, R3, hc3, fun b o e => ?_⟩)
        have b0 : b < s.heap.objs.size := Heap.lt_size e
        refine mv.heap b o ?_ (Heap.get?_push_of_some _ (Heap.get?_push_of_some _ e))
        simp only [List.mem_cons, List.not_mem_nil, or_false, not_or]
        exact ⟨Nat.ne_of_lt b0, by show b ≠ (s.heap.push (nset w)).objs.size; rw [z1]; exact Nat.ne_of_lt (Nat.lt_succ_of_lt b0)⟩
    · match r2, h2 with
      | .error e, h2 => exact h2
      | .ok .next, h2 => exact h2.elim
      | .ok .brk, h2 => exact h2.elim
      | .ok .cont, h2 => exact h2.elim
      | .ok (.ret r), h2 =>
        obtain ⟨rfl, g, tk, c', rfl, R3, hc3, kp⟩ := h2
        repeat (any_goals (first | assumption | wp_step))
        exact hQ _ _ _ R3 hc3 kp
end
end Q
namespace Q
open PySem
open Spec PyProof.Rows L2

/-! ### sorted(set(xs)) -/
section
variable {X : Cx} {E : XK}
def tSrtSet (K : PySem.W.Frag) (ta : TE) : TE := fun σ H Q => ta σ H fun x H1 => ∃ (l : Addr) (ns : List Int), x = .ref l ∧ (SqL K H1 l (ns.map V.int) ∨ SqT K H1 l (ns.map V.int)) ∧ ns.length < 64 ∧
  ∀ (ms : List Int) (p : Addr), ms.Pairwise (· < ·) → (∀ i, i ∈ ms ↔ i ∈ ns) → H1 p = none → Q (.ref p) (upd H1 p (.lst (ms.map V.int)))
theorem pe_srtSet {a : Expr} {ta : TE} {p p2 q pos : Pos} (hc : X.calm = true) (hg : Gl X "sorted") (hm : X.mg "sorted" = none) (hg2 : Gl X "set") (hm2 : X.mg "set" = none) (ha : PE X a ta)
    (na : starEach [a] X.env = (false, eval a X.env) :: starEach [] X.env := by rfl) : PE X (.Call (.Name "sorted" p) [.Call (.Name "set" p2) [a] [] q] [] pos) (tSrtSet X.K ta) := by
  refine ⟨fun pins s σ H Q I h => Call_ (ld_blt I hg hm boot_sorted (PyProof.Rows.callWith_builtin1 (PyProof.Rows.args_cons (Call_ (ld_blt I hg2 hm2 boot_set ?_)) rfl) rfl rfl))⟩
  refine PyProof.Rows.callWith_type1 (PyProof.Rows.args_cons (thn (ha.run pins s σ H _ I h) fun v s1 ⟨x, H1, I1, r1, l, ns, ex, hq, h64, q1⟩ => PyProof.Rows.args_nil ?_) na) na rfl
  subst ex
  cases r1
  have hh := I1.ok.hd hc
  have fin : ∀ (g : Heap) (tk c : Nat), SetR X.w g s1.heap.objs.size (fun j => decide (j ∈ ns)) c → c ≤ ns.length → (∀ b o, s1.heap.get? b = some o → g.get? b = some o) →
      wpAny (model X.prog X.w) X.A (spliced (backTo pos (starEach [] X.env))) (fun vs s₂ => wpAny (model X.prog X.w) X.A (call (.builtin "sorted") (Value.ref s1.heap.objs.size :: vs)) (EP X pins σ Q) X.xe s₂) X.xe { s1 with heap := g, toks := tk } := fun g tk c R hcn kp => by
    refine PyProof.Rows.args_nil ?_
    have I2 : Inv X pins σ H1 { s1 with heap := g, toks := tk } := I1.kept fun b o e => kp b o e
    refine sorted_set R hh (Nat.lt_of_le_of_lt hcn h64) fun s2 a2 out c2 ms k g2 o2 hp hg3 hi hs hm3 hl => ?_
    have hlen : (ms.map V.int).length ≤ sizeLine := by rw [List.length_map, hl, sizeLine_eq]; omega
    have hn : H1 a2 = none := I2.hok.fresh hp
    have J : Inv X pins σ (upd H1 a2 (.lst (ms.map V.int))) { (⟨g, s1.gens, s1.drawn, tk, s1.os⟩ : Shared) with heap := s2.heap, gens := s2.gens, drawn := s2.drawn, toks := s2.toks } :=
      I2.call (ch := []) (Un.laid k hp hn) (I2.hok.laid k hp ⟨hlen, out.toList, c2, vals_of_ints hi, hg3⟩) (by rw [g2]; exact I2.bare) (fun _ z => nomatch z)
    have e : s2 = { s1 with heap := s2.heap, gens := s2.gens, drawn := s2.drawn, toks := s2.toks } := by
      cases s2
      cases s1
      cases o2
      rfl
    rw [e]
    exact ⟨.ref a2, _, J, rfl, q1 ms a2 hs (fun i => (hm3 i).trans (decide_eq_true_iff)) hn⟩
  rcases hq with hq | hq
  · obtain ⟨us, rv, pl, _⟩ := I1.list hq
    exact set_of_list ns hh pl.isList (by simpa using ints_of_vals rv) (by unfold scanBound; omega) fin
  · obtain ⟨us, rv, pl, _⟩ := I1.tuple hq
    exact call_set_tupI ns hh (show s1.heap.IsTuple l us.toArray from pl) (by simpa using ints_of_vals rv) (by unfold scanBound; omega) fin
def kSrtSet (k : KD) : KD := fun d S => match d with
  | .ref n => ∃ ns : List Int, isL S n (ns.map D.int) ∧ ns.length < 64 ∧ ∀ ms : List Int, ms.Pairwise (· < ·) → (∀ i, i ∈ ms ↔ i ∈ ns) → k (.ref S.length) (S ++ [.lst (ms.map D.int)])
  | .tup ds => ∃ ns : List Int, ds = ns.map D.int ∧ ns.length < 64 ∧ ∀ ms : List Int, ms.Pairwise (· < ·) → (∀ i, i ∈ ms ↔ i ∈ ns) → k (.ref S.length) (S ++ [.lst (ms.map D.int)])
  | _ => False
def dSrtSet (te : TED) : TED := fun sg S k x => te sg S (kSrtSet k) x
theorem q_srtSet {a : Expr} {te : TED} {p p2 q pos : Pos} (hc : X.calm = true) (hm : X.mg "sorted" = none) (hm2 : X.mg "set" = none) (ha : QE X E a te) (hg : Gl X "sorted" := by rfl) (hg2 : Gl X "set" := by rfl)
    (na : starEach [a] X.env = (false, eval a X.env) :: starEach [] X.env := by rfl) : QE X E (.Call (.Name "sorted" p) [.Call (.Name "set" p2) [a] [] q] [] pos) (dSrtSet te) :=
  pe_imp (pe_srtSet hc hg hm hg2 hm2 ha na) fun s H Q ⟨sg, al, S, kd, xd, rs, rl, q, up, ux⟩ => ⟨sg, al, S, kSrtSet kd, xd, rs, rl, q, fun d S1 al1 H1 v f1 r1 q1 => by
    unfold kSrtSet at q1
    split at q1
    · obtain ⟨ns, hl, h64, q1⟩ := q1
      obtain ⟨l, us, e2, _, h1, rv⟩ := isL_at f1.rs hl r1
      rw [rd_ints rv] at h1
      exact ⟨l, ns, e2, .inl h1, h64, fun ms p h2 h3 hp => up_new (up.mono f1) f1.rs hp (ints_rd ms) (q1 ms h2 h3)⟩
    · obtain ⟨ns, e, h64, q1⟩ := q1
      subst e
      obtain ⟨l, us, e2, h1, rv⟩ := r1
      rw [rd_ints rv] at h1
      exact ⟨l, ns, e2, .inr h1, h64, fun ms p h2 h3 hp => up_new (up.mono f1) f1.rs hp (ints_rd ms) (q1 ms h2 h3)⟩
    · exact q1.elim, ux⟩
/-! ### str(i) -/
def strI (i : Int) : Str := toString i
def spStr : SpD := fun ds S k _ => match ds with
  | [.int i] => i.natAbs.log2 < 1920 ∧ k (.str (strI i)) S
  | _ => False
theorem c_str : CallR X (.type "str") (LLs (cy X E) spStr) := by
  intro pins s σ H xs us Q I r ⟨ds, al, S, kd, xd, rs, rd, q, up, ux⟩
  unfold spStr at q
  split at q
  · obtain ⟨v, e, rv⟩ := rds1 rd
    cases (show v = _ from rv)
    subst e
    rename_i i
    exact call_str_int pins s σ H _ us Q I r ⟨i, rfl, q.1, up_at up rs (d := .str (strI i)) rfl q.2⟩
  · exact q.elim
/-! ### sep.join(xs) -/
theorem rd_strs {K : PySem.W.Frag} {H : Hp} {al : List Addr} : ∀ {ys : List Str} {vs : List V}, RDs K H al (ys.map D.str) vs → vs = ys.map V.str
  | [], vs, h => h
  | y :: ys, vs, ⟨v, r, e, h1, h2⟩ => by
    rw [e, show v = V.str y from h1, rd_strs h2]
    rfl
def kJoin2 (k : KD) (a : Str) : KD := fun e S => match e with
  | .ref n => ∃ ys : List Str, isL S n (ys.map D.str) ∧ (ys.map (·.length)).sum + ys.length * a.length ≤ 16777216 ∧ k (.str (Txt.join a ys)) S
  | _ => False
def kJoin1 (te : TED) (sg : Sl) (k : KD) (x : XD) : KD := fun d S => match d with
  | .str a => te sg S (kJoin2 k a) x
  | _ => False
def dJoin (to te : TED) : TED := fun sg S k x => to sg S (kJoin1 te sg k x) x
theorem q_join {o e : Expr} {to te : TED} {apos pos : Pos} (ho : QE X E o to) (he : QE X E e te) (hs : starEach [e] X.env = [(false, eval e X.env)] := by rfl) (hbase : attributeBase o "join" X.env (eval o X.env) = eval o X.env := by rfl) (hline : (apos.endLine == pos.line) = true := by rfl) :
    QE X E (.Call (.Attribute o "join" apos) [e] [] pos) (dJoin to te) :=
  pe_imp (pe_join ho he hs hbase hline) fun s H Q ⟨sg, al, S, kd, xd, rs, rl, q, up, ux⟩ => ⟨sg, al, S, kJoin1 te sg kd xd, xd, rs, rl, q, fun d S1 al1 H1 v f1 r1 q1 => by
    unfold kJoin1 at q1
    split at q1
    · rename_i a
      cases (show v = V.str a from r1)
      refine ⟨⟨a, rfl⟩, sg, al1, S1, kJoin2 kd a, xd, f1.rs, f1.rsl rl, q1, fun d2 S2 al2 H2 v2 f2 r2 q2 => ?_, ux.mono f1⟩
      unfold kJoin2 at q2
      split at q2
      · obtain ⟨ys, hl, hz, q2⟩ := q2
        obtain ⟨p, us, e2, _, h1, rv⟩ := isL_at f2.rs hl r2
        rw [rd_strs rv] at h1
        exact ⟨a, p, ys, rfl, by rw [e2], .inl h1, hz, up_at (up.mono (f1.trans f2)) f2.rs (d := .str (Txt.join a ys)) rfl q2⟩
      · exact q2.elim
    · exact q1.elim, ux⟩
end
end Q
namespace Q
open PySem
open Spec PyProof.Rows L2

/-! ### zip of two lists or two tuples -/
def zipD (xs ys : List D) : List D := xs.zipWith (fun a b => D.tup [a, b]) ys
theorem zipD_get {xs ys : List D} {i : Nat} {d : D} (h : (zipD xs ys)[i]? = some d) : ∃ a b, xs[i]? = some a ∧ ys[i]? = some b ∧ d = .tup [a, b] := by
  unfold zipD at h
  rw [List.getElem?_zipWith] at h
  cases ha : xs[i]? with
  | none => rw [ha] at h; cases h
  | some a =>
    cases hb : ys[i]? with
    | none => rw [ha, hb] at h; cases h
    | some b =>
      rw [ha, hb] at h
      exact ⟨a, b, rfl, rfl, (Option.some.inj h).symm⟩
theorem zipD_len (xs ys : List D) : (zipD xs ys).length = min xs.length ys.length := List.length_zipWith ..
theorem two_rd {K : PySem.W.Frag} {H' : Hp} {al' : List Addr} {y z : D} {v u : V} {T : Addr} {S' : Sto} (rs : RS K H' al' S') (hT : H' T = none) (rv : RD K H' al' y v) (ru : RD K H' al' z u) :
    Fut K H' al' (upd H' T (.tup [v, u])) al' S' ∧ RD K (upd H' T (.tup [v, u])) al' (.tup [y, z]) (.ref T) := by
  have f := Fut.lay (o := .tup [v, u]) rs hT
  exact ⟨f, T, [v, u], rfl, .inl (.of upd_same), _, _, rfl, f.rd rv, RDs.one (f.rd ru)⟩
theorem it_zipT {K : PySem.W.Frag} {H : Hp} {al : List Addr} {a b : Addr} {xs ys : List D} {vs us : List V} (h1 : SqT K H a vs) (r1 : RDs K H al xs vs) (h2 : SqT K H b us) (r2 : RDs K H al ys us) : ItOK K (RZ.ItzT K a b) ⟨zipD xs ys, fun _ => True⟩ H al where
  go := fun i H' al' S' f _ hi => by
    have hi : i < (zipD xs ys).length := hi
    rw [zipD_len] at hi
    have l1 : i < vs.length := by rw [RDs.length r1]; omega
    have l2 : i < us.length := by rw [RDs.length r2]; omega
    exact ⟨vs, us, vs[i], us[i], sqt_keep f.keep h1, sqt_keep f.keep h2, List.getElem?_eq_getElem l1, List.getElem?_eq_getElem l2⟩
  yld := fun i d H' al' S' x H'' f _ hd hy => by
    obtain ⟨T, y, z, e1, hT, e2, hy, hz⟩ := hy
    obtain ⟨a0, b0, ha0, hb0, rfl⟩ := zipD_get hd
    subst e1 e2
    obtain ⟨v, hv, rv⟩ := RDs.get (f.rds r1) ha0
    obtain ⟨u, hu, ru⟩ := RDs.get (f.rds r2) hb0
    have q1 := hy vs (sqt_keep f.keep h1)
    have q2 := hz us (sqt_keep f.keep h2)
    rw [hv] at q1
    rw [hu] at q2
    cases q1
    cases q2
    exact two_rd f.rs hT rv ru
  stop := fun H' al' S' f _ => ⟨vs, us, sqt_keep f.keep h1, sqt_keep f.keep h2, by
    show vs.length ≤ (zipD xs ys).length ∨ us.length ≤ (zipD xs ys).length
    rw [zipD_len, RDs.length r1, RDs.length r2]
    omega⟩
theorem it_zipL {K : PySem.W.Frag} {H : Hp} {al : List Addr} {a b : Addr} {n m : Nat} {xs ys : List D} (ha : al[n]? = some a) (hb : al[m]? = some b) : ItOK K (Itz K a b) ⟨zipD xs ys, fun S => isL S n xs ∧ isL S m ys⟩ H al where
  go := fun i H' al' S' f g hi => by
    have hi : i < (zipD xs ys).length := hi
    rw [zipD_len] at hi
    obtain ⟨vs, h1, r1⟩ := isL_sq f.rs g.1 (getExt f ha)
    obtain ⟨us, h2, r2⟩ := isL_sq f.rs g.2 (getExt f hb)
    have l1 : i < vs.length := by rw [RDs.length r1]; omega
    have l2 : i < us.length := by rw [RDs.length r2]; omega
    exact ⟨vs, us, vs[i], us[i], h1, h2, List.getElem?_eq_getElem l1, List.getElem?_eq_getElem l2⟩
  yld := fun i d H' al' S' x H'' f g hd hy => by
    obtain ⟨T, y, z, e1, hT, e2, hy, hz⟩ := hy
    obtain ⟨a0, b0, ha0, hb0, rfl⟩ := zipD_get hd
    subst e1 e2
    obtain ⟨vs, h1, r1⟩ := isL_sq f.rs g.1 (getExt f ha)
    obtain ⟨us, h2, r2⟩ := isL_sq f.rs g.2 (getExt f hb)
    obtain ⟨v, hv, rv⟩ := RDs.get r1 ha0
    obtain ⟨u, hu, ru⟩ := RDs.get r2 hb0
    have q1 := hy vs h1
    have q2 := hz us h2
    rw [hv] at q1
    rw [hu] at q2
    cases q1
    cases q2
    exact two_rd f.rs hT rv ru
  stop := fun H' al' S' f g => by
    obtain ⟨vs, h1, r1⟩ := isL_sq f.rs g.1 (getExt f ha)
    obtain ⟨us, h2, r2⟩ := isL_sq f.rs g.2 (getExt f hb)
    refine ⟨vs, us, h1, h2, ?_⟩
    show vs.length ≤ (zipD xs ys).length ∨ us.length ≤ (zipD xs ys).length
    rw [zipD_len, RDs.length r1, RDs.length r2]
    omega
def kZp (k : ItD → Sto → Prop) : List D → Sto → Prop := fun ds S => match ds with
  | [.tup xs, .tup ys] => k ⟨zipD xs ys, fun _ => True⟩ S
  | [.ref n, .ref m] => ∃ xs ys, isL S n xs ∧ isL S m ys ∧ k ⟨zipD xs ys, fun S => isL S n xs ∧ isL S m ys⟩ S
  | _ => False
def iZp (ta : TAD) : TID := fun sg S k x => ta sg S (kZp k) x
section
variable {X : Cx} {E : XK}
theorem q_zip {e e2 : Expr} {ta : TAD} {p pos tpos : Pos} {elts : List Expr} {kk : Nat} (hg : Gl X "zip") (hm : X.mg "zip" = none) (ha : QA X E [e, e2] ta)
    (hs : starEach [e, e2] X.env = (false, eval e X.env) :: starEach [e2] X.env := by rfl) (hpl : (backTo pos (starEach [e2] X.env)).any (·.1) = false := by rfl) :
    QI X E (.Tuple elts kk tpos) (.Call (.Name "zip" p) [e, e2] [] pos) (iZp ta) :=
  pi_imp (RZ.pi_zipA hg hm ha hs hpl) fun s H R ⟨sg, al, S, kd, xd, rs, rl, q, up, ux⟩ => ⟨sg, al, S, kZp kd, xd, rs, rl, q, fun ds S1 al1 H1 vs f1 r1 q1 => by
    unfold kZp at q1
    split at q1
    · obtain ⟨v, u, e, r2, r3⟩ := rds2 r1
      obtain ⟨a, vs1, e1, h1, rv1⟩ := r2
      obtain ⟨b, vs2, e2, h2, rv2⟩ := r3
      subst e e1 e2
      exact ⟨a, b, vs1, vs2, rfl, .inr ⟨h1, h2, up _ S1 al1 H1 _ f1 (it_zipT h1 rv1 h2 rv2) q1⟩⟩
    · obtain ⟨xs, ys, hl1, hl2, q1⟩ := q1
      obtain ⟨v, u, e, r2, r3⟩ := rds2 r1
      subst e
      obtain ⟨a, vs1, e1, ha1, h1, _⟩ := isL_at f1.rs hl1 r2
      obtain ⟨b, vs2, e2, hb1, h2, _⟩ := isL_at f1.rs hl2 r3
      subst e1 e2
      exact ⟨a, b, vs1, vs2, rfl, .inl ⟨h1, h2, up _ S1 al1 H1 _ f1 (it_zipL ha1 hb1) q1⟩⟩
    · exact q1.elim, ux⟩
/-! ### a op b op c -/
def kCh3 (r : R2D) (k : KD) (x : XD) (y : D) : KD := fun z S => r y z S k x
def kCh2 (r r' : R2D) (tc : TED) (sg : Sl) (k : KD) (x : XD) (d : D) : KD := fun y S => r d y S (fun z S1 => match z with
  | .bl true => tc sg S1 (kCh3 r' k x y) x
  | .bl false => k (.bl false) S1
  | _ => False) x
def kCh1 (r r' : R2D) (tb tc : TED) (sg : Sl) (k : KD) (x : XD) : KD := fun d S => tb sg S (kCh2 r r' tc sg k x d) x
def dChain (r r' : R2D) (ta tb tc : TED) : TED := fun sg S k x => ta sg S (kCh1 r r' tb tc sg k x) x
theorem chain_red {r r' : R2D} {ta tb tc : TED} {s : L2.St} {H : Hp} {Q : VK} (h : LE (cy X E) (dChain r r' ta tb tc) s H Q) : tChain (LL2 (cy X E) r) (LL2 (cy X E) r') (LE (cy X E) ta) (LE (cy X E) tb) (LE (cy X E) tc) s H Q := by
  obtain ⟨sg, al, S, kd, xd, rs, rl, q, up, ux⟩ := h
  refine ⟨sg, al, S, kCh1 r r' tb tc sg kd xd, xd, rs, rl, q, fun d1 S1 al1 H1 v1 f1 r1 q1 => ?_, ux⟩
  refine ⟨sg, al1, S1, kCh2 r r' tc sg kd xd d1, xd, f1.rs, f1.rsl rl, q1, fun d2 S2 al2 H2 v2 f2 r2 q2 => ?_, ux.mono f1⟩
  refine ⟨d1, d2, al2, S2, _, xd, f2.rs, f2.rd r1, r2, q2, fun d3 S3 al3 H3 v3 f3 r3 q3 => ?_, ux.mono (f1.trans f2)⟩
  cases d3 <;> try exact q3.elim
  case bl z =>
    cases (show v3 = V.bl z from r3)
    refine ⟨z, rfl, ?_⟩
    cases z with
    | true =>
      refine ite_of ⟨fun _ => ?_, fun z => nomatch z⟩
      refine ⟨sg, al3, S3, _, xd, f3.rs, ((f1.trans f2).trans f3).rsl rl, q3, fun d4 S4 al4 H4 v4 f4 r4 q4 => ?_, ux.mono ((f1.trans f2).trans f3)⟩
      exact ⟨d2, d4, al4, S4, kd, xd, f4.rs, (f3.trans f4).rd r2, r4, q4, up.mono (((f1.trans f2).trans f3).trans f4), ux.mono (((f1.trans f2).trans f3).trans f4)⟩
    | false =>
      refine ite_of ⟨fun z => (nomatch z), fun _ => ?_⟩
      exact up (.bl false) S3 al3 H3 (.bl false) ((f1.trans f2).trans f3) rfl q3
theorem q_chain {op op' : CmpOp} {r r' : R2D} {a b c : Expr} {ta tb tc : TED} {pos : Pos} (ho : OpR X (compareOp op) (LL2 (cy X E) r)) (ho' : OpR X (compareOp op') (LL2 (cy X E) r')) (ha : QE X E a ta) (hb : QE X E b tb) (hc : QE X E c tc)
    (hm : lastMarks [op, op'] [b, c] = false := by with_unfolding_all rfl) : QE X E (.Compare a [op, op'] [b, c] pos) (dChain r r' ta tb tc) :=
  pe_imp (pe_chain ho ho' ha hb hc hm) fun _ _ _ => chain_red
/-! ### len(set(xs)) of unlike ints -/
def tLenNew (K : PySem.W.Frag) (ta : TE) : TE := fun σ H Q => ta σ H fun x H1 => ∃ (l : Addr) (ns : List Int), x = .ref l ∧ (SqL K H1 l (ns.map V.int) ∨ SqT K H1 l (ns.map V.int)) ∧ ns.Nodup ∧ ns.length < 1000 ∧ Q (.int ns.length) H1
theorem pe_lenNew {a : Expr} {ta : TE} {p p2 q pos : Pos} (hc : X.calm = true) (hg : Gl X "len") (hm : X.mg "len" = none) (hg2 : Gl X "set") (hm2 : X.mg "set" = none) (ha : PE X a ta)
    (na : starEach [a] X.env = (false, eval a X.env) :: starEach [] X.env := by rfl) : PE X (.Call (.Name "len" p) [.Call (.Name "set" p2) [a] [] q] [] pos) (tLenNew X.K ta) := by
  refine ⟨fun pins s σ H Q I h => Call_ (ld_blt I hg hm boot_len (PyProof.Rows.callWith_builtin1 (PyProof.Rows.args_cons (Call_ (ld_blt I hg2 hm2 boot_set ?_)) rfl) rfl rfl))⟩
  refine PyProof.Rows.callWith_type1 (PyProof.Rows.args_cons (thn (ha.run pins s σ H _ I h) fun v s1 ⟨x, H1, I1, r1, l, ns, ex, hq, hnd, h1k, q1⟩ => PyProof.Rows.args_nil ?_) na) na rfl
  subst ex
  cases r1
  have hh := I1.ok.hd hc
  have fin : ∀ (g : Heap) (tk c : Nat), SetR X.w g s1.heap.objs.size (fun j => decide (j ∈ ns)) c → c ≤ ns.length → (∀ b o, s1.heap.get? b = some o → g.get? b = some o) →
      wpAny (model X.prog X.w) X.A (spliced (backTo pos (starEach [] X.env))) (fun vs s₂ => wpAny (model X.prog X.w) X.A (call (.builtin "len") (Value.ref s1.heap.objs.size :: vs)) (EP X pins σ Q) X.xe s₂) X.xe { s1 with heap := g, toks := tk } := fun g tk c R _ kp => by
    refine PyProof.Rows.args_nil ?_
    have I2 : Inv X pins σ H1 { s1 with heap := g, toks := tk } := I1.kept fun b o e => kp b o e
    obtain ⟨o, es, ep, t, ho, hex, hd, _, nd, hmem, _, hf, hn, _, _⟩ := R
    have pm : (es.toList.map keyOf).Perm ns := (List.perm_ext_iff_of_nodup nd hnd).mpr fun j => (hmem j).symm.trans decide_eq_true_iff
    have hsz : es.size = ns.length := by
      have := pm.length_eq
      rwa [List.length_map, Array.length_toList] at this
    exact call_len_set ho hex hd hf (by rw [hsz]; omega) ⟨.int ns.length, H1, I2.tok _, ⟨_, by rw [hsz]⟩, q1⟩
  rcases hq with hq | hq
  · obtain ⟨us, rv, pl, _⟩ := I1.list hq
    exact set_of_list ns hh pl.isList (by simpa using ints_of_vals rv) (by unfold scanBound; omega) fin
  · obtain ⟨us, rv, pl, _⟩ := I1.tuple hq
    exact call_set_tupI ns hh (show s1.heap.IsTuple l us.toArray from pl) (by simpa using ints_of_vals rv) (by unfold scanBound; omega) fin
def kLenNew (k : KD) : KD := fun d S => match d with
  | .ref n => ∃ ns : List Int, isL S n (ns.map D.int) ∧ ns.Nodup ∧ ns.length < 1000 ∧ k (.int ns.length) S
  | .tup ds => ∃ ns : List Int, ds = ns.map D.int ∧ ns.Nodup ∧ ns.length < 1000 ∧ k (.int ns.length) S
  | _ => False
def dLenNew (te : TED) : TED := fun sg S k x => te sg S (kLenNew k) x
theorem q_lenNew {a : Expr} {te : TED} {p p2 q pos : Pos} (hc : X.calm = true) (hm : X.mg "len" = none) (hm2 : X.mg "set" = none) (ha : QE X E a te) (hg : Gl X "len" := by rfl) (hg2 : Gl X "set" := by rfl)
    (na : starEach [a] X.env = (false, eval a X.env) :: starEach [] X.env := by rfl) : QE X E (.Call (.Name "len" p) [.Call (.Name "set" p2) [a] [] q] [] pos) (dLenNew te) :=
  pe_imp (pe_lenNew hc hg hm hg2 hm2 ha na) fun s H Q ⟨sg, al, S, kd, xd, rs, rl, q, up, ux⟩ => ⟨sg, al, S, kLenNew kd, xd, rs, rl, q, fun d S1 al1 H1 v f1 r1 q1 => by
    unfold kLenNew at q1
    split at q1
    · obtain ⟨ns, hl, hnd, hz, q1⟩ := q1
      obtain ⟨l, us, e2, _, h1, rv⟩ := isL_at f1.rs hl r1
      rw [rd_ints rv] at h1
      exact ⟨l, ns, e2, .inl h1, hnd, hz, up_at (up.mono f1) f1.rs (d := .int ns.length) rfl q1⟩
    · obtain ⟨ns, e, hnd, hz, q1⟩ := q1
      subst e
      obtain ⟨l, us, e2, h1, rv⟩ := r1
      rw [rd_ints rv] at h1
      exact ⟨l, ns, e2, .inr h1, hnd, hz, up_at (up.mono f1) f1.rs (d := .int ns.length) rfl q1⟩
    · exact q1.elim, ux⟩
end
end Q
namespace Q
open PySem
open Spec PyProof.Rows L2

/-! ### dicts: {}, d[k], d.get(k, x), d[k] = v -/
def valD (kvs : List (Key × D)) (k : Key) : Option D := (kvs.find? fun p => decide (p.1 = k)).map (·.2)
theorem rks_val {K : PySem.W.Frag} {H : Hp} {al : List Addr} {k : Key} : ∀ {ds : List (Key × D)} {vs : List (Key × V)}, RKs K H al ds vs → (∀ d, valD ds k = some d → ∃ v, valV vs k = some v ∧ RD K H al d v) ∧ (valD ds k = none → valV vs k = none)
  | [], _, h => by
    rw [show _ = [] from h]
    exact ⟨fun _ z => (by cases z), fun _ => rfl⟩
  | p :: ds, _, ⟨w, r, e, h1, h2⟩ => by
    subst e
    have ih := rks_val (k := k) h2
    unfold valD valV at ih ⊢
    by_cases q : p.1 = k
    · rw [List.find?_cons_of_pos (by simpa using q), List.find?_cons_of_pos (by simpa using q)]
      refine ⟨fun d z => ⟨w, rfl, ?_⟩, fun z => ?_⟩
      · cases z
        exact h1
      · cases z
    · rw [List.find?_cons_of_neg (by simpa using q), List.find?_cons_of_neg (by simpa using q)]
      exact ih
def dDicE : TED := fun _ S k _ => k (.ref S.length) (S ++ [.dic []])
def rDget (d y : D) (S : Sto) (k : Option D → Sto → Prop) : Prop := match d with
  | .ref n => ∃ kvs key, S[n]? = some (.dic kvs) ∧ y = keyD key ∧ k (valD kvs key) S
  | _ => False
def kDg2 (k : KD) (d : D) : KD := fun y S => rDget d y S fun o S' => ∃ v, o = some v ∧ k v S'
def kDg1 (ty : TED) (sg : Sl) (k : KD) (x : XD) : KD := fun d S => ty sg S (kDg2 k d) x
/-- d[y] of a dict -/
def dDget (td ty : TED) : TED := fun sg S k x => td sg S (kDg1 ty sg k x) x
def kDh3 (k : KD) (d y : D) : KD := fun z S => rDget d y S fun o S' => k (o.getD z) S'
def kDh2 (tx : TED) (sg : Sl) (k : KD) (x : XD) (d : D) : KD := fun y S => tx sg S (kDh3 k d y) x
def isDic (S : Sto) (d : D) : Prop := match d with
  | .ref n => ∃ kvs, S[n]? = some (.dic kvs)
  | _ => False
def kDh1 (ty tx : TED) (sg : Sl) (k : KD) (x : XD) : KD := fun d S => isDic S d ∧ ty sg S (kDh2 tx sg k x d) x
/-- d.get(y, z) -/
def dDget2 (td ty tx : TED) : TED := fun sg S k x => td sg S (kDh1 ty tx sg k x) x
def rDset : D → D → D → Sto → (Sto → Prop) → Prop := fun o i v S q => match o with
  | .ref n => ∃ kvs key, S[n]? = some (.dic kvs) ∧ i = keyD key ∧ kvs.length < sizeLine ∧ q (S.set n (.dic (putD kvs key v)))
  | _ => False
def kGd2 (o : D) (v : D) (sg : Sl) (q : Sl → Sto → Prop) : KD := fun i S => rDset o i v S (fun S' => q sg S')
def kGd1 (ti : TED) (v : D) (sg : Sl) (q : Sl → Sto → Prop) (x : XD) : KD := fun o S => ti sg S (kGd2 o v sg q) x
/-- d[i] = .. of a dict -/
def gDb (to ti : TED) : TGD := fun v sg S q x => to sg S (kGd1 ti v sg q x) x
theorem dic_at {K : PySem.W.Frag} {H : Hp} {al : List Addr} {S : Sto} {n : Nat} {ds : List (Key × D)} {v : V} (rs : RS K H al S) (h : S[n]? = some (.dic ds)) (r : RD K H al (.ref n) v) : ∃ a vs, v = .ref a ∧ al[n]? = some a ∧ H a = some (.dK vs) ∧ RKs K H al ds vs := by
  obtain ⟨a, e, ha⟩ := r
  obtain ⟨vs, e1, r1⟩ := rs.ob n _ a h ha
  exact ⟨a, vs, e, ha, e1, r1⟩
section
variable {X : Cx} {E : XK} {o i e f : Expr} {to ti te tx : TED} {pos pos' apos cpos : Pos}
theorem q_dNew : QE X E (.Dict [] [] pos) dDicE :=
  pe_imp pe_dnewK fun s H Q ⟨sg, al, S, kd, xd, rs, rl, q, up, ux⟩ => fun p hp => up (.ref S.length) _ _ _ (.ref p) (new_dic (ds := []) (vs := []) rs hp rfl) ⟨p, rfl, by rw [← rs.len]; simp⟩ q
theorem q_dget (hu : X.A.units + 64 < cLine) (ho : QE X E o to) (hi : QE X E i ti) (hs : NoSl i := by intro _ _; rfl) : QE X E (.Subscript o i pos) (dDget to ti) :=
  pe_imp (pe_dget (Nat.lt_of_le_of_lt (Nat.add_le_add_left (by decide) _) hu) ho hi hs) fun s H Q ⟨sg, al, S, kd, xd, rs, rl, q, up, ux⟩ => ⟨sg, al, S, kDg1 ti sg kd xd, xd, rs, rl, q, fun d1 S1 al1 H1 v1 f1 r1 q1 =>
    ⟨sg, al1, S1, kDg2 kd d1, xd, f1.rs, f1.rsl rl, q1, fun d2 S2 al2 H2 v2 f2 r2 q2 => by
      have qz : rDget d1 d2 S2 fun o S' => ∃ v, o = some v ∧ kd v S' := q2
      clear q2
      unfold rDget at qz
      split at qz
      · obtain ⟨kvs, key, h1, e2, v, hv, q2⟩ := qz
        subst e2
        obtain ⟨a, vs, ea, _, eH, rk⟩ := dic_at f2.rs h1 (f2.rd r1)
        obtain ⟨w, hw, rw'⟩ := (rks_val (k := key) rk).1 v hv
        rw [key_rd r2]
        exact ⟨a, w, ea, by rw [← hw]; exact DGet.k eH, up_at (up.mono (f1.trans f2)) f2.rs rw' q2⟩
      · exact qz.elim, ux.mono f1⟩, ux⟩
theorem q_dget2 (hu : X.A.units + 64 < cLine) (ho : QE X E o to) (he : QE X E e te) (hf : QE X E f tx) (m : M2 X o "get" apos e f cpos := by exact ⟨rfl, rfl, rfl, rfl⟩) : QE X E (.Call (.Attribute o "get" apos) [e, f] [] cpos) (dDget2 to te tx) :=
  pe_imp (pe_dget2 (Nat.lt_of_le_of_lt (Nat.add_le_add_left (by decide) _) hu) ho he hf m) fun s H Q ⟨sg, al, S, kd, xd, rs, rl, q, up, ux⟩ => ⟨sg, al, S, kDh1 te tx sg kd xd, xd, rs, rl, q, fun d1 S1 al1 H1 v1 f1 r1 q1 => by
    obtain ⟨hD, q1⟩ := q1
    cases d1 with
    | ref n =>
      obtain ⟨kvs0, h0⟩ := hD
      obtain ⟨a, vs0, ea, han, eH0, rk0⟩ := dic_at f1.rs h0 r1
      refine ⟨a, ea, .inl ⟨vs0, .inl eH0⟩, sg, al1, S1, kDh2 tx sg kd xd (.ref n), xd, f1.rs, f1.rsl rl, q1, fun d2 S2 al2 H2 v2 f2 r2 q2 => ?_, ux.mono f1⟩
      refine ⟨sg, al2, S2, kDh3 kd (.ref n) d2, xd, f2.rs, (f1.trans f2).rsl rl, q2, fun d3 S3 al3 H3 v3 f3 r3 q3 => ?_, ux.mono (f1.trans f2)⟩
      have qz : rDget (.ref n) d2 S3 fun o S' => kd (o.getD d3) S' := q3
      clear q3
      unfold rDget at qz
      obtain ⟨kvs, key, h1, e2, q3⟩ := qz
      subst e2
      obtain ⟨a', vs, ea', _, eH, rk⟩ := dic_at f3.rs h1 ((f2.trans f3).rd r1)
      rw [ea] at ea'
      cases ea'
      rw [key_rd r2]
      have fA := (f1.trans f2).trans f3
      refine ⟨valV vs key, DGet.k eH, ?_⟩
      have rv := rks_val (k := key) rk
      cases hv : valD kvs key with
      | none =>
        rw [hv] at q3
        rw [rv.2 hv]
        exact up_at (up.mono fA) f3.rs r3 q3
      | some v =>
        rw [hv] at q3
        obtain ⟨w, hw, rw'⟩ := rv.1 v hv
        rw [hw]
        exact up_at (up.mono fA) f3.rs rw' q3
    | _ => exact hD.elim, ux⟩
theorem q_gdb (hu : X.A.units + 64 < cLine) (ho : QE X E o to) (hi : QE X E i ti) (ha : ∀ v, assign (.Subscript o i pos) X.env v = (do
      let b ← holding [v] (eval o X.env)
      let c ← holding [v, b] (eval i X.env)
      standAt pos; holding [v, b, c] (setItem b c v); release [v, b, c] []) := by intro _; rfl) : QGp X E (.Subscript o i pos) (gDb to ti) := by
  refine pg_imp (pg_sub ho hi (set_dict (Nat.lt_of_le_of_lt (Nat.add_le_add_left (by decide) _) hu)) ha) fun v s H Q ⟨d, sg, al, S, qd, xd, rs, rl, rd, q, up, ux⟩ => ?_
  refine ⟨sg, al, S, _, xd, rs, rl, q, fun d1 S1 al1 H1 v1 f1 r1 q1 => ⟨sg, al1, S1, _, xd, f1.rs, f1.rsl rl, q1, fun d2 S2 al2 H2 v2 f2 r2 q2 => ?_, ux.mono f1⟩, ux⟩
  have qz : rDset d1 d2 d S2 (fun S' => qd sg S') := q2
  clear q2
  unfold rDset at qz
  split at qz
  · obtain ⟨kvs, key, h1, e2, hz, q2⟩ := qz
    subst e2
    obtain ⟨a, vs, e1, ha1, eH, rk⟩ := dic_at f2.rs h1 (f2.rd r1)
    have rv := (f1.trans f2).rd rd
    have f3 := set_dic f2.rs h1 ha1 (rks_put (k := key) rv rk)
    rw [key_rd r2]
    exact ⟨a, _, e1, DPut.k eH (by rw [rks_len rk]; exact hz), up sg _ al2 _ s ((f1.trans f2).trans f3) (((f1.trans f2).trans f3).rsl rl) q2⟩
  · exact qz.elim
/-! ### xs[i] op= e of a list -/
def kAs4 (M : EndsD) (sg : Sl) (n j : Nat) : KD := fun v S => ∃ xs, S[n]? = some (.lst xs) ∧ j < xs.length ∧ M.nx sg (S.set n (.lst (xs.set j v)))
def kAs3 (r : R2D) (M : EndsD) (sg : Sl) (n j : Nat) (y : D) : KD := fun z S => r y z S (kAs4 M sg n j) M.ex
def kAs2 (te : TED) (r : R2D) (M : EndsD) (sg : Sl) (d : D) : KD := fun i S => match d, i with
  | .ref n, .int k => ∃ xs j y, S[n]? = some (.lst xs) ∧ k = ((j : Nat) : Int) ∧ xs[j]? = some y ∧ te sg S (kAs3 r M sg n j y) M.ex
  | _, _ => False
def kAs1 (ti te : TED) (r : R2D) (M : EndsD) (sg : Sl) : KD := fun d S => ti sg S (kAs2 te r M sg d) M.ex
def dAugS (r : R2D) (to ti te : TED) : TSD := fun M sg S => to sg S (kAs1 ti te r M sg) M.ex
def gIxN : V → V → Hp → VK → Prop := fun o i H Q => ∃ p xs, ∃ k : Nat, ∃ v, o = .ref p ∧ i = .int (k : Int) ∧ H p = some (.lst xs) ∧ xs[k]? = some v ∧ Q v H
theorem get_ixN : PGet X gIxN := by
  intro pins s σ H x y v u Q I rx ry h
  obtain ⟨p, xs, k, z, rfl, rfl, hq, he, q⟩ := h
  cases rx
  obtain ⟨t, rfl⟩ := ry
  obtain ⟨its, r, pl, hz⟩ := I.list (.inl (.inl hq))
  obtain ⟨w, ew, rw'⟩ := r.get he
  have hk : k < its.length := (List.getElem?_eq_some_iff.mp ew).1
  have hn := line63
  have hs : its.length ≤ sizeLine := by have := r.length; omega
  exact wpAny_getItem_list pl.isList (by omega) (by omega) (by simpa using ew) ⟨z, H, I, rw', q⟩
theorem q_augS {op : Operator} {r : R2D} {tpos : Pos} (ho' : OpR X (inplaceOp op) (LL2 (cy X E) r)) (ho : QE X E o to) (hi : QE X E i ti) (he : QE X E e te)
    (ha : ∀ ov iv new, augStore i ov iv new = (do holding [new, ov, iv] (setItem ov iv new); release [new, ov, iv] []; pure .next) := by intros; rfl) : QS X E (.AugAssign (.Subscript o i tpos) op e pos) (dAugS r to ti te) := by
  have hp : PIp X op (LL2 (cy X E) r) := fun pins s σ H x y v u Q I r1 r2 h => ho' pins s σ H x y v u Q I r1 r2 h
  refine ps_imp (ps_augS ho hi get_ixN he hp set_list ha) fun De s H ⟨sg, al, S, M, rs, rl, q, ue⟩ => ?_
  refine ⟨sg, al, S, kAs1 ti te r M sg, M.ex, rs, rl, q, fun d1 S1 al1 H1 v1 f1 r1 q1 => ?_, ue.ex⟩
  refine ⟨sg, al1, S1, kAs2 te r M sg d1, M.ex, f1.rs, f1.rsl rl, q1, fun d2 S2 al2 H2 v2 f2 r2 q2 => ?_, ue.ex.mono f1⟩
  unfold kAs2 at q2
  split at q2
  · rename_i n k
    obtain ⟨xs, j, y, h1, hk, hy, q2⟩ := q2
    subst hk
    obtain ⟨a, vs, e1, ha1, eH, rv⟩ := lst_at f2.rs h1 (f2.rd r1)
    obtain ⟨w, hw, rw'⟩ := RDs.get rv hy
    cases (show v2 = _ from r2)
    have f12 := f1.trans f2
    refine ⟨a, vs, j, w, e1, rfl, eH, hw, sg, al2, S2, kAs3 r M sg n j y, M.ex, f2.rs, f12.rsl rl, q2, fun d3 S3 al3 H3 v3 f3 r3 q3 => ?_, ue.ex.mono f12⟩
    have f123 := f12.trans f3
    refine ⟨y, d3, al3, S3, kAs4 M sg n j, M.ex, f3.rs, f3.rd rw', r3, q3, fun d4 S4 al4 H4 v4 f4 r4 q4 => ?_, ue.ex.mono f123⟩
    obtain ⟨xs4, h4, hj4, q4⟩ := q4
    obtain ⟨a4, vs4, e4, ha4, eH4, rv4⟩ := lst_at f4.rs h4 (((f2.trans f3).trans f4).rd r1)
    rw [e1] at e4
    cases e4
    have f5 := set_lst f4.rs h4 ha4 (RDs.set j rv4 r4)
    have fA := (f123.trans f4).trans f5
    refine ⟨a, vs4, (j : Int), j, e1, rfl, eH4, by rw [RDs.length rv4]; unfold ixN; rw [if_pos (by omega), if_pos (by omega)]; simp, ?_⟩
    exact ue.nx sg _ al4 _ s fA (fA.rsl rl) q4
  · exact q2.elim
/-! ### xs.remove(k) of a list of ints -/
def rRem : RMD := fun d ds S k _ => match d, ds with
  | .ref n, [.int i] => ∃ ns : List Int, S[n]? = some (.lst (ns.map D.int)) ∧ i ∈ ns ∧ k .non (S.set n (.lst ((ns.erase i).map D.int)))
  | _, _ => False
theorem idx_first {i : Int} : ∀ {ns : List Int}, i ∈ ns → ∃ j : Nat, ns[j]? = some i ∧ (∀ m : Nat, m < j → ns[m]? ≠ some i) ∧ ns.erase i = ns.eraseIdx j
  | [], h => nomatch h
  | a :: ns, h => by
    by_cases e : a = i
    · subst e
      exact ⟨0, rfl, fun m hm => absurd hm (Nat.not_lt_zero _), by rw [List.erase_cons_head]; rfl⟩
    · obtain ⟨j, h1, h2, h3⟩ := idx_first (ns := ns) ((List.mem_cons.mp h).resolve_left fun z => e z.symm)
      refine ⟨j + 1, by simpa using h1, fun m hm => ?_, ?_⟩
      · cases m with
        | zero => simpa using e
        | succ m => simpa using h2 m (by omega)
      · rw [List.erase_cons_tail (by simpa using e), h3]
        rfl
theorem m_rem : MtR X "list.remove" (LLm (cy X E) rRem) := by
  intro pins s σ H x xs v us Q I rx rv ⟨d, ds, al, S, kd, xd, rs, rd, rds, q, up, ux⟩
  unfold rRem at q
  split at q
  · obtain ⟨ns, h1, hi, q⟩ := q
    obtain ⟨a, us', e1, ha, hH, r1⟩ := lst_at rs h1 rd
    obtain ⟨y, e2, ry⟩ := rds1 rds
    cases (show y = _ from ry)
    rw [rd_ints r1] at hH
    obtain ⟨j, j1, j2, j3⟩ := idx_first hi
    rw [j3] at q
    exact mt_remove pins s σ H x xs v us Q I rx rv ⟨a, ns, _, j, e1, e2, hH, j1, j2, up .non _ al _ .non (set_lst rs h1 ha (ints_rd _)) rfl q⟩
  · exact q.elim
end
end Q
namespace Q
open PySem
open Spec PyProof.Rows L2

/-! ### sorted of a tuple of ints -/
section
variable {prog : Program} {w : World} {A : Around} {E : Value → Shared → Prop} {s : Shared}
abbrev bagH (h : Heap) (vs : List Value) : Heap := (h.push (seqObj "list" #[] 0)).update h.objs.size (Obj.mapSeq (· ++ vs.toArray))
theorem collect_tup {t : Addr} {vs : List Value} {Q : List Value → Shared → Prop} (ht : IsTup s.heap t vs.toArray) (hz : vs.length ≤ sizeLine) (h : Q vs { s with heap := bagH s.heap vs }) : wpAny (model prog w) A (collect (.ref t)) Q E s := by
  obtain ⟨o, ho, hc, n, hd⟩ := (id ht : IsTup _ _ _)
  have h0 : (s.heap.push (seqObj "list" #[] 0)).get? s.heap.objs.size = some (seqObj "list" #[] 0) := Heap.get?_push_size _ rfl
  have h1 : (s.heap.push (seqObj "list" #[] 0)).get? t = some o := Heap.get?_push_of_some _ ho
  have hn : (#[] ++ vs.toArray).size ≤ sizeLine + 1 := by simp only [Array.size_append, List.size_toArray, List.length_nil]; omega
  have grow : ∀ A' : Around, wpAny (model prog w) A' (Builtin.List.listExtendWith (.ref s.heap.objs.size) (.ref t) (.ref s.heap.objs.size)) (fun f s' => f = .done (.ret (.ref s.heap.objs.size)) ∧ s' = { s with heap := bagH s.heap vs }) (fun _ _ => False) { s with heap := s.heap.push (seqObj "list" #[] 0) } := fun A' => by
    unfold Builtin.List.listExtendWith
    refine wpAny_bind (wpAny_typeOf (T := "tuple") ⟨o, h1, hc⟩ ?_)
    have hb : (Value.type "tuple" == Value.type "tuple") = true := by rfl
    rw [if_pos (by simp [hb])]
    refine wpAny_bind (listItems_at h1 hd (wpAny_bind (listItems_at (xs := #[]) (n := 0) h0 rfl ?_)))
    rw [if_neg (by simp)]
    exact wpAny_bind (listUpdate_at (xs := #[]) (n := 0) h0 rfl (wpAny_pure ⟨rfl, rfl⟩) (Nat.zero_le _) hn)
  unfold collect
  refine wpAny_bind (wpAny_runValue (codeAny_builtin entry_proto_collect' (show wpAny _ _ (do again (.builtin "list.__iadd__" ⟨[← newList [], .ref t], []⟩)) _ _ s from wpAny_bind (wpAny_newList (wpAny_pure ⟨Code.quiet_builtin _ (by decide +kernel), codeAny_builtin entry_list_iadd' (wpAny_mono (grow _) (fun f s' hf => ?_) fun _ _ x => x.elim)⟩)))))
  obtain ⟨rfl, rfl⟩ := hf
  show wpAny (model prog w) A (load s.heap.objs.size >>= fun o => match o.data with | .seq xs _ => pure xs.toList | _ => unsupported "internal:collect") Q E { s with heap := bagH s.heap vs }
  refine wpAny_bind (wpAny_load (get?_update_seq h0 _) ?_)
  have e : ((#[] : Array Value) ++ vs.toArray).toList = vs := by simp
  have fin : ∀ us : List Value, us = vs → wpAny (model prog w) A (pure us) Q E { s with heap := bagH s.heap vs } := fun us eu => by
    subst eu
    exact wpAny_pure h
  exact fin _ e
theorem sorted_tupI {t : Addr} {vs : List Value} {ns : List Int} {Q : Value → Shared → Prop} (hI : IntsAre vs ns) (ht : IsTup s.heap t vs.toArray) (hz : vs.length ≤ sizeLine)
    (h : ∀ out : List Value, IntsAre out (out.map SrtO.iv) → (out.map SrtO.iv).Perm ns → (out.map SrtO.iv).Pairwise (· ≤ ·) → Q (.ref (s.heap.objs.size + 1)) { s with heap := sortedAll s.heap vs out.toArray }) : wpAny (model prog w) A (call (.builtin "sorted") [.ref t]) Q E s := by
  refine Calls.call_function_entry kind_sorted plain_sorted entry_sorted (args_sorted1 (.ref t)) ?_
  unfold Builtin.«sorted»
  refine wpAny_bind (m := checkCount "sorted" 1 1 _) (wpAny_pure (wpAny_bind (collect_tup ht hz (wpAny_bind (wpAny_newList ?_ hz)))))
  have hs : (bagH s.heap vs).objs.size = s.heap.objs.size + 1 := by rw [Heap.size_update, size_push']
  have hL : ((bagH s.heap vs).push (seqObj "list" vs.toArray 0)).get? (s.heap.objs.size + 1) = some (seqObj "list" vs.toArray 0) := hs ▸ Heap.get?_push_size _ rfl
  show wpAny _ _ _ _ _ { s with heap := (bagH s.heap vs).push (seqObj "list" vs.toArray 0) }
  rw [hs]
  refine wpAny_bind (wpAny_holding (wpAny_call_entry slot_list_sort ⟨_, hL, rfl⟩ entry_list_sort (SrtO.list_sort_ord SrtO.swo_int hL hz (fun h2 => SrtO.ints_sortable hI h2) fun out h1 h2 => ⟨_, rfl, ?_⟩) (args_list_sort _)))
  obtain ⟨k1, k2, k3⟩ := SrtO.ints_out hI h1 h2
  exact wpAny_pure ⟨_, rfl, h out k1 k2 k3⟩
end
def spSortedT : SpD := fun ds S k _ => match ds with
  | [.tup xs] => ∃ ns : List Int, xs = ns.map D.int ∧ xs.length ≤ sizeLine ∧ ∀ ms : List Int, ms.Perm ns → ms.Pairwise (· ≤ ·) → k (.ref S.length) (S ++ [.lst (ms.map D.int)])
  | _ => False
theorem c_sortedT {X : Cx} {E : XK} : CallR X (.builtin "sorted") (LLs (cy X E) spSortedT) := by
  intro pins s σ H xs us Q I r ⟨ds, al, S, kd, xd, rs, rd, q, up, ux⟩
  unfold spSortedT at q
  split at q
  · obtain ⟨ns, e, hz, q⟩ := q
    subst e
    obtain ⟨v, e, a, vs, e2, h1, r1⟩ := rds1 rd
    subst e e2
    rw [rd_ints r1] at h1
    obtain ⟨its, rv, pl, hz2⟩ := I.tuple h1
    rw [Vals.ref1 r]
    have hi := ints_of_vals rv
    have hlen : its.length = ns.length := by
      have := rv.length
      rw [List.length_map] at this
      omega
    rw [List.length_map] at hz
    refine sorted_tupI hi pl (by omega) fun out k1 k2 k3 => ?_
    obtain ⟨eq0, hq0⟩ := PyProof.Rows.sortedAll_at s.heap its out.toArray
    refine ⟨.ref _, upd H (s.heap.objs.size + 1) (.lst ((out.map SrtO.iv).map V.int)), I.laid (t' := s.toks) (fun _ _ => PyProof.Rows.sortedAll_old) (Nat.le_succ _) ⟨by rw [List.length_map, k2.length_eq]; exact hz, out, eq0, vals_of_ints k1, hq0⟩, rfl, ?_⟩
    exact up_new up rs (I.hok.fresh (Nat.le_succ _)) (ints_rd _) (q _ k2 k3)
  · exact q.elim
end Q
namespace Q
open PySem
open Spec PyProof.Rows L2

/-! ### a tuple of targets, some of them places of lists -/
abbrev QGsp (X : Cx) (E : XK) (tg : List Expr) (t : TGDs) : Prop := PGs X tg (LGs (cy X E) t)
section
variable {X : Cx} {E : XK} {tg : Expr} {es : List Expr} {g : TGD} {gs : TGDs} {pos : Pos}
theorem pgs_imp {t t' : TGs} (h : PGs X es t) (f : ∀ v s H Q, t' v s H Q → t v s H Q) : PGs X es t' := ⟨fun pins s σ H v u Q I r q => h.run pins s σ H v u Q I r (f v σ H Q q)⟩
theorem q_gsnilP : QGsp X E [] gsNil := pgs_imp pgs_nil fun vs s H Q ⟨d, sg, al, S, qd, xd, rs, rl, rd, q, up, ux⟩ => by
  cases d with
  | nil => exact ⟨rd, up sg S al H s (.now rs) rl q⟩
  | cons _ _ => exact q.elim
theorem q_gsconsP (h1 : QGp X E tg g) (h2 : QGsp X E es gs) (hs : (assignEach (tg :: es) X.env).map (·.2) = assign tg X.env :: (assignEach es X.env).map (·.2) := by rfl) : QGsp X E (tg :: es) (gsCons g gs) :=
  pgs_imp (pgs_cons h1 h2 hs) fun vs s H Q ⟨d, sg, al, S, qd, xd, rs, rl, rd, q, up, ux⟩ => by
    cases d with
    | nil => exact q.elim
    | cons d r =>
      obtain ⟨v, u, e, r1, r2⟩ := rd
      exact ⟨v, u, e, d, sg, al, S, _, xd, rs, rl, r1, q, fun sg1 S1 al1 H1 sv1 f1 rl1 q1 => ⟨r, sg1, al1, S1, qd, xd, f1.rs, rl1, f1.rds r2, q1, up.mono f1, ux.mono f1⟩, ux⟩
theorem q_gtpP {k n : Nat} (hc : X.calm = true) (h : QGsp X E es gs) (hn : (assignEach es X.env).length = n := by rfl) (hst : (assignEach es X.env).findIdx? (·.1) = none := by rfl) : QGp X E (.Tuple es k pos) (gTp n gs) :=
  pg_imp (pg_tup hc h hn hst) fun v s H Q ⟨d, sg, al, S, qd, xd, rs, rl, rd, q, up, ux⟩ => by
    cases d <;> try exact q.elim
    case tup ds =>
      obtain ⟨a, vs, e, h1, r1⟩ := rd
      exact ⟨a, vs, e, h1, by rw [RDs.length r1]; exact q.1, ds, sg, al, S, qd, xd, rs, rl, r1, q.2, up, ux⟩
end
end Q
namespace Q
open PySem
open Spec PyProof.Rows L2

/-! ### xs[lo::st] of a list, st above 0 -/
def pickG {α : Type} (xs : List α) (lo : Option Int) (c : Int) : List α :=
  (sliceRange (sliceBounds lo none (some c) xs.length).1 (sliceBounds lo none (some c) xs.length).2.1 (sliceBounds lo none (some c) xs.length).2.2).filterMap (xs[·]?)
theorem vals_pick {xs : List V} {us : List Value} (r : Vals xs us) : ∀ ps : List Nat, Vals (ps.filterMap (xs[·]?)) (ps.filterMap (us[·]?))
  | [] => .nil
  | p :: ps => by
    cases hx : xs[p]? with
    | none =>
      have hu : us[p]? = none := by
        rw [List.getElem?_eq_none_iff] at hx ⊢
        rw [← r.length]
        exact hx
      rw [List.filterMap_cons_none hx, List.filterMap_cons_none hu]
      exact vals_pick r ps
    | some v =>
      obtain ⟨w, hw, rw'⟩ := r.get hx
      rw [List.filterMap_cons_some hx, List.filterMap_cons_some hw]
      exact .cons rw' (vals_pick r ps)
theorem rds_pick {K : PySem.W.Frag} {H : Hp} {al : List Addr} {ds : List D} {vs : List V} (r : RDs K H al ds vs) : ∀ ps : List Nat, RDs K H al (ps.filterMap (ds[·]?)) (ps.filterMap (vs[·]?))
  | [] => rfl
  | p :: ps => by
    cases hx : ds[p]? with
    | none =>
      have hu : vs[p]? = none := by
        rw [List.getElem?_eq_none_iff] at hx ⊢
        rw [RDs.length r]
        exact hx
      rw [List.filterMap_cons_none hx, List.filterMap_cons_none hu]
      exact rds_pick r ps
    | some v =>
      obtain ⟨w, hw, rw'⟩ := RDs.get r hx
      rw [List.filterMap_cons_some hx, List.filterMap_cons_some hw]
      exact ⟨w, _, rfl, rw', rds_pick r ps⟩
theorem pickG_len {α : Type} (xs : List α) (lo : Option Int) (c : Int) : (pickG xs lo c).length ≤ (sliceRange (sliceBounds lo none (some c) xs.length).1 (sliceBounds lo none (some c) xs.length).2.1 (sliceBounds lo none (some c) xs.length).2.2).length := List.length_filterMap_le ..
def tStp (K : PySem.W.Frag) (te : TE) (tl ts : TO) : TE := fun σ H Q => te σ H fun x H1 => tl σ H1 fun lo H2 => ts σ H2 fun u H3 => ∃ a xs c, x = .ref a ∧ u = some c ∧ 0 < c ∧ SqL K H3 a xs ∧ ∀ p, H3 p = none → Q (.ref p) (upd H3 p (.lst (pickG xs lo c)))
theorem pe_stp {X : Cx} {e : Expr} {te : TE} {lo : Option Expr} {tl : TO} {st : Expr} {ts : TO} {p3 pos : Pos} (he : PE X e te) (hl : PO X lo tl) (hs : PO X (some st) ts) : PE X (.Subscript e (.Slice lo none (some st) p3) pos) (tStp X.K te tl ts) := by
  refine ⟨fun pins s σ H Q I h => ?_⟩
  refine Subscript_ (thn (he.run pins s σ H _ I h) fun v s1 ⟨x, H1, I1, r1, q1⟩ => ?_)
  refine wpAny_Slice (thn (hl.run pins s1 σ H1 _ I1 q1) fun vl s2 ⟨l, H2, I2, pl, q2⟩ => ?_)
  refine thn (po_none.run pins s2 σ H2 (fun o H3 => o = none ∧ H3 = H2) I2 ⟨rfl, rfl⟩) fun vu s3 ⟨u, H3, I3, pu, eu, e3⟩ => ?_
  subst eu e3
  refine thn (hs.run pins s3 σ H3 _ I3 q2) fun vs s4 ⟨o, H4, I4, ps, a, xs, c, ex, eo, hc, hx, q⟩ => ?_
  subst eo ex
  cases r1
  have I5 : Inv X pins σ H4 { s4 with heap := s4.heap.push { cls := .type "slice", data := .fields #[vl, vu, vs] } } := I4.kept (t' := s4.toks) fun b ob q => Heap.get?_push_of_some _ q
  obtain ⟨its, r, ht, hz⟩ := I5.list hx
  have hlen := r.length
  show wpAny (model X.prog X.w) X.A (subscriptTail e (.Slice lo none (some st) p3) (.ref a) (.ref s4.heap.objs.size)) (EP X pins σ Q) X.xe { s4 with heap := s4.heap.push { cls := .type "slice", data := .fields #[vl, vu, vs] } }
  refine tail_any (ops := [.ref a, .ref s4.heap.objs.size]) ht.isList.typeIs (PySem.slot_list_getitem.lookup) ?_ (by with_unfolding_all rfl)
  refine wpAny_getItem_list_slice ht.isList (Heap.IsSliceOf.new _ vl vu vs) pl pu ps (by intro z; cases z; omega) ?_ (by rw [List.size_toArray]; omega)
  have ep : slicePick its.toArray l none (some c) = (pickG its l c).toArray := by
    unfold slicePick pickG
    rw [List.size_toArray]
    simp
  rw [ep]
  have hle : (pickG xs l c).length ≤ sizeLine := by
    have h1 := slicePick_size_le its.toArray l none (some c)
    rw [ep, List.size_toArray, List.size_toArray] at h1
    have h2 : (pickG xs l c).length = (pickG its l c).length := by
      have := (vals_pick r (sliceRange (sliceBounds l none (some c) xs.length).1 (sliceBounds l none (some c) xs.length).2.1 (sliceBounds l none (some c) xs.length).2.2)).length
      unfold pickG
      rw [this, hlen]
    omega
  have rp : Vals (pickG xs l c) (pickG its l c) := by
    have := vals_pick r (sliceRange (sliceBounds l none (some c) xs.length).1 (sliceBounds l none (some c) xs.length).2.1 (sliceBounds l none (some c) xs.length).2.2)
    unfold pickG
    rw [← hlen]
    exact this
  refine ⟨.ref _, _, I5.laid (t' := s4.toks) (o := .lst (pickG xs l c)) (fun b ob q => Heap.get?_push_of_some _ q) (Nat.le_refl _) ?_, rfl, q _ (I5.hok.fresh (Nat.le_refl _))⟩
  exact ⟨hle, _, 0, rp, Heap.get?_push_size _ rfl⟩
def kSt2 (k : KD) (d : D) (lo : Option Int) : Option Int → Sto → Prop := fun st S => match d, st with
  | .ref n, some c => 0 < c ∧ ∃ xs, isL S n xs ∧ k (.ref S.length) (S ++ [.lst (pickG xs lo c)])
  | _, _ => False
def kSt1 (ts : TOD) (sg : Sl) (k : KD) (x : XD) (d : D) : Option Int → Sto → Prop := fun lo S => ts sg S (kSt2 k d lo) x
def kSt0 (tl ts : TOD) (sg : Sl) (k : KD) (x : XD) : KD := fun d S => tl sg S (kSt1 ts sg k x d) x
def dStp (te : TED) (tl ts : TOD) : TED := fun sg S k x => te sg S (kSt0 tl ts sg k x) x
theorem q_stp {X : Cx} {E : XK} {e : Expr} {te : TED} {lo : Option Expr} {tl : TOD} {st : Expr} {ts : TOD} {p3 pos : Pos} (he : QE X E e te) (hl : QO X E lo tl) (hs : QO X E (some st) ts) : QE X E (.Subscript e (.Slice lo none (some st) p3) pos) (dStp te tl ts) :=
  pe_imp (pe_stp he hl hs) fun s H Q ⟨sg, al, S, kd, xd, rs, rl, q, up, ux⟩ => ⟨sg, al, S, kSt0 tl ts sg kd xd, xd, rs, rl, q,
    fun d1 S1 al1 H1 v1 f1 r1 q1 => ⟨sg, al1, S1, kSt1 ts sg kd xd d1, xd, f1.rs, f1.rsl rl, q1, fun l S2 al2 H2 f2 q2 =>
      ⟨sg, al2, S2, kSt2 kd d1 l, xd, f2.rs, (f1.trans f2).rsl rl, q2, fun u S3 al3 H3 f3 q3 => by
        have rd := (f2.trans f3).rd r1
        cases d1 <;> cases u <;> try exact q3.elim
        case ref.some n c =>
          obtain ⟨hc, xs, hx, q4⟩ := q3
          obtain ⟨a, vs, e1, _, h1, rr⟩ := isL_at f3.rs hx rd
          refine ⟨a, vs, c, e1, rfl, hc, h1, fun p hp => up_new (up.mono ((f1.trans f2).trans f3)) f3.rs hp ?_ q4⟩
          unfold pickG
          rw [← RDs.length rr]
          exact rds_pick rr _, ux.mono (f1.trans f2)⟩, ux.mono f1⟩, ux⟩
end Q
namespace Q
open PySem
open Spec PyProof.Rows L2

/-! ### sum of a list of truths; y in d of a dict -/
theorem preSum_bls (bs : List Bool) : ∀ n, n ≤ bs.length → preSum (fun i => if bs.getD i false then 1 else 0) n = ((bs.take n).countP id : Nat)
  | 0, _ => by simp [preSum]
  | n + 1, h => by
    have hn : n < bs.length := h
    rw [preSum, preSum_bls bs n (by omega), List.take_add_one, List.countP_append, List.getElem?_eq_getElem hn, List.getD_eq_getElem?_getD, List.getElem?_eq_getElem hn]
    cases bs[n] <;> simp
theorem cr_sumB {X : Cx} (hc : X.calm = true) : CallR X (.builtin "sum") (fun vs H Q => ∃ (a : Addr) (bs : List Bool), vs = [V.ref a] ∧ SqL X.K H a (bs.map V.bl) ∧ Q (.int (bs.countP id : Nat)) H) := by
  intro pins s σ H vs us Q I r h
  obtain ⟨a, bs, rfl, hs, q⟩ := h
  obtain ⟨its, rv, hl, _⟩ := I.list hs
  rw [Vals.ref1 r]
  have hb := rv.bls
  refine call_sum_walkAnyB (iter_any hl.isList fun s₂ e2 st hne => ?_)
  subst e2
  have hlt : a < s.heap.objs.size := by obtain ⟨_, e, _⟩ := hl.isList; exact Heap.lt_size e
  refine ⟨_, _, _, _, _, _, _, fun i => if bs.getD i false then 1 else 0, rfl, (Walks.list (A := X.A.in1) (I.ok.hd hc) _ a hne its.toArray).toS, st, fun b hbm => ?_, fun i v hv => ?_, fun s' t' hm => ?_⟩
  · show b < (s.heap.push _).objs.size
    rw [Heap.size_push]
    rcases List.mem_cons.mp hbm with rfl | hbm
    · exact Nat.lt_succ_self _
    · rcases List.mem_cons.mp hbm with rfl | hbm
      · exact Nat.lt_succ_of_lt hlt
      · cases hbm
  · have hv' : its[i]? = some v := by simpa using hv
    rw [hb, List.getElem?_map] at hv'
    obtain ⟨b, hb2, rfl⟩ := Option.map_eq_some_iff.mp hv'
    have hg : bs.getD i false = b := by rw [List.getD_eq_getElem?_getD, hb2] <;> rfl
    exact .inr ⟨b, rfl, by show (if bs.getD i false = true then (1 : Int) else 0) = _; rw [hg]⟩
  · have hsz : its.toArray.size = bs.length := by rw [List.size_toArray, hb, List.length_map]
    rw [hsz, preSum_bls bs _ (Nat.le_refl _), List.take_length]
    obtain ⟨h1, h2, h3, h4, h5⟩ := hm
    obtain ⟨hp, tk, gs, dr, os⟩ := s'
    try simp only at h1 h2 h3 h4 h5
    subst h2 h3 h4
    refine ⟨.int _, H, I.kept fun b o eo => h1 b o (fun hmem => ?_) (Heap.get?_push_of_some _ eo), ⟨_, rfl⟩, q⟩
    rcases List.mem_cons.mp hmem with e1 | hmem
    · exact absurd (e1 ▸ Heap.lt_size eo) (Nat.lt_irrefl _)
    · cases hmem
def spSumB : SpD := fun ds S k _ => match ds with
  | [.ref n] => ∃ bs : List Bool, isL S n (bs.map D.bl) ∧ k (.int (bs.countP id : Nat)) S
  | _ => False
def rDin : R2D := fun d e S k _ => match e with
  | .ref n => ∃ kvs key, S[n]? = some (.dic kvs) ∧ d = keyD key ∧ k (.bl (valD kvs key).isSome) S
  | _ => False
section
variable {X : Cx} {E : XK}
theorem c_sumB (hc : X.calm = true) : CallR X (.builtin "sum") (LLs (cy X E) spSumB) := by
  intro pins s σ H xs us Q I r ⟨ds, al, S, kd, xd, rs, rd, q, up, ux⟩
  unfold spSumB at q
  split at q
  · obtain ⟨bs, hl, q⟩ := q
    obtain ⟨v, e, rv⟩ := rds1 rd
    obtain ⟨a, vs, e2, _, h1, r1⟩ := isL_at rs hl rv
    have e3 := rd_bls r1
    subst e e2 e3
    exact cr_sumB hc pins s σ H _ us Q I r ⟨a, bs, rfl, h1, up_at up rs (d := .int _) rfl q⟩
  · exact q.elim
theorem o_dIn (hu : X.A.units + 64 < cLine) : OpR X (compareOp .In) (LL2 (cy X E) rDin) := by
  intro pins s σ H x y v u Q I rx ry ⟨d, e, al, S, kd, xd, rs, rd, re, q, up, ux⟩
  unfold rDin at q
  split at q
  · obtain ⟨kvs, key, h1, e2, q⟩ := q
    subst e2
    obtain ⟨a, vs, ea, _, eH, rk⟩ := dic_at rs h1 re
    subst ea
    rw [key_rd rd] at rx
    cases ry
    have rv := rks_val (k := key) rk
    refine d_in (o := valV vs key) (Nat.lt_of_le_of_lt (Nat.add_le_add_left (by decide) _) hu) I (DGet.k eH) rx fun s' I' => ⟨.bl (valV vs key).isSome, H, I', rfl, ?_⟩
    have e3 : (valV vs key).isSome = (valD kvs key).isSome := by
      cases hv : valD kvs key with
      | none => rw [rv.2 hv]; rfl
      | some d =>
        obtain ⟨w, hw, _⟩ := rv.1 d hv
        rw [hw]
        rfl
    rw [e3]
    exact up_at up rs (d := .bl _) rfl q
  · exact q.elim
end
end Q
namespace Q
open PySem
open Spec PyProof.Rows L2

/-! ### bit_length; y not in d; sorted and min of lists of data -/
def kBits (k : KD) : KD := fun d S => match d with
  | .int i => k (.int (Builtin.Int.intBits i : Nat)) S
  | _ => False
def dBits (te : TED) : TED := fun sg S k x => te sg S (kBits k) x
theorem q_bits {X : Cx} {E : XK} {o : Expr} {to : TED} {apos pos : Pos} (ho : QE X E o to) (hbase : attributeBase o "bit_length" X.env (eval o X.env) = eval o X.env := by rfl) (hline : (apos.endLine == pos.line) = true := by rfl) : QE X E (.Call (.Attribute o "bit_length" apos) [] [] pos) (dBits to) :=
  pe_imp (pe_bits ho hbase hline) fun s H Q ⟨sg, al, S, kd, xd, rs, rl, q, up, ux⟩ => ⟨sg, al, S, kBits kd, xd, rs, rl, q, fun d S1 al1 H1 v f1 r1 q1 => by
    unfold kBits at q1
    split at q1
    · rename_i i
      exact ⟨i, r1, up (.int _) S1 al1 H1 _ f1 rfl q1⟩
    · exact q1.elim, ux⟩
def rDnin : R2D := fun d e S k _ => match e with
  | .ref n => ∃ kvs key, S[n]? = some (.dic kvs) ∧ d = keyD key ∧ k (.bl (!(valD kvs key).isSome)) S
  | _ => False
section
variable {X : Cx} {E : XK}
theorem o_dNin (hu : X.A.units + 64 < cLine) : OpR X (compareOp .NotIn) (LL2 (cy X E) rDnin) := by
  intro pins s σ H x y v u Q I rx ry ⟨d, e, al, S, kd, xd, rs, rd, re, q, up, ux⟩
  unfold rDnin at q
  split at q
  · obtain ⟨kvs, key, h1, e2, q⟩ := q
    subst e2
    obtain ⟨a, vs, ea, _, eH, rk⟩ := dic_at rs h1 re
    subst ea
    rw [key_rd rd] at rx
    cases ry
    have rv := rks_val (k := key) rk
    refine d_notIn (o := valV vs key) (Nat.lt_of_le_of_lt (Nat.add_le_add_left (by decide) _) hu) I (DGet.k eH) rx fun s' I' => ⟨.bl (!(valV vs key).isSome), H, I', rfl, ?_⟩
    have e3 : (valV vs key).isSome = (valD kvs key).isSome := by
      cases hv : valD kvs key with
      | none => rw [rv.2 hv]; rfl
      | some d =>
        obtain ⟨w, hw, _⟩ := rv.1 d hv
        rw [hw]
        rfl
    rw [e3]
    exact up_at up rs (d := .bl _) rfl q
  · exact q.elim
theorem each_vals {xs : List V} {us : List Value} (r : Vals xs us) : ∀ {ps : List PyData}, ps.length = xs.length → PySem.W.EachIs (fun (u : Value) (b : V × PyData) => RelV b.1 u) us (xs.zip ps) := by
  induction r with
  | nil => intro ps _; exact .nil
  | cons h t ih =>
    intro ps hl
    cases ps with
    | nil => cases hl
    | cons p ps => exact .cons h (ih (by simpa using hl))
theorem each_zip {h : Heap} {xs : List V} : ∀ {us : List Value} {ps : List PyData} {as : List Addr}, ReadsAll h us ps as → xs.length = ps.length → PySem.W.EachIs (fun (u : Value) (b : V × PyData) => ∃ as, Reads h u b.2 as) us (xs.zip ps) := by
  induction xs with
  | nil =>
    intro us ps as r hl
    cases ps with
    | cons p ps => cases hl
    | nil => cases r; exact .nil
  | cons x xs ih =>
    intro us ps as r hl
    cases ps with
    | nil => cases hl
    | cons p ps =>
      cases r with
      | cons h1 h2 => exact .cons ⟨_, h1⟩ (ih h2 (by simpa using hl))
theorem vals_each {bs : List (V × PyData)} : ∀ {us : List Value}, PySem.W.EachIs (fun (u : Value) (b : V × PyData) => RelV b.1 u) us bs → Vals (bs.map (·.1)) us
  | _, .nil => .nil
  | _, .cons h t => .cons h (vals_each t)
theorem dpall_len {K : PySem.W.Frag} {H : Hp} : ∀ {xs : List V} {ps : List PyData}, DpAll K H xs ps → ps.length = xs.length
  | _, _, .nil => rfl
  | _, _, .cons _ t => by rw [List.length_cons, List.length_cons, dpall_len t]
theorem cr_sortedG (hu : X.A.units + 64 < cLine) : CallR X (.builtin "sorted") (fun vs H Q => ∃ (a : Addr) (xs : List V) (ps : List PyData), vs = [V.ref a] ∧ SqL X.K H a xs ∧ DpAll X.K H xs ps ∧ PySem.W.AllAlike ps ∧ PySem.W.Sortable ps ∧ (∀ p ∈ ps, p.depth ≤ 60) ∧
    ∀ p : Addr, H p = none → Q (.ref p) (upd H p (.lst (((xs.zip ps).mergeSort (PySem.W.dataLe false (·.2))).map (·.1))))) := by
  intro pins s σ H vs us Q I r h
  obtain ⟨a, xs, ps, rfl, hs, hp, hal, hso, hdp, q⟩ := h
  obtain ⟨its, rv, hl, hz⟩ := I.list hs
  rw [Vals.ref1 r]
  have hlen := dpall_len hp
  obtain ⟨as, hr⟩ := Dp.readsAll I ps xs its hp rv
  have hmap : (xs.zip ps).map (·.2) = ps := List.map_snd_zip (by omega)
  have hbl : (xs.zip ps).length = xs.length := by rw [List.length_zip, hlen, Nat.min_self]
  refine PySem.W.sorted_data (enc := fun b : V × PyData => b.2) (bs := xs.zip ps) (R := fun (u : Value) (b : V × PyData) => RelV b.1 u) hl.isList (each_vals rv hlen) (each_zip hr hlen.symm) (by rw [hmap]; exact hal) (by rw [hmap]; exact hso) (by rw [hbl]; exact hz) (fun b hb => ?_) fun out ho eo => ?_
  · have := hdp b.2 (by rw [← hmap]; exact List.mem_map.mpr ⟨b, hb, rfl⟩)
    omega
  · obtain ⟨ep, he'⟩ := PyProof.Rows.sortedAll_at s.heap its out.toArray
    refine ⟨.ref _, upd H (s.heap.objs.size + 1) (.lst _), I.laid (t' := s.toks) (fun _ _ => PyProof.Rows.sortedAll_old) (Nat.le_succ _) ⟨?_, out, ep, vals_each eo, he'⟩, rfl, q _ (I.hok.fresh (Nat.le_succ _))⟩
    rw [List.length_map, List.length_mergeSort, hbl]
    exact hz
theorem reads_at {h : Heap} : ∀ {vs : List Value} {ds : List PyData} {as : List Addr}, ReadsAll h vs ds as → ∀ {i : Nat} {v : Value}, vs[i]? = some v → ∃ d as', ds[i]? = some d ∧ Reads h v d as'
  | _, _, _, .nil, i, v, e => by simp at e
  | _, _, _, .cons r t, 0, v, e => by
    cases e
    exact ⟨_, _, rfl, r⟩
  | _, _, _, .cons r t, i + 1, v, e => reads_at t (i := i) e
theorem cr_minG (hc : X.calm = true) (hu : X.A.units + 64 < cLine) : CallR X (.builtin "min") (fun vs H Q => ∃ (a : Addr) (xs : List V) (p0 : PyData) (ps : List PyData), vs = [V.ref a] ∧ SqL X.K H a xs ∧ DpAll X.K H xs (p0 :: ps) ∧ PySem.W.AlikeAll (p0 :: ps) ∧ PyData.depthAll (p0 :: ps) ≤ 60 ∧
    ∀ (i : Nat) (v : V), xs[i]? = some v → (p0 :: ps)[i]? = some (PySem.W.minD p0 ps) → Q v H) := by
  intro pins s σ H vs us Q I r h
  obtain ⟨a, xs, p0, ps, rfl, hs, hp, hal, hdp, q⟩ := h
  obtain ⟨its, rv, hl, hz⟩ := I.list hs
  rw [Vals.ref1 r]
  obtain ⟨as, hr⟩ := Dp.readsAll I (p0 :: ps) xs its hp rv
  refine PySem.W.min_list_data (I.ok.hd hc) hl.isList hr hal (by omega) fun i v h' tk bs hv hm hk => ?_
  have hv' : its[i]? = some v := by simpa using hv
  have hi : i < xs.length := by
    rw [rv.length]
    exact (List.getElem?_eq_some_iff.mp hv').1
  obtain ⟨w, hw, rw'⟩ := rv.get (List.getElem?_eq_getElem hi)
  rw [hv'] at hw
  cases hw
  obtain ⟨d, as', hd, hrd⟩ := reads_at hr hv'
  have hdm := (PyProof.Rows.reads_det (fun b o e _ => hk b o e) hrd hm).1
  exact ⟨xs[i], H, I.kept hk, rw', q i _ (List.getElem?_eq_getElem hi) (by rw [hd, hdm])⟩
def spSortD : SpD := fun ds S k _ => match ds with
  | [.ref n] => ∃ xs ps, isL S n xs ∧ DPys S xs ps ∧ PySem.W.AllAlike ps ∧ PySem.W.Sortable ps ∧ (∀ p ∈ ps, p.depth ≤ 60) ∧ k (.ref S.length) (S ++ [.lst (((xs.zip ps).mergeSort (PySem.W.dataLe false (·.2))).map (·.1))])
  | _ => False
def spMinD : SpD := fun ds S k _ => match ds with
  | [.ref n] => ∃ xs p0 ps, isL S n xs ∧ DPys S xs (p0 :: ps) ∧ PySem.W.AlikeAll (p0 :: ps) ∧ PyData.depthAll (p0 :: ps) ≤ 60 ∧ ∀ (i : Nat) (d : D), xs[i]? = some d → (p0 :: ps)[i]? = some (PySem.W.minD p0 ps) → k d S
  | _ => False
theorem rds_len {K : PySem.W.Frag} {H : Hp} {al : List Addr} : ∀ {ds : List D} {vs : List V}, RDs K H al ds vs → ∀ ps : List PyData, ps.length = ds.length →
    ∃ T : List (D × V × PyData), T.map (fun t => (t.1, t.2.2)) = ds.zip ps ∧ T.map (fun t => (t.2.1, t.2.2)) = vs.zip ps ∧ ∀ t ∈ T, RD K H al t.1 t.2.1
  | [], _, h, ps, _ => by
    rw [show _ = [] from h]
    exact ⟨[], by simp, by simp, fun _ h => (nomatch h)⟩
  | d :: ds, _, ⟨v, r, e, h1, h2⟩, ps, hl => by
    subst e
    cases ps with
    | nil => cases hl
    | cons p ps =>
      obtain ⟨T, t1, t2, t3⟩ := rds_len h2 ps (by simpa using hl)
      refine ⟨(d, v, p) :: T, by rw [List.map_cons, t1]; rfl, by rw [List.map_cons, t2]; rfl, fun t ht => ?_⟩
      rcases List.mem_cons.mp ht with rfl | ht
      · exact h1
      · exact t3 t ht
theorem rds_trip {K : PySem.W.Frag} {H : Hp} {al : List Addr} : ∀ T : List (D × V × PyData), (∀ t ∈ T, RD K H al t.1 t.2.1) → RDs K H al (T.map (·.1)) (T.map (·.2.1))
  | [], _ => rfl
  | t :: T, h => ⟨t.2.1, _, rfl, h t List.mem_cons_self, rds_trip T fun u hu => h u (List.mem_cons_of_mem _ hu)⟩
theorem dpys_len {S : Sto} : ∀ {xs : List D} {ps : List PyData}, DPys S xs ps → ps.length = xs.length
  | _, _, .nil => rfl
  | _, _, .cons _ t => by rw [List.length_cons, List.length_cons, dpys_len t]
theorem c_sortedG (hu : X.A.units + 64 < cLine) : CallR X (.builtin "sorted") (LLs (cy X E) spSortD) := by
  intro pins s σ H xs us Q I r ⟨ds, al, S, kd, xd, rs, rd, q, up, ux⟩
  unfold spSortD at q
  split at q
  · obtain ⟨bs, ps, hl, hp, hal, hso, hdp, q⟩ := q
    obtain ⟨v, e, rv⟩ := rds1 rd
    obtain ⟨a, vs, e2, _, h1, r1⟩ := isL_at rs hl rv
    subst e e2
    obtain ⟨T, t1, t2, t3⟩ := rds_len r1 ps (dpys_len hp)
    refine cr_sortedG hu pins s σ H _ us Q I r ⟨a, vs, ps, rfl, h1, DPys.dp rs ps bs vs hp r1, hal, hso, hdp, fun p hn => ?_⟩
    have e1 : ((bs.zip ps).mergeSort (PySem.W.dataLe false (·.2))).map (·.1) = (T.mergeSort (PySem.W.dataLe false fun t : D × V × PyData => t.2.2)).map (·.1) := by
      rw [← t1, ← List.map_mergeSort (r := PySem.W.dataLe false fun t : D × V × PyData => t.2.2) (f := fun t : D × V × PyData => (t.1, t.2.2)) (fun a _ b _ => rfl), List.map_map]
      rfl
    have e2 : ((vs.zip ps).mergeSort (PySem.W.dataLe false (·.2))).map (·.1) = (T.mergeSort (PySem.W.dataLe false fun t : D × V × PyData => t.2.2)).map (·.2.1) := by
      rw [← t2, ← List.map_mergeSort (r := PySem.W.dataLe false fun t : D × V × PyData => t.2.2) (f := fun t : D × V × PyData => (t.2.1, t.2.2)) (fun a _ b _ => rfl), List.map_map]
      rfl
    rw [e1] at q
    rw [e2]
    exact up_new up rs hn (rds_trip _ fun t ht => t3 t (List.mem_mergeSort.mp ht)) q
  · exact q.elim
theorem c_minG (hc : X.calm = true) (hu : X.A.units + 64 < cLine) : CallR X (.builtin "min") (LLs (cy X E) spMinD) := by
  intro pins s σ H xs us Q I r ⟨ds, al, S, kd, xd, rs, rd, q, up, ux⟩
  unfold spMinD at q
  split at q
  · obtain ⟨bs, p0, ps, hl, hp, hal, hdp, q⟩ := q
    obtain ⟨v, e, rv⟩ := rds1 rd
    obtain ⟨a, vs, e2, _, h1, r1⟩ := isL_at rs hl rv
    subst e e2
    refine cr_minG hc hu pins s σ H _ us Q I r ⟨a, vs, p0, ps, rfl, h1, DPys.dp rs (p0 :: ps) bs vs hp r1, hal, hdp, fun i w hw hm => ?_⟩
    have hi : i < bs.length := by
      have h3 := RDs.length r1
      have h4 := (List.getElem?_eq_some_iff.mp hw).1
      omega
    obtain ⟨w2, hw2, rw'⟩ := RDs.get r1 (List.getElem?_eq_getElem hi)
    rw [hw] at hw2
    cases hw2
    exact up_at up rs rw' (q i _ (List.getElem?_eq_getElem hi) hm)
  · exact q.elim
theorem rks_len2 {K : PySem.W.Frag} {H : Hp} {al : List Addr} : ∀ {ds : List (Key × D)} {vs : List (Key × V)}, RKs K H al ds vs → vs.length = ds.length
  | [], _, h => by
    rw [show _ = [] from h]
    rfl
  | p :: ds, _, ⟨w, r, e, h1, h2⟩ => by
    subst e
    rw [List.length_cons, List.length_cons, rks_len2 h2]
def spLenD : SpD := fun ds S k _ => match ds with
  | [.ref n] => ∃ kvs, S[n]? = some (.dic kvs) ∧ k (.int kvs.length) S
  | _ => False
theorem c_lenD : CallR X (.builtin "len") (LLs (cy X E) spLenD) := by
  intro pins s σ H xs us Q I r ⟨ds, al, S, kd, xd, rs, rd, q, up, ux⟩
  unfold spLenD at q
  split at q
  · obtain ⟨kvs, hk, q⟩ := q
    obtain ⟨v, e, rv⟩ := rds1 rd
    obtain ⟨a, vs, e2, _, eH, rk⟩ := dic_at rs hk rv
    subst e e2
    rw [Vals.ref1 r]
    refine d_len I (.inl eH) fun t s' I' => ⟨.int _, H, I', ⟨t, rfl⟩, ?_⟩
    rw [rks_len2 rk]
    exact up_at up rs (d := .int _) rfl q
  · exact q.elim
end
end Q
namespace Q
open PySem
open Spec PyProof.Rows L2

/-! ### a tuple some times over -/
theorem tuple_mulOne (l : Addr) (items : Array Value) (n : Nat) (dd : Option Addr) (sl : Array (Option Value)) (u : Tok) :
    Meets (Builtin.«tuple.__mul__» ⟨[.ref l, .int 1 u], []⟩) (fun _ R s => s.heap.get? l = some { cls := .type "tuple", dict := dd, data := .seq items n, slots := sl } ∧ R (.ok (.ret (Value.ref l))) s) :=
  .of_wp fun prog w A R s h => by
    obtain ⟨hp, g, d, tk, os⟩ := s
    obtain ⟨hl, h⟩ := h
    have f1 := AutoSeq1.idx_int
    have c0 : (decide ((1 : Int) < -(2 ^ 63)) || decide ((1 : Int) ≥ 2 ^ 63)) = false := by decide
    have c1 : (items.isEmpty || (1 : Int) == 1) = true := by cases items.isEmpty <;> rfl
    wp_walk using wpAny_loadPart' hl
    repeat (first
      | (refine wpAny_ite_false (decide_eq_false (by rw [c0]; exact Bool.false_ne_true)) ?_; wp_walk using wpAny_loadPart' hl)
      | (refine wpAny_ite_true (decide_eq_true (by rw [c1])) ?_; wp_walk using wpAny_loadPart' hl))
    exact ⟨_, rfl, h⟩
section
variable {X : Cx} {E : XK}
theorem op_repT1 : OpR X (binaryOp .Mult) (fun x y H Q => ∃ l xs, x = .ref l ∧ y = .int 1 ∧ SqT X.K H l xs ∧ Q (.ref l) H) := by
  intro pins s σ H x y v u Q I rx ry h
  obtain ⟨l, xs, rfl, rfl, hT, q⟩ := h
  cases rx
  obtain ⟨t, rfl⟩ := ry
  obtain ⟨its, r, ⟨⟨cls, dd, data, sl⟩, ho, hc, n, hd⟩, hs⟩ := I.tuple hT
  simp only at hc hd
  subst hc hd
  refine wpAny_binaryOp_repeat_ref (T := "tuple") (U := "int") (by decide) ⟨_, ho, rfl⟩ (fun s' => typeIs_int s' 1 t) noFill_tuple_mul F.fills_int_mul F.slot_int_rmul repeat_tuple F.slot_int_index.lookup
    (call_meets F.slot_int_rmul (typeIs_int s 1 t) F.entry_int_rmul (F.args_int_rmul_2 _ _) (int_rmul_tuple 1 t l its.toArray n dd sl)
      ⟨ho, rfl, ⟨_, ho, rfl⟩, call_meets F.slot_tuple_mul ⟨_, ho, rfl⟩ F.entry_tuple_mul (F.args_tuple_mul_2 _ _) (tuple_mulOne l its.toArray n dd sl t) ⟨ho, ?_⟩⟩)
  exact ⟨.ref l, H, I, rfl, q⟩
def rMulT : R2D := fun d e S k _ => match d, e with
  | .tup xs, .int j => xs ≠ [] ∧ 1 ≤ j ∧ j ≤ 1000 ∧ xs.length ≤ 1000 ∧ k (.tup (List.replicate j.toNat xs).flatten) S
  | _, _ => False
theorem rds_ne {K : PySem.W.Frag} {H : Hp} {al : List Addr} {ds : List D} {vs : List V} (h : RDs K H al ds vs) (hn : ds ≠ []) : vs ≠ [] := fun e => by
  have := RDs.length h
  rw [e] at this
  cases ds with
  | nil => exact hn rfl
  | cons a b => cases this
theorem o_mulT : OpR X (binaryOp .Mult) (LL2 (cy X E) rMulT) := by
  intro pins s σ H x y v u Q I rx ry ⟨d, e, al, S, kd, xd, rs, rd, re, q, up, ux⟩
  unfold rMulT at q
  split at q
  · next xs j =>
    obtain ⟨hne, h1, h2, hl, q⟩ := q
    have re : y = .int j := re
    obtain ⟨a, vs, ex, h3, r1⟩ := rd
    by_cases hj : j = 1
    · subst hj
      subst re
      refine op_repT1 pins s σ H x _ v u Q I rx ry ⟨a, vs, ex, rfl, h3, ?_⟩
      subst ex
      refine up_at up rs (d := .tup xs) ⟨a, vs, rfl, h3, r1⟩ ?_
      simpa using q
    · refine op_repT pins s σ H x y v u Q I rx ry ⟨a, j, vs, ex, re, h3, rds_ne r1 hne, by omega, h2, by rw [RDs.length r1]; exact hl, fun p hp => up_tup up rs hp (rds_rep r1 _) q⟩
  · exact q.elim
end
end Q
namespace Q
open PySem
open Spec PyProof.Rows L2

/-! ### a value among those of a list, of any depth -/
def rInP : R2D := fun d e S k _ => match e with
  | .ref n => ∃ p xs ps, isL S n xs ∧ DPy S d p ∧ DPys S xs ps ∧ SeqAt.shaped p = true ∧ SeqAt.shaped (.list ps) = true ∧ p.depth ≤ 60 ∧ k (.bl (ps.any fun z => PyData.eqv z p)) S
  | _ => False
section
variable {X : Cx} {E : XK}
theorem o_inP (hu : X.A.units + 64 < cLine) : OpR X (compareOp .In) (LL2 (cy X E) rInP) := by
  intro pins s σ H x y v u Q I rx ry ⟨d, e, al, S, kd, xd, rs, rd, re, q, up, ux⟩
  unfold rInP at q
  split at q
  · next n =>
    obtain ⟨p, xs, ps, hl, hp, hps, s1, s2, hdp, q⟩ := q
    obtain ⟨a, vs, e2, _, h1, r1⟩ := isL_at rs hl re
    subst e2
    obtain ⟨as, r1'⟩ := Dp.reads I p x v (DPy.dp rs p d x hp rd) rx
    obtain ⟨bs, r2'⟩ := Dp.reads I (.list ps) (.ref a) u (.lst h1 (DPys.dp rs ps xs vs hps r1)) ry
    refine SeqAt.in_list_reads r2' r1' (SeqAt.canLay_of_shaped s2) (SeqAt.canLay_of_shaped s1) ?_ ⟨.bl _, H, I, rfl, up_at up rs (d := .bl _) rfl q⟩
    have := Nat.min_le_right (PyData.depthAll ps) p.depth
    omega
  · exact q.elim
end
end Q
namespace Q
open PySem
open Spec PyProof.Rows L2

/-! ### a list unpacked -/
def gUl (n : Nat) (u : TGDs) : TGD := fun d sg S q x => match d with
  | .ref m => ∃ ds, isL S m ds ∧ ds.length = n ∧ u ds sg S q x
  | _ => False
section
variable {X : Cx} {E : XK} {es : List Expr} {gs : TGDs} {pos : Pos}
theorem q_gulP {k n : Nat} (hc : X.calm = true) (h : QGsp X E es gs) (hn : (assignEach es X.env).length = n := by rfl) (hst : (assignEach es X.env).findIdx? (·.1) = none := by rfl) : QGp X E (.Tuple es k pos) (gUl n gs) :=
  pg_imp (pg_unl hc h hn hst) fun v s H Q ⟨d, sg, al, S, qd, xd, rs, rl, rd, q, up, ux⟩ => by
    unfold gUl at q
    split at q
    · obtain ⟨ds, hl, hlen, q⟩ := q
      obtain ⟨a, vs, e, _, h1, r1⟩ := isL_at rs hl rd
      exact ⟨a, vs, e, h1, by rw [RDs.length r1]; exact hlen, ds, sg, al, S, qd, xd, rs, rl, r1, q, up, ux⟩
    · exact q.elim
end
end Q
namespace Q
open PySem
open Spec PyProof.Rows L2

/-! ### exceptions: what the head says of their classes -/
theorem oexB_ok {K : PySem.W.Frag} {C : Addr} (q : oexB K C = true) : ∃ nm qn N bs bm sn sub ab col dd k0 k1 k2 k3 k5, K.lookup C = some (excClassObj nm qn C N bs bm true sn sub ab col dd k0 k1 k2 k3 k5 "ValueError.__new__") ∧ PySem.HandSPX.refsVE bm = true := by
  unfold oexB at q
  split at q
  · rename_i dd cd sl ho
    split at q
    · rename_i C1 bm j0 j1 j2 j3 n j5 hm hs
      obtain ⟨q1, q⟩ := Bool.and_eq_true_iff.mp q
      obtain ⟨q2, q⟩ := Bool.and_eq_true_iff.mp q
      obtain ⟨q3, q⟩ := Bool.and_eq_true_iff.mp q
      obtain ⟨q4, q5⟩ := Bool.and_eq_true_iff.mp q
      have q1 := eq_of_beq q1
      have q2 := eq_of_beq q2
      subst q1 q2
      obtain ⟨nm, bs, mro, ns, qn, hd, sn, sub, ab, col, del⟩ := cd
      dsimp only at hm q3 q4
      have q3 : del = false := by simpa using q3
      subst hm q3 q4
      have hl : sl = #[j0, j1, j2, j3, some (.builtin "ValueError.__new__"), j5] := by
        obtain ⟨l⟩ := sl
        simp only at hs
        rw [hs]
      subst hl
      exact ⟨nm, qn, ns, bs, bm, sn, sub, ab, col, dd, j0, j1, j2, j3, j5, ho, q5⟩
    · cases q
  · cases q
structure ExC (K : PySem.W.Frag) (x : Str) : Prop where
  oex : OexC K (He.ga K x)
  xf : XfC K (He.ga K x)
  val : PySem.W.findIn K (.ref (He.ga K x)) "value" = some none
  ini : PySem.W.findIn K (.ref (He.ga K x)) "__init__" = some (some (.ref (initA K)))
  tyI : PySem.W.typeIn K (.ref (initA K)) = some (.type "function")
  ns : PySem.W.nsIn K mainGlobals x = some (some (.ref (He.ga K x)))
  sub : ∀ y ∈ exNs, ∀ C, PySem.W.nsIn K mainGlobals y = some (some (.ref C)) → PySem.W.exmOne K (.ref (He.ga K x)) (.ref C) = some (exSub x y)
theorem exB_ok {K : PySem.W.Frag} {x : Str} (q : exB K x = true) : ExC K x := by
  unfold exB at q
  obtain ⟨q1, q⟩ := Bool.and_eq_true_iff.mp q
  obtain ⟨q2, q⟩ := Bool.and_eq_true_iff.mp q
  obtain ⟨q3, q⟩ := Bool.and_eq_true_iff.mp q
  obtain ⟨q4, q⟩ := Bool.and_eq_true_iff.mp q
  obtain ⟨q5, q⟩ := Bool.and_eq_true_iff.mp q
  obtain ⟨q6, q⟩ := Bool.and_eq_true_iff.mp q
  obtain ⟨q7, q⟩ := Bool.and_eq_true_iff.mp q
  obtain ⟨q8, q⟩ := Bool.and_eq_true_iff.mp q
  obtain ⟨q9, q⟩ := Bool.and_eq_true_iff.mp q
  obtain ⟨q10, q⟩ := Bool.and_eq_true_iff.mp q
  refine ⟨⟨oexB_ok q1, of_decide_eq_true q2, of_decide_eq_true q3, of_decide_eq_true q4, q5⟩, xfB_ok q6, of_decide_eq_true q7, of_decide_eq_true q8, of_decide_eq_true q9, He.eqO_ok q10, fun y hy C hC => ?_⟩
  have h := List.all_eq_true.mp q y hy
  rw [hC] at h
  exact of_decide_eq_true h
/-! ### an exception at rest is told -/
section
variable {X : Cx} {pins : List (Addr × Obj)} {σ : L2.St} {H : Hp} {s : Shared}
theorem inv_track {a : Addr} {oe : Obj} {vs : Array Value} {o : HO} (I : Inv X pins σ H s) (ha : s.heap.get? a = some oe) (hd : oe.data = .fields vs) (na : H a = none) (n0 : X.s_0.heap.get? a = none) (nL : a ≠ X.env.locals)
    (nP : ∀ p ∈ X.pn ++ pins, p.1 ≠ a) (ho : ObjOk X.prog X.w (upd H a o) s.heap a o) : Inv X pins σ (upd H a o) s := by
  have nC : ∀ x c, X.env.cells.lookup x = some c → c ≠ a := fun x c e z => by
    obtain ⟨v, o2, e1, e2⟩ := I.cell x c e
    rw [z, ha] at e1
    cases e1
    rw [hd] at e2
    cases e2
  refine ⟨I.ok, I.os, I.bare, ⟨I.base.keep, I.base.slot, fun b u e n hx => ?_, I.base.there, fun b xs e => ?_, fun b u z e => ?_, fun b ps e => ?_⟩, I.loc, I.cell, ?_, fun x c e => ?_, fun p hp => ?_, fun b u e => ?_, I.len⟩
  · rw [upd_ne (fun z => by rw [z, n0] at e; cases e)]
    exact I.base.free b u e n hx
  · have e2 := I.base.tups b xs e
    rw [upd_ne (ne_of_none e2 na)]
    exact e2
  · have e2 := I.base.frzs b u z e
    rw [upd_ne (ne_of_none e2 na)]
    exact e2
  · obtain ⟨more, e2⟩ := I.base.tbls b ps e
    exact ⟨more, by rw [upd_ne (ne_of_none e2 na)]; exact e2⟩
  · rw [upd_ne nL.symm]
    exact I.free
  · rw [upd_ne (nC x c e)]
    exact I.freeC x c e
  · obtain ⟨p1, p2, p3⟩ := I.pin p hp
    exact ⟨p1, by rw [upd_ne (nP p hp)]; exact p2, p3⟩
  · by_cases hb : b = a
    · subst hb
      rw [upd_same] at e
      cases e
      exact ho
    · rw [upd_ne hb] at e
      exact (I.hok b u e).stay (fun c w hc q => q) (fun c hc => by rw [upd_ne (ne_of_none hc na)]; exact hc) fun c xs hc => by rw [upd_ne (ne_of_none hc na)]; exact hc
theorem exV_ok {P : Program} {w : World} {G : Hp} {h : Heap} {a : Addr} {cls : Value} {d : Option Addr} {oe : Obj} {vs : Array Value} (e : h.get? a = some oe) (z : Zc cls d oe) (hd : oe.data = .fields vs) : ObjOk P w G h a (ExV cls d a) :=
  ⟨⟨oe, vs, e, z, hd⟩, ⟨oe, e⟩, fun _ _ ⟨o, v, q, r⟩ k => ⟨o, v, k o q, r⟩⟩
/-- the context of a clause's suite, the exception told -/
abbrev suiteX (X : Cx) (a : Addr) (pn : List (Addr × Obj)) : Cx := X.suite a pn
theorem inv_in {a : Addr} (I : Inv X pins σ H s) : Inv (suiteX X a (X.pn ++ pins)) [] σ H s :=
  ⟨I.ok.suite _ _, I.os, I.bare, I.base, I.loc, I.cell, I.free, I.freeC, fun p hp => I.pin p (by rw [List.append_nil] at hp; exact hp), I.hok, I.len⟩
theorem inv_out {a : Addr} {more : List (Addr × Obj)} (I : Inv (suiteX X a (X.pn ++ pins)) more σ H s) (ok : X.Ok) : Inv X pins σ H s :=
  ⟨ok, I.os, I.bare, I.base, I.loc, I.cell, I.free, I.freeC, fun p hp => I.pin p (List.mem_append_left _ hp), I.hok, I.len⟩
end
/-! ### try with several clauses, with or without names -/
/-- a clause: the class, the slot of its name, its suite -/
structure HdT where
  c : Value
  i : Option Nat
  ts : Addr → Value → Option Addr → TS
def clr (i : Option Nat) (σ : L2.St) : L2.St := match i with
  | some j => σ.set j none
  | none => σ
def put (i : Option Nat) (a : Addr) (σ : L2.St) : L2.St := match i with
  | some j => σ.set j (some (.ref a))
  | none => σ
def clrE (i : Option Nat) (D : Ends) : Ends := { nx := fun σ H => D.nx (clr i σ) H, rt := D.rt, bk := fun σ H => D.bk (clr i σ) H, ct := fun σ H => D.ct (clr i σ) H }
def wHd (K : PySem.W.Frag) (Wout : WX) (D : Ends) : List HdT → WX
  | [] => Wout
  | h :: r => fun cls d σ H => ∃ b, PySem.W.exmOne K cls h.c = some b ∧ (b = true → ∀ a, H a = none → h.ts a cls d (clrE h.i D) (put h.i a σ) (upd H a (ExV cls d a))) ∧ (b = false → wHd K Wout D r cls d σ H)
inductive HdsA (X : Cx) : List ExceptHandler → List HdT → Prop
  | nil : HdsA X [] []
  | cons {y : Str} {h : HdT} {nm : Option Str} {st0 : Stmt} {sts : List Stmt} {p1 p2 : Pos} {hds : List ExceptHandler} {l : List HdT} (hc : Names X y h.c)
      (hi : (nm = none ∧ h.i = none) ∨ ∃ n j, nm = some n ∧ h.i = some j ∧ X.N[j]? = some n ∧ X.env.kindOf n = some .local)
      (hsu : ∀ (a : Addr) (cls : Value) (d : Option Addr) (pn : List (Addr × Obj)), PSs (suiteX X a pn) (st0 :: sts) (h.ts a cls d)) (r : HdsA X hds l) : HdsA X (.ExceptHandler (some (.Name y p1)) nm (st0 :: sts) p2 :: hds) (h :: l)
section
variable {X : Cx} {body : List Stmt} {hd0 : ExceptHandler} {hds : List ExceptHandler} {l : List HdT} {pos : Pos} {tb : WX → TS} {Wout : WX}
theorem ps_tryA (hs : X.stack = X.env :: X.outer) (hf : X.env.frame = some X.env.locals) (hex : X.ex = []) (hN : X.N.Nodup) (tk : Takes X Wout)
    (hb : ∀ (W : WX) (pn : List (Addr × Obj)) (xe : Value → Shared → Prop), Takes (X.tr pn xe) W → PassesOwn (model X.prog X.w) X.A X.env xe → PSs (X.tr pn xe) body (tb W)) (hh : HdsA X (hd0 :: hds) l) :
    PS X (.Try body (hd0 :: hds) [] [] pos) (fun D σ H => tb (wHd X.K Wout D l) D σ H) := by
  refine ⟨fun pins s σ H D I hstart => ?_⟩
  have ok := I.ok
  have frames : X.A.frames = some (X.env :: X.outer) := by rw [ok.frames, hs]
  have pinsOut : ∀ {f : Flow} {s1 : Shared}, SP (X.tr (X.pn ++ pins) fun e s₁ => wpAny (model X.prog X.w) X.A (noteFrame e X.env) (fun _ s₂ => wpAny (model X.prog X.w) X.A (setFlight e none) (fun _ s₃ =>
      wpAny (model X.prog X.w) X.A (handleBy e X.env (hd0 :: hds)) (SP X pins D) X.xe s₃) X.xe s₂) X.xe s₁) [] D f s1 → SP X pins D f s1 := fun {f s1} q => by
    cases f with
    | next => obtain ⟨σ2, H2, J, q⟩ := q; exact ⟨σ2, H2, J.ofTry ok, q⟩
    | brk => obtain ⟨σ2, H2, J, q⟩ := q; exact ⟨σ2, H2, J.ofTry ok, q⟩
    | cont => obtain ⟨σ2, H2, J, q⟩ := q; exact ⟨σ2, H2, J.ofTry ok, q⟩
    | ret u => obtain ⟨v, σ2, H2, J, r, q⟩ := q; exact ⟨v, σ2, H2, J.ofTry ok, r, q⟩
  refine wpAny_Try_except (wpAny_mono ((hb (wHd X.K Wout D l) (X.pn ++ pins) _ (fun u s2 xx => ?_) PassesOwn.looking).run [] s σ H D (I.toTry _) hstart) (fun f s1 q => ?_) fun _ _ z => z)
  · obtain ⟨a, B, sI, pins2, σ2, H2, cls, d, rfl, Jt, nb, up, sky, na, hos, hag, w⟩ := xx
    have J : Inv X pins σ2 H2 sI := Jt.ofTry ok
    have skyE : Sky B (X.env :: X.outer) a (Zc cls d) X.env.locals s2.heap := by
      rw [← hs]
      exact sky
    show wpAny (model X.prog X.w) X.A (noteFrame (.ref a) X.env) _ _ _
    refine Sky.land Zc.steady frames hf skyE fun h3 fl3 up3 => ?_
    have J3 : Inv X pins σ2 H2 { s2 with heap := h3 } := J.landed nb fl3.1 (up.trans up3) hos hag
    obtain ⟨o3, v3, e3, z3, d3⟩ := fl3.there
    have noFrame : ∀ {h : Heap} {o : Obj} {vs : Array Value}, h.FunFrames B (X.env :: X.outer) → h.get? a = some o → o.data = .fields vs → a ∉ frs (X.env :: X.outer) := fun {h o vs} ff e dd hm => by
      obtain ⟨_, o2, q2, hnf⟩ := ff.mem hm
      rw [e] at q2
      cases q2
      exact hnf _ dd
    have nfr := noFrame fl3.2.2.1 e3 d3
    have nL : a ≠ X.env.locals := fun z => nfr (List.mem_filterMap.mpr ⟨X.env, List.mem_cons_self, by rw [hf, z]⟩)
    have nI : sI.heap.get? a = none := by
      cases q : sI.heap.get? a with
      | none => rfl
      | some o =>
        have := nb a o q (by rw [hs]; exact nfr)
        rw [fl3.2.1] at this
        cases this
    have n0 : X.s_0.heap.get? a = none := by
      cases q : X.s_0.heap.get? a with
      | none => rfl
      | some o =>
        obtain ⟨o2, q2⟩ := J.base.there a o q (by rw [hex]; simp)
        rw [nI] at q2
        cases q2
    have nP : ∀ p ∈ X.pn ++ pins, p.1 ≠ a := fun p hp z => by
      have := (J.pin p hp).1
      rw [z, nI] at this
      cases this
    have look : PySem.W.Looks (model X.prog X.w) h3 (typeOf (.ref a)) cls := fun A Q E s k q => wpAny_typeOf_ref (k _ _ e3) (by rw [z3.1]; exact q)
    have go : ∀ {hds2 : List ExceptHandler} {l2 : List HdT}, HdsA X hds2 l2 → wHd X.K Wout D l2 cls d σ2 H2 →
        wpAny (model X.prog X.w) X.A (handleBy (.ref a) X.env hds2) (SP X pins D) X.xe { s2 with heap := h3 } := by
      intro hds2 l2 hk
      induction hk with
      | nil =>
        intro w
        refine wpAny_handleBy_nil ?_
        obtain ⟨m1, m2, m3, oe, vs, T, oT, ts2, he, hz, hd, h1, hr⟩ := id fl3
        unfold PySem.passOn
        refine wpAny_bind (wpAny_field he hd h1 ?_)
        rw [if_neg (show ¬ ((Value.ref T == Value.none) = true) from by simp)]
        have fin : wpAny (model X.prog X.w) X.A (setFlight (.ref a) X.env.frame) (fun _ s4 => wpAny (model X.prog X.w) X.A (throw (.ref a) : Sem Flow) (SP X pins D) X.xe s4) X.xe { s2 with heap := h3 } := by
          rw [hf]
          exact HandSPX.setFlight_upZ fl3 fun h4 hh4 up4 => wpAny_throw (tk _ _ ⟨a, B, sI, pins, σ2, H2, cls, d, rfl, J, nb, (up.trans up3).trans up4, .inr (.inr (by rw [hs]; exact hh4)), na, hos, hag, w⟩)
        first
          | exact wpAny_bind (wpAny_pure (wpAny_bind fin))
          | exact wpAny_bind fin
      | @cons y hd nm st0 sts p1 p2 hds3 l3 hc hi hsu r ih =>
        intro w
        obtain ⟨b, hb1, hyes, hno⟩ := w
        refine wpAny_handleBy_cons (codeAny_handlers_test ?_) (by intro q; cases q)
        have is := PySem.W.exm_one (M := model X.prog X.w) (J3.kIn) look hb1
        have test : ∀ {Q : Value → Shared → Prop} {E : Value → Shared → Prop}, Q hd.c { s2 with heap := h3 } → wpAny (model X.prog X.w) (X.A.mark (some (.ref a))) (eval (.Name y p1) X.env) Q E { s2 with heap := h3 } := fun {Q E} q => by
          obtain ⟨hg, hdbg, hm | ⟨hm, hv, hnn⟩⟩ := hc
          · exact ld_glob (X := suiteX X a (X.pn ++ pins)) (inv_in J3) hg hm q hdbg
          · exact ld_blt (X := suiteX X a (X.pn ++ pins)) (inv_in J3) hg hm hv q hnn hdbg
        refine test (is.here ?_)
        cases b with
        | true =>
          have within : ∀ {h4 : Heap}, HandSPX.FlyingZ B (X.env :: X.outer) a (Zc cls d) h4 → h3.UpToSlots h4 → Inv (suiteX X a (X.pn ++ pins)) [] σ2 (upd H2 a (ExV cls d a)) { s2 with heap := h4 } := fun {h4} fl4 up4 => by
            have J4 : Inv X pins σ2 H2 { s2 with heap := h4 } := J.landed nb fl4.1 ((up.trans up3).trans up4) hos hag
            obtain ⟨o4, v4, e4, z4, d4⟩ := fl4.there
            exact inv_in (inv_track J4 e4 d4 na n0 nL nP (exV_ok e4 z4 d4))
          rcases hi with ⟨rfl, hi⟩ | ⟨n, j, rfl, hi, hj, hl⟩
          · refine codeAny_handlers_suite ?_
            refine HandSPX.lands_againZ fl3 fun h4 fl4 up4 => ?_
            have q := hyes rfl a na
            rw [hi] at q
            refine wpAny_mono ((hsu a cls d (X.pn ++ pins)).run [] _ _ _ _ (within fl4 up4) q) (fun f s6 q6 => ?_) (fun _ _ z => False.elim z)
            cases f with
            | next => obtain ⟨σ6, H6, S6, q6⟩ := q6; exact ⟨_, _, inv_out S6 ok, q6⟩
            | brk => obtain ⟨σ6, H6, S6, q6⟩ := q6; exact ⟨_, _, inv_out S6 ok, q6⟩
            | cont => obtain ⟨σ6, H6, S6, q6⟩ := q6; exact ⟨_, _, inv_out S6 ok, q6⟩
            | ret u => obtain ⟨v6, σ6, H6, S6, r6, q6⟩ := q6; exact ⟨_, _, _, inv_out S6 ok, r6, q6⟩
          · refine codeAny_handlers_suite_as ?_
            refine HandSPX.lands_againZ fl3 fun h4 fl4 up4 => ?_
            have q := hyes rfl a na
            rw [hi] at q
            refine store_ok (X := suiteX X a (X.pn ++ pins)) (v := .ref a) (within fl4 up4) hN hj (.inl hl) rfl (fun s5 S5 => ?_) (.inr hl)
            refine wpAny_mono ((hsu a cls d (X.pn ++ pins)).run [] s5 _ _ _ S5 q) (fun f s6 q6 => ?_) (fun _ _ z => False.elim z)
            have leave : ∀ {σ6 : L2.St} {H6 : Hp} {Q : Shared → Prop}, Inv (suiteX X a (X.pn ++ pins)) [] σ6 H6 s6 → (∀ s7, Inv X pins (σ6.set j none) H6 s7 → Q s7) →
                wpAny (model X.prog X.w) X.A (do bindName X.env n .none; unbindBehindTheSuite X.env n p2) (fun _ s7 => Q s7) X.xe s6 := fun {σ6 H6 Q} S6 hq => gone_ok (inv_out S6 ok) hN hj hl hq
            cases f with
            | next => obtain ⟨σ6, H6, S6, q6⟩ := q6; exact leave S6 fun s7 J7 => ⟨_, _, J7, q6⟩
            | brk => obtain ⟨σ6, H6, S6, q6⟩ := q6; exact leave S6 fun s7 J7 => ⟨_, _, J7, q6⟩
            | cont => obtain ⟨σ6, H6, S6, q6⟩ := q6; exact leave S6 fun s7 J7 => ⟨_, _, J7, q6⟩
            | ret u => obtain ⟨v6, σ6, H6, S6, r6, q6⟩ := q6; exact leave S6 fun s7 J7 => ⟨_, _, _, J7, r6, q6⟩
        | false => exact ih (hno rfl)
    exact go hh w
  · cases f with
    | next => obtain ⟨σ2, H2, J, q⟩ := q; exact wpAny_execs_nil ⟨σ2, H2, J.ofTry ok, q⟩
    | brk => exact pinsOut q
    | cont => exact pinsOut q
    | ret u => exact pinsOut q
end
/-! ### e.value of an exception at rest -/
def tXv (K : PySem.W.Frag) (n : Str) (te : TE) : TE := fun σ H Q => te σ H fun x H1 => ∃ (a C dx : Addr) (fs : List (Str × V)) (v : V), x = .ref a ∧ H1 a = some (ExV (.ref C) (some dx) a) ∧ XfC K C ∧ PySem.W.findIn K (.ref C) n = some none ∧ H1 dx = some (.xd fs) ∧ fs.lookup n = some v ∧ Q v H1
theorem pe_xv {X : Cx} {e : Expr} {te : TE} {pos : Pos} {n : Str} (he : PE X e te) (hb : attributeBase e n X.env (eval e X.env) = eval e X.env := by rfl) : PE X (.Attribute e n pos) (tXv X.K n te) := by
  refine ⟨fun pins s σ H Q I h => attr_of hb (thn (he.run pins s σ H _ I h) fun u s1 hh => ?_)⟩
  obtain ⟨x, H1, J, rx, a, C, dx, fs, v, ex, ea, T, hno, ed, hl, q⟩ := hh
  subst ex
  obtain rfl : u = Value.ref a := rx
  obtain ⟨⟨oe, vs, e1, z1, d1⟩, _⟩ := (J.hok a _ ea : ObjOk X.prog X.w H1 s1.heap a (ExV (.ref C) (some dx) a))
  obtain ⟨mA, hns, hr⟩ := (J.hok dx _ ed : ObjOk X.prog X.w H1 s1.heap dx (.xd fs))
  obtain ⟨od, ho, hlk⟩ := lookIn_ns hns
  obtain ⟨u, hu, ru⟩ := RelO.some_of (v := v) (o := mA n) (by rw [← hl]; exact hr n)
  have at_ : PySem.W.InstAt s1.heap a oe C (some od) := ⟨e1, z1.1, by unfold PySem.W.notCls; rw [d1] <;> rfl, by rw [z1.2]; exact ho⟩
  exact HandSPX.exc_get J.kIn at_ T.ga T.gg T.exC (PySem.W.findObj_own T.hdC hno rfl (by rw [hlk, hu])) (handed_of ru) ⟨v, H1, J.tok _, ru, q⟩
/-! ### the exceptions' own __init__ -/
def spI (K : PySem.W.Frag) : Sp := fun vs H Q _ => ∃ (a C : Addr) (v : V), vs = [.ref a, v] ∧ OexC K C ∧ PySem.W.findIn K (.ref C) "value" = some none ∧ H a = some (exo a C none) ∧ ∀ dx, H dx = none → dx ≠ a → Q .non (upd (upd H dx (exd dx [("value", v)])) a (exo a C (some dx)))
def tIni (K : PySem.W.Frag) : TS := tSeq (tDrop (tVeI K (tCons (tVar 0) (tCons (tVar 1) tNil)))) (tOst K "value" (tVar 0) (tVar 1))
theorem init_ok {P : Program} {w : World} {K : PySem.W.Frag} {mg : Str → Option Value} {base : Heap} {qual : Str} {params : Arguments} {body : List Stmt} {scope : Scope} {f : Addr} {fd : FuncData}
    (F : FunD K "__init__" qual params body scope [] [] f fd) (S : FnScope ["self", "value"] ["self", "value"] scope)
    (hb : ∀ (cdv : Value) (A : Around) (outer : List Env) (s : Shared) (H : Hp) (E : XK), PSs (cxOf (L2.CX P w) P w K mg base ["self", "value"] qual scope f cdv A outer s H E) body (tIni K)) :
    FnOk P w K mg base (L2.CX P w) 1 f fd ["self", "value"] (spI K) := by
  refine F.ok S (fun vs H Q E ⟨a, C, v, e, _⟩ => by rw [e]; rfl) fun cdv A outer s H vs Q E hr h => ?_
  obtain ⟨a, C, v, rfl, T, hv, hx, q⟩ := h
  refine ⟨_, hb cdv A outer s H E, .ref a, rfl, v, rfl, a, C, [v], rfl, by show 1 ≤ 1000; decide, T, hx, v, rfl, .ref a, rfl, a, C, rfl, T, hv, .inl ⟨hx, fun dx n ne => q dx n ne⟩⟩
end Q
namespace Q
open PySem
open Spec PyProof.Rows L2

/-! ### raise C(e) -/
def kRaise (x : Str) (M : EndsD) : List D → Sto → Prop := fun ds S => match ds with
  | [d] => M.ex (x, d) S
  | _ => False
def dRaise (x : Str) (ta : TAD) : TSD := fun M sg S => ta sg S (kRaise x M) M.ex
/-- the common __init__, known -/
structure IniT (P : Program) (w : World) (K : PySem.W.Frag) (mg : Str → Option Value) (base : Heap) (fd : FuncData) : Prop where
  ok : FnOk P w K mg base (L2.CX P w) 1 (initA K) fd ["self", "value"] (spI K)
  hb : Binds K fd ["self", "value"] []
theorem upd_del {H : Hp} {a dx : Addr} {o u v : HO} (n : H a = none) (ne : dx ≠ a) : upd (del (upd (upd (upd H a o) dx u) a o) a) dx v = upd H dx v := by
  funext b
  by_cases hb : b = dx
  · subst hb
    rw [upd_same, upd_same]
  · rw [upd_ne hb, upd_ne hb]
    by_cases ha : b = a
    · subst ha
      rw [del_same, n]
    · rw [del_ne ha, upd_ne ha, upd_ne hb, upd_ne ha]
theorem upd_del2 {H : Hp} {a dx : Addr} {o o2 u v : HO} (n : H a = none) (ne : dx ≠ a) : upd (del (upd (upd (upd H a o) dx u) a o2) a) dx v = upd H dx v := by
  funext b
  by_cases hb : b = dx
  · subst hb
    rw [upd_same, upd_same]
  · rw [upd_ne hb, upd_ne hb]
    by_cases ha : b = a
    · subst ha
      rw [del_same, n]
    · rw [del_ne ha, upd_ne ha, upd_ne hb, upd_ne ha]
theorem q_raise {X : Cx} {E : XK} {x : Str} {e : Expr} {es : List Expr} {ta : TAD} {p1 p2 pos : Pos} {fd : FuncData} (hc : X.calm = true) (I : IniT X.prog X.w X.K X.mg X.base fd) (hr : Room 2 X.A) (tk : Takes X (fun c d _ H => E c d H)) (hx : exB X.K x = true) (hm : X.mg x = some (.ref (He.ga X.K x)))
    (ha : QA X E (e :: es) ta) (hg : Gl X x := by rfl) (hdb : (x == ("__debug__" : Str)) = false := by decide) (he : starEach (e :: es) X.env = (false, eval e X.env) :: starEach es X.env := by rfl) (hpl : (backTo p2 (starEach es X.env)).any (·.1) = false := by rfl) :
    QS X E (.Raise (some (.Call (.Name x p1) (e :: es) [] p2)) none pos) (dRaise x ta) := by
  have C := exB_ok hx
  refine ps_imp (ps_raise hc tk (pmk_oex (dvs := []) C.oex C.ini C.tyI I.ok hr I.hb .nil passL hg hm ha hdb he hpl)) fun De σ H ⟨sg, al, S, Dd, rs, rl, q, ue⟩ => ?_
  refine ⟨sg, al, S, kRaise x Dd, Dd.ex, rs, rl, q, fun ds S1 al1 H1 vs f1 r1 q1 => ?_, ue.ex⟩
  unfold kRaise at q1
  split at q1
  · rename_i d
    obtain ⟨v, u, ev, rv, eu⟩ := r1
    cases (show u = [] from eu)
    subst ev
    refine ⟨by show 1 ≤ 1000; decide, fun a na => ⟨a, He.ga X.K x, v, by simp, C.oex, C.val, upd_same, fun dx nd ne => ⟨rfl, dx, [("value", v)], upd_same, by rw [upd_ne ne, upd_same], by rwa [upd_ne ne] at nd, ?_⟩⟩⟩
    rw [upd_del2 na ne]
    have nd1 : H1 dx = none := by rwa [upd_ne ne] at nd
    have f2 : Fut X.K H1 al1 (upd H1 dx (.xd [("value", v)])) al1 S1 := Fut.lay f1.rs nd1
    exact ue.ex (x, d) S1 al1 _ _ _ (f1.trans f2) ⟨hx, dx, v, rfl, rfl, upd_same, f2.rd rv⟩ q1
  · exact q1.elim
/-! ### the body of a try: what is let out knows the slots -/
abbrev cyW (X : Cx) (W : WX) (σ : L2.St) : Cy := ⟨X.K, X.mg, fun c d H => W c d σ H⟩
abbrev QEw (X : Cx) (W : WX) (e : Expr) (t : TED) : Prop := PE X e (fun σ H Q => LE (cyW X W σ) t σ H Q)
abbrev QTw (X : Cx) (W : WX) (e : Expr) (t : TTD) : Prop := PT X e (fun σ H Q => LT (cyW X W σ) t σ H Q)
abbrev QAw (X : Cx) (W : WX) (e : List Expr) (t : TAD) : Prop := PA X e (fun σ H Q => LA (cyW X W σ) t σ H Q)
abbrev QSw (X : Cx) (W : WX) (e : Stmt) (t : TSD) : Prop := PS X e (fun De σ H => LS (cyW X W σ) t De σ H)
abbrev QSsw (X : Cx) (W : WX) (e : List Stmt) (t : TSD) : Prop := PSs X e (fun De σ H => LS (cyW X W σ) t De σ H)
section
variable {X : Cx} {W : WX} {e a b : Expr} {es : List Expr} {te ta tb : TED} {tr tk : TAD} {pos p kpos : Pos} {kws : List Keyword} {nm : Option Str}
theorem w_e (h : ∀ E : XK, QE X E e te) : QEw X W e te := ⟨fun pins s σ H Q I q => (h fun c d H => W c d σ H).run pins s σ H Q I q⟩
theorem w_t {c : Expr} {tc : TTD} (h : ∀ E : XK, QT X E c tc) : QTw X W c tc := ⟨fun pins s σ H Q I q => (h fun c d H => W c d σ H).run pins s σ H Q I q⟩
theorem w_a (h : ∀ E : XK, QA X E es tr) : QAw X W es tr := ⟨fun pos pins s σ H Q I q => (h fun c d H => W c d σ H).run pos pins s σ H Q I q⟩
theorem w_nil : QAw X W [] dNil := w_a fun E => q_nil
theorem w_cons (ha : QEw X W e te) (hr : QAw X W es tr) (hs : starEach (e :: es) X.env = (false, eval e X.env) :: starEach es X.env := by rfl) : QAw X W (e :: es) (dCons te tr) :=
  pa_imp (pa_cons ha hr hs) fun s H Q ⟨sg, al, S, kd, xd, rs, rl, q, up, ux⟩ => ⟨sg, al, S, kCons1 tr sg kd xd, xd, rs, rl, q, fun d S1 al1 H1 v f1 r1 q1 =>
    ⟨sg, al1, S1, kCons2 kd d, xd, f1.rs, f1.rsl rl, q1, fun ds S2 al2 H2 vs f2 r2 q2 => up (d :: ds) S2 al2 H2 (v :: vs) (f1.trans f2) ⟨v, vs, rfl, f2.rd r1, r2⟩ q2, ux.mono f1⟩, ux⟩
theorem w_tup {x1} (h : QAw X W es tr) : QEw X W (.Tuple es x1 pos) (dTup tr) :=
  pe_imp (pe_tup h) fun s H Q ⟨sg, al, S, kd, xd, rs, rl, q, up, ux⟩ => ⟨sg, al, S, kTup kd, xd, rs, rl, q, fun ds S1 al1 H1 vs f1 r1 q1 => ⟨by rw [RDs.length r1]; exact q1.1, fun p hp => by
    have f2 : Fut X.K H1 al1 (upd H1 p (.tup vs)) al1 S1 := Fut.lay f1.rs hp
    exact up (.tup ds) S1 al1 _ (.ref p) (f1.trans f2) ⟨p, vs, rfl, .inl (.inl upd_same), f2.rds r1⟩ q1.2⟩, ux⟩
theorem w_lst (h : QAw X W es tr) : QEw X W (.List es pos) (dLst tr) :=
  pe_imp (pe_lst h) fun s H Q ⟨sg, al, S, kd, xd, rs, rl, q, up, ux⟩ => ⟨sg, al, S, kLst kd, xd, rs, rl, q, fun ds S1 al1 H1 vs f1 r1 q1 => ⟨by rw [RDs.length r1]; exact q1.1, fun p hp =>
    up (.ref S1.length) _ _ _ (.ref p) (f1.trans (new_lst f1.rs hp r1)) (ref_new f1.rs _) q1.2⟩, ux⟩
theorem w_ifE {c : Expr} {t : TTD} (hc : QTw X W c t) (ha : QEw X W a ta) (hb : QEw X W b tb) : QEw X W (.IfExp c a b pos) (dIfE t ta tb) :=
  pe_imp (pe_ifExp hc ha hb) fun s H Q ⟨sg, al, S, kd, xd, rs, rl, q, up, ux⟩ => ⟨sg, al, S, kIfE ta tb sg kd xd, xd, rs, rl, q, fun d S1 al1 H1 f1 q1 =>
    ite_of ⟨fun e => ⟨sg, al1, S1, kd, xd, f1.rs, f1.rsl rl, q1.1 e, up.mono f1, ux.mono f1⟩, fun e => ⟨sg, al1, S1, kd, xd, f1.rs, f1.rsl rl, q1.2 e, up.mono f1, ux.mono f1⟩⟩, ux⟩
variable {k n : Nat} {f : Addr} {fd : FuncData} {ps ks : List Str} {sp : SpD} {x : Str} {idx : List Nat}
theorem w_call (F : FnOk X.prog X.w X.K X.mg X.base (L2.CX X.prog X.w) k f fd ps (LP X.K X.mg n sp)) (hr : Room k X.A) (hg : Gl X x) (hm : X.mg x = some (.ref f)) (hk : PySem.W.keepIn X.K (.ref f) = true) (hb : Binds X.K fd ps []) (tk : Takes X W)
    (ha : QAw X W (e :: es) tr) (hdb : (x == ("__debug__" : Str)) = false := by decide) (he : starEach (e :: es) X.env = (false, eval e X.env) :: starEach es X.env := by rfl) (hpl : (backTo pos (starEach es X.env)).any (·.1) = false := by rfl) :
    QEw X W (.Call (.Name x p) (e :: es) [] pos) (dCall (spN n sp) tr) :=
  pe_imp (pe_callS (E := WE W) F hr hg hm hk hb (fun σ => passAt tk σ) ha hdb he hpl) fun σ H Q ⟨sg, al, S, kd, xd, rs, rl, q, up, ux⟩ => ⟨sg, al, S, kCall (spN n sp) kd xd, xd, rs, rl, q,
    fun ds S1 al1 H1 vs f1 r1 q1 => ⟨by rw [RDs.length r1]; exact q1.1, ds, al1, S1, kd, xd, f1.rs, r1, q1.2, up.mono f1, ux.mono f1⟩, ux⟩
/-- a call by names, at told slots -/
theorem runKw {pins : List (Addr × Obj)} {σ : L2.St} {H : Hp} {s : Shared} {Q : VK} {us ws : List Value} {vs zs : List V} (F : FnOk X.prog X.w X.K X.mg X.base (L2.CX X.prog X.w) k f fd ps (LP X.K X.mg ps.length sp)) (hr : Room k X.A) (hb : KB X.K fd ps n ks idx) (tk : Takes X W)
    (I : Inv X pins σ H s) (r : Vals vs us) (rz : Vals zs ws) (l1 : vs.length = n) (l2 : zs.length = ks.length) (h : LP X.K X.mg ps.length sp (vs ++ pick idx zs) H Q (WE W σ)) : wpAny (model X.prog X.w) X.A (call (.ref f) us (ks.zip ws)) (EP X pins σ Q) X.xe s := by
  have r2 := r.append (pick_vals (idx := idx) rz)
  refine wpAny_call (codeAny_mono (F.run X.A X.stack s H ⟨us, ks.zip ws⟩ (us ++ pick idx ws) (vs ++ pick idx zs) Q (WE W σ) hr I.env0 (hb.to s us ws (r.length.symm.trans l1) (rz.length.symm.trans l2)) r2 h) ?_)
  intro r s' hq
  match r, hq with
  | .error e, hq => exact passAt tk σ pins H s e s' I hq
  | .ok (.ret u), hq => exact I.after hq
  | .ok .next, hq => exact hq.elim
  | .ok .brk, hq => exact hq.elim
  | .ok .cont, hq => exact hq.elim
theorem w_callK (F : FnOk X.prog X.w X.K X.mg X.base (L2.CX X.prog X.w) k f fd ps (LP X.K X.mg ps.length sp)) (hr : Room k X.A) (hg : Gl X x) (hm : X.mg x = some (.ref f)) (hk : PySem.W.keepIn X.K (.ref f) = true) (hb : KB X.K fd ps n ks idx) (tk' : Takes X W)
    (ha : ∀ E : XK, QA X E (e :: es) tr) (hkw : ∀ E : XK, QK X E kws tk) (hall : (backToKw pos (keywordEach kws X.env)).all (·.1.isSome) = true := by rfl) (hks : (backToKw pos (keywordEach kws X.env)).filterMap (·.1) = ks := by rfl) (hdb : (x == ("__debug__" : Str)) = false := by decide) (he : starEach (e :: es) X.env = (false, eval e X.env) :: starEach es X.env := by rfl) (hpl : ((backTo pos (starEach (e :: es) X.env)).any (·.1) || (backToKw pos (keywordEach kws X.env)).any (·.1.isNone)) = false := by rfl) :
    QEw X W (.Call (.Name x p) (e :: es) kws pos) (dCallK (spN ps.length sp) n ks.length idx tr tk) := by
  constructor
  rintro pins s σ H Q I ⟨sg, al, S, kd, xd, rs, rl, q, up, ux⟩
  refine wpAny_Call_Name_kw <| ld_glob I hg hm (PySem.W.callWith_KW (h₀ := X.base) I.ok.mod.kin hk hall (thn ((ha (WE W σ)).run pos pins s σ H (fun vs H1 => ∃ ds al1 S1, Fut X.K H al H1 al1 S1 ∧ RDs X.K H1 al1 ds vs ∧ kCK1 (spN ps.length sp) n ks.length idx tk sg kd xd ds S1) I
    ⟨sg, al, S, _, xd, rs, rl, q, fun ds S1 al1 H1 vs f1 r1 q1 => ⟨ds, al1, S1, f1, r1, q1⟩, ux⟩) fun us s1 ⟨vs, H1, I1, r, ds, al1, S1, f1, r1, q1⟩ => ?_) hpl he) hdb
  refine thn ((hkw (WE W σ)).run pos pins s1 σ H1 (fun zs H2 => ∃ es al2 S2, Fut X.K H1 al1 H2 al2 S2 ∧ RDs X.K H2 al2 es zs ∧ kCK2 (spN ps.length sp) n ks.length idx kd xd ds es S2) I1
    ⟨sg, al1, S1, _, xd, f1.rs, f1.rsl rl, q1, fun es S2 al2 H2 vs f2 r2 q2 => ⟨es, al2, S2, f2, r2, q2⟩, ux.mono f1⟩) fun ws s2 ⟨zs, H2, I2, rz, es, al2, S2, f2, r2, l1, l2, q2⟩ => ⟨I2.kIn, ?_⟩
  rw [hks]
  exact runKw F hr hb tk' I2 r rz (by rw [RDs.length r1]; exact l1) (by rw [RDs.length r2]; exact l2)
    ⟨by rw [RDs.length (RDs.append (f2.rds r1) (pick_rds r2))]; exact q2.1, ds ++ pick idx es, al2, S2, kd, xd, f2.rs, RDs.append (f2.rds r1) (pick_rds r2), q2.2, up.mono (f1.trans f2), ux.mono (f1.trans f2)⟩
theorem w_callK0 (F : FnOk X.prog X.w X.K X.mg X.base (L2.CX X.prog X.w) k f fd ps (LP X.K X.mg ps.length sp)) (hr : Room k X.A) (hg : Gl X x) (hm : X.mg x = some (.ref f)) (hk : PySem.W.keepIn X.K (.ref f) = true) (hb : KB X.K fd ps 0 ks idx) (tk' : Takes X W)
    (hkw : ∀ E : XK, QK X E kws tk) (hall : (backToKw pos (keywordEach kws X.env)).all (·.1.isSome) = true := by rfl) (hks : (backToKw pos (keywordEach kws X.env)).filterMap (·.1) = ks := by rfl) (hdb : (x == ("__debug__" : Str)) = false := by decide) (hpl : ((backTo pos (starEach [] X.env)).any (·.1) || (backToKw pos (keywordEach kws X.env)).any (·.1.isNone)) = false := by rfl) :
    QEw X W (.Call (.Name x p) [] kws pos) (dCallK (spN ps.length sp) 0 ks.length idx dNil tk) := by
  constructor
  rintro pins s σ H Q I ⟨sg, al, S, kd, xd, rs, rl, q, up, ux⟩
  refine wpAny_Call_Name_kw <| ld_glob I hg hm (PySem.W.callWith_KW0 (h₀ := X.base) I.ok.mod.kin hk hall ?_ hpl) hdb
  refine thn ((hkw (WE W σ)).run pos pins s σ H (fun zs H2 => ∃ es al2 S2, Fut X.K H al H2 al2 S2 ∧ RDs X.K H2 al2 es zs ∧ kCK2 (spN ps.length sp) 0 ks.length idx kd xd [] es S2) I
    ⟨sg, al, S, _, xd, rs, rl, q, fun es S2 al2 H2 vs f2 r2 q2 => ⟨es, al2, S2, f2, r2, q2⟩, ux⟩) fun ws s2 ⟨zs, H2, I2, rz, es, al2, S2, f2, r2, l1, l2, q2⟩ => ⟨I2.kIn, ?_⟩
  rw [hks]
  exact runKw F hr hb tk' I2 (vs := []) .nil rz rfl (by rw [RDs.length r2]; exact l2)
    ⟨by have := RDs.length (pick_rds (idx := idx) r2); rw [List.nil_append, this]; exact q2.1, [] ++ pick idx es, al2, S2, kd, xd, f2.rs, pick_rds r2, q2.2, up.mono f2, ux.mono f2⟩
variable {t u : TSD} {st : Stmt} {sa sb : List Stmt}
theorem w_expr (he : QEw X W e te) (hs : swapsWith e none pos.line X.env = pure false := by rfl) : QSw X W (.Expr e pos) (dDrop te) :=
  ps_imp (ps_expr he hs) fun De s H ⟨sg, al, S, Dd, rs, rl, q, ue⟩ => ⟨sg, al, S, kDrop Dd sg, Dd.ex, rs, rl, q, fun d S1 al1 H1 v f1 r1 q1 => ue.nx sg S1 al1 H1 s f1 (f1.rsl rl) q1, ue.ex⟩
theorem w_ret (he : QEw X W e te) : QSw X W (.Return (some e) pos) (dRet te) :=
  ps_imp (ps_ret he) fun De s H ⟨sg, al, S, Dd, rs, rl, q, ue⟩ => ⟨sg, al, S, Dd.rt, Dd.ex, rs, rl, q, ue.rt, ue.ex⟩
theorem w_if {c : Expr} {tc : TTD} (hc : QTw X W c tc) (ha : QSsw X W sa t) (hb : QSsw X W sb u) : QSw X W (.If c sa sb pos) (dIf tc t u) :=
  ps_imp (ps_if hc ha hb) fun De s H ⟨sg, al, S, Dd, rs, rl, q, ue⟩ => ⟨sg, al, S, kIf t u Dd sg, Dd.ex, rs, rl, q, fun c S1 al1 H1 f1 q1 =>
    ite_of ⟨fun e => ⟨sg, al1, S1, Dd, f1.rs, f1.rsl rl, q1.1 e, ue.mono f1⟩, fun e => ⟨sg, al1, S1, Dd, f1.rs, f1.rsl rl, q1.2 e, ue.mono f1⟩⟩, ue.ex⟩
theorem w_set {i : Nat} {x : Str} {pos' : Pos} (hN : X.N.Nodup) (he : QEw X W e te) (hi : X.N[i]? = some x := by rfl) (hx : Loc X.env.scope x := by first | exact Or.inl rfl | exact Or.inr rfl) (hs : swapsWith e (some (.Name x pos')) pos.line X.env = pure false := by rfl)
    (hf : X.fn x = true ∨ X.env.scope.names.lookup x = some .local := by first | exact .inl rfl | exact .inr rfl) : QSw X W (.Assign [.Name x pos'] e pos) (dSet i te) :=
  ps_imp (ps_set hN hi hx he hs hf) fun De s H ⟨sg, al, S, Dd, rs, rl, q, ue⟩ => ⟨sg, al, S, kSet i Dd sg, Dd.ex, rs, rl, q, fun d S1 al1 H1 v f1 r1 q1 => ue.nx _ S1 al1 H1 _ f1 (rsl_set (f1.rsl rl) r1 i) q1, ue.ex⟩
theorem w_one (h : QSw X W st t) : QSsw X W [st] t := pss_one h
theorem w_snil : QSsw X W [] dNext := pss_imp pss_nil fun De s H ⟨sg, al, S, Dd, rs, rl, q, ue⟩ => ue.nx sg S al H s (.now rs) rl q
theorem w_raise {x : Str} {ta : TAD} {p1 p2 : Pos} {fd : FuncData} (hc : X.calm = true) (I : IniT X.prog X.w X.K X.mg X.base fd) (hr : Room 2 X.A) (tk : Takes X W) (hx : exB X.K x = true) (hm : X.mg x = some (.ref (He.ga X.K x)))
    (ha : ∀ E : XK, QA X E (e :: es) ta) (hg : Gl X x := by rfl) (hdb : (x == ("__debug__" : Str)) = false := by decide) (he : starEach (e :: es) X.env = (false, eval e X.env) :: starEach es X.env := by rfl) (hpl : (backTo p2 (starEach es X.env)).any (·.1) = false := by rfl) :
    QSw X W (.Raise (some (.Call (.Name x p1) (e :: es) [] p2)) none pos) (dRaise x ta) := by
  have C := exB_ok hx
  refine ps_imp (ps_raise hc tk (pmk_oex (dvs := []) C.oex C.ini C.tyI I.ok hr I.hb .nil passL hg hm (w_a (W := W) ha) hdb he hpl)) fun De σ H ⟨sg, al, S, Dd, rs, rl, q, ue⟩ => ?_
  refine ⟨sg, al, S, kRaise x Dd, Dd.ex, rs, rl, q, fun ds S1 al1 H1 vs f1 r1 q1 => ?_, ue.ex⟩
  unfold kRaise at q1
  split at q1
  · rename_i d
    obtain ⟨v, u, ev, rv, eu⟩ := r1
    cases (show u = [] from eu)
    subst ev
    refine ⟨by show 1 ≤ 1000; decide, fun a na => ⟨a, He.ga X.K x, v, by simp, C.oex, C.val, upd_same, fun dx nd ne => ⟨rfl, dx, [("value", v)], upd_same, by rw [upd_ne ne, upd_same], by rwa [upd_ne ne] at nd, ?_⟩⟩⟩
    rw [upd_del2 na ne]
    have nd1 : H1 dx = none := by rwa [upd_ne ne] at nd
    have f2 : Fut X.K H1 al1 (upd H1 dx (.xd [("value", v)])) al1 S1 := Fut.lay f1.rs nd1
    exact ue.ex (x, d) S1 al1 _ _ _ (f1.trans f2) ⟨hx, dx, v, rfl, rfl, upd_same, f2.rd rv⟩ q1
  · exact q1.elim
end
/-! ### try -/
structure HdD where
  y : Str
  i : Option Nat
  t : TSD
def clrD (i : Option Nat) (sg : Sl) : Sl := match i with
  | some j => sg.set j none
  | none => sg
def putD' (i : Option Nat) (d : D) (sg : Sl) : Sl := match i with
  | some j => sg.set j (some d)
  | none => sg
def clrM (i : Option Nat) (M : EndsD) : EndsD := ⟨fun sg S => M.nx (clrD i sg) S, M.rt, fun sg S => M.bk (clrD i sg) S, fun sg S => M.ct (clrD i sg) S, XF⟩
def wTry (M : EndsD) (sg : Sl) : List HdD → XD
  | [] => M.ex
  | h :: r => fun ex S => (exSub ex.1 h.y = true → h.t (clrM h.i M) (putD' h.i (.ref S.length) sg) (S ++ [.exo ex.1 ex.2])) ∧ (exSub ex.1 h.y = false → wTry M sg r ex S)
def dTry (t : TSD) (hs : List HdD) : TSD := fun M sg S => t { M with ex := wTry M sg hs } sg S
theorem rsl_clr {K : PySem.W.Frag} {H : Hp} {al : List Addr} {sg : Sl} {sv : L2.St} (r : RSl K H al sg sv) (i : Option Nat) : RSl K H al (clrD i sg) (clr i sv) := by
  cases i with
  | none => exact r
  | some j =>
    refine ⟨by simp [clrD, clr, r.len], fun k d q => ?_⟩
    by_cases e : j = k
    · subst e
      unfold clrD at q
      rw [List.getElem?_set] at q
      simp at q
    · unfold clrD at q
      dsimp only at q
      rw [List.getElem?_set_ne e] at q
      obtain ⟨v, h1, h2⟩ := r.at_ k d q
      refine ⟨v, ?_, h2⟩
      unfold clr
      dsimp only
      rw [List.getElem?_set_ne e]
      exact h1
theorem rsl_put {K : PySem.W.Frag} {H : Hp} {al : List Addr} {sg : Sl} {sv : L2.St} {d : D} {a : Addr} (r : RSl K H al sg sv) (h : RD K H al d (.ref a)) (i : Option Nat) : RSl K H al (putD' i d sg) (put i a sv) := by
  cases i with
  | none => exact r
  | some j => exact rsl_set r h j
inductive HdsQ (X : Cx) : List ExceptHandler → List HdD → Prop
  | nil : HdsQ X [] []
  | cons {h : HdD} {nm : Option Str} {st0 : Stmt} {sts : List Stmt} {p1 p2 : Pos} {hds : List ExceptHandler} {l : List HdD} (hg : Gl X h.y) (hdb : (h.y == ("__debug__" : Str)) = false) (hm : X.mg h.y = some (.ref (He.ga X.K h.y))) (hx : exB X.K h.y = true) (hn : h.y ∈ exNs)
      (hi : (nm = none ∧ h.i = none) ∨ ∃ n j, nm = some n ∧ h.i = some j ∧ X.N[j]? = some n ∧ X.env.kindOf n = some .local)
      (hsu : ∀ (a : Addr) (pn : List (Addr × Obj)), QSs (suiteX X a pn) E0 (st0 :: sts) h.t) (r : HdsQ X hds l) : HdsQ X (.ExceptHandler (some (.Name h.y p1)) nm (st0 :: sts) p2 :: hds) (h :: l)
def hdT (X : Cx) (h : HdD) : HdT := ⟨.ref (He.ga X.K h.y), h.i, fun a cls d De σ H => LS ⟨X.K, X.mg, E0⟩ h.t De σ H⟩
theorem hds_of {X : Cx} {hds : List ExceptHandler} {l : List HdD} (h : HdsQ X hds l) : HdsA X hds (l.map (hdT X)) := by
  induction h with
  | nil => exact .nil
  | cons hg hdb hm hx hn hi hsu r ih => exact .cons (h := hdT X _) ⟨hg, hdb, .inl hm⟩ hi (fun a cls d pn => hsu a pn) ih
theorem hds_sub {X : Cx} {E : XK} {Dd : EndsD} {De : Ends} {sg : Sl} {σ : L2.St} {H0 : Hp} {al0 : List Addr} (ue : UpE (cy X E) H0 al0 Dd De) (rl : RSl X.K H0 al0 sg σ) {hds : List ExceptHandler} {l : List HdD} (h : HdsQ X hds l) :
    ∀ (ex : ExD) (S : Sto) (al : List Addr) (H : Hp) (cls : Value) (d : Option Addr), Fut X.K H0 al0 H al S → ExAt (cy X E) H al ex cls d → wTry Dd sg l ex S → wHd X.K (fun c d _ H => E c d H) De (l.map (hdT X)) cls d σ H := by
  induction h with
  | nil => exact fun ex S al H cls d f xa w => ue.ex ex S al H cls d f xa w
  | @cons h nm st0 sts p1 p2 hds l hg hdb hm hx hn hi hsu r ih =>
    intro ex S al H cls d f xa w
    obtain ⟨xb, dx, v, rfl, rfl, e1, rv⟩ := id xa
    refine ⟨exSub ex.1 h.y, (exB_ok xb).sub _ hn _ (exB_ok hx).ns, fun hb a na => ?_, fun hb => ih ex S al H _ _ f xa (w.2 hb)⟩
    have ne : dx ≠ a := fun z => by
      rw [z, na] at e1
      cases e1
    have f2 : Fut X.K H al (upd H a (ExV (.ref (He.ga X.K ex.1)) (some dx) a)) (al ++ [a]) (S ++ [.exo ex.1 ex.2]) := Fut.push f.rs na ⟨xb, dx, v, upd_same, by rw [upd_ne ne]; exact e1, RD.mono (Keep.laid na) _ _ rv⟩
    refine ⟨_, al ++ [a], _, _, f2.rs, rsl_put ((f.trans f2).rsl rl) (ref_new f.rs _) h.i, w.1 hb, ?_⟩
    have u2 := ue.mono (f.trans f2)
    exact ⟨fun sg' S' al' H' sv' f' r' q => u2.nx _ S' al' H' _ f' (rsl_clr r' h.i) q, u2.rt, fun sg' S' al' H' sv' f' r' q => u2.bk _ S' al' H' _ f' (rsl_clr r' h.i) q, fun sg' S' al' H' sv' f' r' q => u2.ct _ S' al' H' _ f' (rsl_clr r' h.i) q, fun ex' S' al' H' c d f' r' q => q.elim⟩
theorem q_try {X : Cx} {E : XK} {body : List Stmt} {hd0 : ExceptHandler} {hds : List ExceptHandler} {pos : Pos} {t : TSD} {l : List HdD} (hs : X.stack = X.env :: X.outer) (hf : X.env.frame = some X.env.locals) (hex : X.ex = []) (hN : X.N.Nodup) (tk : Takes X (fun c d _ H => E c d H))
    (hb : ∀ (W : WX) (pn : List (Addr × Obj)) (xe : Value → Shared → Prop), Takes (X.tr pn xe) W → QSsw (X.tr pn xe) W body t) (hh : HdsQ X (hd0 :: hds) l) : QS X E (.Try body (hd0 :: hds) [] [] pos) (dTry t l) :=
  ps_imp (ps_tryA (tb := fun W De σ H => LS ⟨X.K, X.mg, fun c d H => W c d σ H⟩ t De σ H) hs hf hex hN tk (fun W pn xe ht _ => hb W pn xe ht) (hds_of hh)) fun De σ H ⟨sg, al, S, Dd, rs, rl, q, ue⟩ =>
    ⟨sg, al, S, { Dd with ex := wTry Dd sg l }, rs, rl, q, ⟨ue.nx, ue.rt, ue.bk, ue.ct, fun ex S' al' H' cls d f xa w => hds_sub ue rl hh ex S' al' H' cls d f xa w⟩⟩
/-! ### e.value -/
def kXv (k : KD) : KD := fun d S => match d with
  | .ref n => ∃ x v, S[n]? = some (.exo x v) ∧ k v S
  | _ => False
def dXv (te : TED) : TED := fun sg S k x => te sg S (kXv k) x
theorem q_xv {X : Cx} {E : XK} {e : Expr} {te : TED} {pos : Pos} (he : QE X E e te) (hb : attributeBase e "value" X.env (eval e X.env) = eval e X.env := by rfl) : QE X E (.Attribute e "value" pos) (dXv te) :=
  pe_imp (pe_xv he hb) fun σ H Q ⟨sg, al, S, kd, xd, rs, rl, q, up, ux⟩ => ⟨sg, al, S, kXv kd, xd, rs, rl, q, fun d S1 al1 H1 v f1 r1 q1 => by
    unfold kXv at q1
    split at q1
    · obtain ⟨x, y, hS, q1⟩ := q1
      obtain ⟨a, rfl, ha⟩ := r1
      obtain ⟨xb, dx, v, e1, e2, rv⟩ := f1.rs.ob _ _ a hS ha
      exact ⟨a, _, dx, _, v, rfl, e1, (exB_ok xb).xf, (exB_ok xb).val, e2, rfl, up.mono f1 y S1 al1 H1 v (.now f1.rs) rv q1⟩
    · exact q1.elim, ux⟩
end Q
namespace Q
open PySem
open Spec PyProof.Rows L2

/-! ### the hook with checks of one's own -/
abbrev Chk : Type := PySem.W.Frag → Bool
def veC : Chk := fun K => match PySem.W.findCls K (.type "ValueError") (.type "type") "__init__" with
  | some (.val (.builtin n)) => n == "ValueError.__init__"
  | _ => false
theorem veC_ok {K : PySem.W.Frag} (h : veC K = true) : PySem.W.findCls K (.type "ValueError") (.type "type") "__init__" = some (.val (.builtin "ValueError.__init__")) := by
  unfold veC at h
  split at h
  · rename_i n e
    rw [e, eq_of_beq h]
  · cases h
abbrev AlC : Type := Bool × AlB
def obsC (cs : List Chk) (bf : List (Str × Value)) (fa : List He.Fa) (fn : List He.DefD) (K : PySem.W.Frag) : AlC := (cs.all fun c => c K, obsB bf fa fn K)
def SaysC (cs : List Chk) (bf : List (Str × Value)) (fa : List He.Fa) (fn : List He.DefD) (K : PySem.W.Frag) : Prop := (cs.all fun c => c K) = true ∧ SaysB bf fa fn K
def obsCG (n : Nat) (cs : List Chk) (bf : List (Str × Value)) (fa : List He.Fa) (fn : List He.DefD) (g : Addr → Option Obj) : AlC := obsC cs bf fa fn (He.frG g (He.asD g n))
def hookC (n : Nat) (cs : List Chk) (bf : List (Str × Value)) (fa : List He.Fa) (fn : List He.DefD) : PySem.W.Hook where
  α := AlC
  obs s := obsCG n cs bf fa fn s.heap.get?
  val _ := (true, true, He.valD fn)
  says _ h := ∃ K : PySem.W.Frag, K.In h ∧ SaysC cs bf fa fn K
  of _ _ e := ⟨_, He.frG_in, congrArg (fun z : AlC => z.1) e, congrArg (fun z : AlC => z.2.1) e, congrArg (fun z : AlC => z.2.2) e⟩
  keeps _ _ _ := fun ⟨K, hK, c⟩ k => ⟨K, PySem.W.Frag.In.keeps hK k, c⟩
theorem obsCG_eq {n : Nat} {cs : List Chk} {bf : List (Str × Value)} {fa : List He.Fa} {fn : List He.DefD} {g : Addr → Option Obj} {s : Shared} (h : ∀ a, g a = s.heap.get? a) : obsCG n cs bf fa fn g = (hookC n cs bf fa fn).obs s :=
  (congrArg (obsCG n cs bf fa fn) (funext h : g = s.heap.get?)).trans rfl
theorem SaysC.chk {cs : List Chk} {bf : List (Str × Value)} {fa : List He.Fa} {fn : List He.DefD} {K : PySem.W.Frag} (c : SaysC cs bf fa fn K) (i : Nat) {p : Chk} (h : cs[i]? = some p := by rfl) : p K = true := List.all_eq_true.mp c.1 p (List.mem_of_getElem? h)
/-- a class's own def -/
def clsDef (i : Nat) : Stmt → Stmt
  | .ClassDef _ _ _ body .. => body.getD i (.Pass ⟨0, 0, 0, 0⟩)
  | s => s
end Q
namespace Q
open PySem
open Spec PyProof.Rows L2

/-! ### len(set(xs)) of any ints -/
section
variable {X : Cx} {E : XK}
def tLenSet (K : PySem.W.Frag) (ta : TE) : TE := fun σ H Q => ta σ H fun x H1 => ∃ (l : Addr) (ns : List Int), x = .ref l ∧ (SqL K H1 l (ns.map V.int) ∨ SqT K H1 l (ns.map V.int)) ∧ ns.length < 1000 ∧ ∀ ms : List Int, ms.Nodup → (∀ i, i ∈ ms ↔ i ∈ ns) → Q (.int ms.length) H1
theorem pe_lenSet {a : Expr} {ta : TE} {p p2 q pos : Pos} (hc : X.calm = true) (hg : Gl X "len") (hm : X.mg "len" = none) (hg2 : Gl X "set") (hm2 : X.mg "set" = none) (ha : PE X a ta)
    (na : starEach [a] X.env = (false, eval a X.env) :: starEach [] X.env := by rfl) : PE X (.Call (.Name "len" p) [.Call (.Name "set" p2) [a] [] q] [] pos) (tLenSet X.K ta) := by
  refine ⟨fun pins s σ H Q I h => Call_ (ld_blt I hg hm boot_len (PyProof.Rows.callWith_builtin1 (PyProof.Rows.args_cons (Call_ (ld_blt I hg2 hm2 boot_set ?_)) rfl) rfl rfl))⟩
  refine PyProof.Rows.callWith_type1 (PyProof.Rows.args_cons (thn (ha.run pins s σ H _ I h) fun v s1 ⟨x, H1, I1, r1, l, ns, ex, hq, h1k, q1⟩ => PyProof.Rows.args_nil ?_) na) na rfl
  subst ex
  cases r1
  have hh := I1.ok.hd hc
  have fin : ∀ (g : Heap) (tk c : Nat), SetR X.w g s1.heap.objs.size (fun j => decide (j ∈ ns)) c → c ≤ ns.length → (∀ b o, s1.heap.get? b = some o → g.get? b = some o) →
      wpAny (model X.prog X.w) X.A (spliced (backTo pos (starEach [] X.env))) (fun vs s₂ => wpAny (model X.prog X.w) X.A (call (.builtin "len") (Value.ref s1.heap.objs.size :: vs)) (EP X pins σ Q) X.xe s₂) X.xe { s1 with heap := g, toks := tk } := fun g tk c R hcn kp => by
    refine PyProof.Rows.args_nil ?_
    have I2 : Inv X pins σ H1 { s1 with heap := g, toks := tk } := I1.kept fun b o e => kp b o e
    obtain ⟨o, es, ep, t, ho, hex, hd, _, nd, hmem, _, hf, hn, _, _⟩ := R
    have q2 := q1 (es.toList.map keyOf) nd fun i => (hmem i).symm.trans decide_eq_true_iff
    rw [List.length_map, Array.length_toList] at q2
    exact call_len_set ho hex hd hf (by omega) ⟨.int es.size, H1, I2.tok _, ⟨_, rfl⟩, q2⟩
  rcases hq with hq | hq
  · obtain ⟨us, rv, pl, _⟩ := I1.list hq
    exact set_of_list ns hh pl.isList (by simpa using ints_of_vals rv) (by unfold scanBound; omega) fin
  · obtain ⟨us, rv, pl, _⟩ := I1.tuple hq
    exact call_set_tupI ns hh (show s1.heap.IsTuple l us.toArray from pl) (by simpa using ints_of_vals rv) (by unfold scanBound; omega) fin
def kLenSet (k : KD) : KD := fun d S => match d with
  | .ref n => ∃ ns : List Int, isL S n (ns.map D.int) ∧ ns.length < 1000 ∧ ∀ ms : List Int, ms.Nodup → (∀ i, i ∈ ms ↔ i ∈ ns) → k (.int ms.length) S
  | .tup ds => ∃ ns : List Int, ds = ns.map D.int ∧ ns.length < 1000 ∧ ∀ ms : List Int, ms.Nodup → (∀ i, i ∈ ms ↔ i ∈ ns) → k (.int ms.length) S
  | _ => False
def dLenSet (te : TED) : TED := fun sg S k x => te sg S (kLenSet k) x
theorem q_lenSet {a : Expr} {te : TED} {p p2 q pos : Pos} (hc : X.calm = true) (hm : X.mg "len" = none) (hm2 : X.mg "set" = none) (ha : QE X E a te) (hg : Gl X "len" := by rfl) (hg2 : Gl X "set" := by rfl)
    (na : starEach [a] X.env = (false, eval a X.env) :: starEach [] X.env := by rfl) : QE X E (.Call (.Name "len" p) [.Call (.Name "set" p2) [a] [] q] [] pos) (dLenSet te) :=
  pe_imp (pe_lenSet hc hg hm hg2 hm2 ha na) fun s H Q ⟨sg, al, S, kd, xd, rs, rl, q, up, ux⟩ => ⟨sg, al, S, kLenSet kd, xd, rs, rl, q, fun d S1 al1 H1 v f1 r1 q1 => by
    unfold kLenSet at q1
    split at q1
    · obtain ⟨ns, hl, hz, q1⟩ := q1
      obtain ⟨l, us, e2, _, h1, rv⟩ := isL_at f1.rs hl r1
      rw [rd_ints rv] at h1
      exact ⟨l, ns, e2, .inl h1, hz, fun ms h2 h3 => up_at (up.mono f1) f1.rs (d := .int ms.length) rfl (q1 ms h2 h3)⟩
    · obtain ⟨ns, e, hz, q1⟩ := q1
      subst e
      obtain ⟨l, us, e2, h1, rv⟩ := r1
      rw [rd_ints rv] at h1
      exact ⟨l, ns, e2, .inr h1, hz, fun ms h2 h3 => up_at (up.mono f1) f1.rs (d := .int ms.length) rfl (q1 ms h2 h3)⟩
    · exact q1.elim, ux⟩
end
/-! ### a comprehension whose test and element may change the store -/
theorem lc_indT {it : ItD} {i : Nat} {tt : TTD} {te : TED} {sg : Sl} {k : KD} {S : Sto} (I : List D → List D → Sto → Prop) (h0 : I it.items [] (S ++ [.lst []])) (hend : ∀ acc T, I [] acc T → it.grd T ∧ k (.ref S.length) T)
    (hs : ∀ d r acc T (kk : KD) (nx : Sto → Prop), I (d :: r) acc T → (∀ y T2, T2[S.length]? = some (.lst acc) → acc.length < sizeLine → I r (acc ++ [y]) (T2.set S.length (.lst (acc ++ [y]))) → kk y T2) → (∀ T2, I r acc T2 → nx T2) →
      it.grd T ∧ tt (sg.set i (some d)) T (fun b T2 => (b = true → te (sg.set i (some d)) T2 kk XF) ∧ (b = false → nx T2)) XF) : kLc (gNm i) tt te sg k it S := by
  have go : ∀ (items acc : List D) (T : Sto), I items acc T → wLc it.grd (gNm i) tt te sg S.length (fun S' => k (.ref S.length) S') items T := by
    intro items
    induction items with
    | nil => exact fun acc T h => hend acc T h
    | cons d r ih =>
      intro acc T h
      have q := hs d r acc T (kLc3 S.length (wLc it.grd (gNm i) tt te sg S.length (fun S' => k (.ref S.length) S') r)) (wLc it.grd (gNm i) tt te sg S.length (fun S' => k (.ref S.length) S') r) h (fun y T2 h1 h2 h3 => ⟨acc, h1, h2, ih _ _ h3⟩) fun T2 h1 => ih _ _ h1
      exact ⟨q.1, q.2⟩
  exact go _ _ _ h0
end Q
namespace Q
open PySem
open Spec PyProof.Rows L2

/-! ### xs.index(i) of a list of ints -/
section
variable {X : Cx} {E : XK}
def rIdx : RMD := fun d ds S k _ => match d, ds with
  | .ref n, [.int i] => ∃ (ns : List Int) (j : Nat), isL S n (ns.map D.int) ∧ ns[j]? = some i ∧ (∀ m : Nat, m < j → ns[m]? ≠ some i) ∧ k (.int j) S
  | _, _ => False
theorem m_idx : MtR X "list.index" (LLm (cy X E) rIdx) := by
  intro pins s σ H x xs v us Q I rx rv ⟨d, ds, al, S, kd, xd, rs, rd, rds, q, up, ux⟩
  unfold rIdx at q
  split at q
  · rename_i n i
    obtain ⟨ns, j, hl, hj, hno, q⟩ := q
    obtain ⟨a, us', e1, ha, hH, r1⟩ := isL_at rs hl rd
    obtain ⟨y, e2, ry⟩ := rds1 rds
    cases (show y = _ from ry)
    rw [rd_ints r1] at hH
    refine mt_index pins s σ H x xs v us Q I rx rv ⟨a, ns.map V.int, .int i, j, .int i, e1, e2, hH, rfl, ?_, by rw [List.getElem?_map, hj]; rfl, ?_, fun m z' hm hz' => ?_, up_at up rs (d := .int j) rfl q⟩
    · rw [List.all_map]
      exact List.all_eq_true.mpr fun _ _ => rfl
    · exact decide_eq_true rfl
    · rw [List.getElem?_map] at hz'
      cases h : ns[m]? with
      | none => rw [h] at hz'; cases hz'
      | some u =>
        rw [h] at hz'
        cases hz'
        exact decide_eq_false fun e => hno m hm (by rw [h, e])
  · exact q.elim
/-- a chain of two comparisons as a test -/
theorem q_tchain {op op' : CmpOp} {r r' : R2D} {a b c : Expr} {ta tb tc : TED} {pos : Pos} (ho : OpR X (compareOp op) (LL2 (cy X E) r)) (ho' : OpR X (compareOp op') (LL2 (cy X E) r')) (ha : QE X E a ta) (hb : QE X E b tb) (hc : QE X E c tc)
    (hm : lastMarks [op, op'] [b, c] = false := by with_unfolding_all rfl) : QT X E (.Compare a [op, op'] [b, c] pos) (dTst (dChain r r' ta tb tc)) :=
  pt_imp (pt_chain ho ho' ha hb hc hm) fun _ _ _ q => chain_red (le_tst q)
end
end Q
namespace Q
open PySem
open Spec PyProof.Rows L2
/-- a comprehension whose parts lay new objects behind the list -/
theorem lc_appG {it : ItD} {g : TGD} {tt : TTD} {te : TED} {sg : Sl} {k : KD} {S : Sto} (st : D → Sl) (p : D → Bool) (f : D → D)
    (hs : ∀ d ∈ it.items, ∀ (T : Sto) (K : Sl → Sto → Prop), K (st d) T → g d sg T K XF)
    (ht : ∀ d ∈ it.items, ∀ (acc : List D) (G : Sto) (kk : Bool → Sto → Prop), (∀ G', kk (p d) (S ++ .lst acc :: G')) → tt (st d) (S ++ .lst acc :: G) kk XF)
    (he : ∀ d ∈ it.items, p d = true → ∀ (acc : List D) (G : Sto) (kk : KD), (∀ G', kk (f d) (S ++ .lst acc :: G')) → te (st d) (S ++ .lst acc :: G) kk XF) (hg : ∀ acc G, it.grd (S ++ .lst acc :: G)) (hl : it.items.length ≤ sizeLine)
    (hk : ∀ G, k (.ref S.length) (S ++ .lst ((it.items.filter p).map f) :: G)) : kLc g tt te sg k it S := by
  have go : ∀ (rest acc : List D) (G : Sto), (∀ d ∈ rest, d ∈ it.items) → acc.length + rest.length ≤ sizeLine → (∀ G, k (.ref S.length) (S ++ .lst (acc ++ (rest.filter p).map f) :: G)) →
      wLc it.grd g tt te sg S.length (fun S' => k (.ref S.length) S') rest (S ++ .lst acc :: G) := by
    intro rest
    induction rest with
    | nil => exact fun acc G _ _ h => ⟨hg acc G, by simpa using h G⟩
    | cons d r ih =>
      intro acc G hm hz h
      rw [List.length_cons] at hz
      have hd := hm d List.mem_cons_self
      have hr : ∀ e ∈ r, e ∈ it.items := fun e he => hm e (List.mem_cons_of_mem _ he)
      refine ⟨hg acc G, hs d hd _ _ (ht d hd acc G _ fun G1 => ⟨fun hp => he d hd hp acc G1 _ fun G2 => ?_, fun hp => ?_⟩)⟩
      · refine ⟨acc, by simp, by omega, ?_⟩
        rw [set_at0]
        refine ih (acc ++ [f d]) G2 hr (by rw [List.length_append, List.length_singleton]; omega) fun G => ?_
        have := h G
        rw [List.filter_cons_of_pos hp, List.map_cons] at this
        rw [List.append_assoc]
        exact this
      · refine ih acc G1 hr (by omega) fun G => ?_
        have := h G
        rwa [List.filter_cons_of_neg (by rw [hp]; decide)] at this
  unfold kLc
  refine go it.items [] [] (fun d hd => hd) (by simpa using hl) fun G => ?_
  rw [List.nil_append]
  exact hk G
/-- .. of a name, with a test -/
theorem lc_appF {it : ItD} {i : Nat} {tt : TTD} {te : TED} {sg : Sl} {k : KD} {S : Sto} (p : D → Bool) (f : D → D)
    (ht : ∀ d ∈ it.items, ∀ (acc : List D) (G : Sto) (kk : Bool → Sto → Prop), (∀ G', kk (p d) (S ++ .lst acc :: G')) → tt (sg.set i (some d)) (S ++ .lst acc :: G) kk XF)
    (he : ∀ d ∈ it.items, p d = true → ∀ (acc : List D) (G : Sto) (kk : KD), (∀ G', kk (f d) (S ++ .lst acc :: G')) → te (sg.set i (some d)) (S ++ .lst acc :: G) kk XF) (hg : ∀ acc G, it.grd (S ++ .lst acc :: G)) (hl : it.items.length ≤ sizeLine)
    (hk : ∀ G, k (.ref S.length) (S ++ .lst ((it.items.filter p).map f) :: G)) : kLc (gNm i) tt te sg k it S :=
  lc_appG (fun d => sg.set i (some d)) p f (fun d hd T K hK => hK) ht he hg hl hk
/-- .. with none -/
theorem lc_appM {it : ItD} {i : Nat} {te : TED} {sg : Sl} {k : KD} {S : Sto} (f : D → D)
    (he : ∀ d ∈ it.items, ∀ (acc : List D) (G : Sto) (kk : KD), (∀ G', kk (f d) (S ++ .lst acc :: G')) → te (sg.set i (some d)) (S ++ .lst acc :: G) kk XF) (hg : ∀ acc G, it.grd (S ++ .lst acc :: G)) (hl : it.items.length ≤ sizeLine)
    (hk : ∀ G, k (.ref S.length) (S ++ .lst (it.items.map f) :: G)) : kLc (gNm i) dYes te sg k it S := by
  refine lc_appF (fun _ => true) f (fun d hd acc G kk h => h G) (fun d hd _ acc G kk h => he d hd acc G kk h) hg hl fun G => ?_
  rw [List.filter_eq_self.mpr (fun _ _ => rfl)]
  exact hk G
theorem lget_two {A G H : Sto} {o : O} {ds : List D} {n : Nat} (h : A.length + (G.length + 1) = n) : lget (A ++ o :: (G ++ .lst ds :: H)) n = some ds := by
  subst h
  rw [lget_at, lget_tl]
  exact lget_at0
theorem lget_in {A G H : Sto} {ds : List D} {n : Nat} (h : A.length + G.length = n) : lget (A ++ (G ++ .lst ds :: H)) n = some ds := by
  subst h
  rw [lget_at]
  exact lget_at0
end Q
namespace Q
open PySem
open Spec PyProof.Rows L2
/-! ### a tuple some times over, perhaps none -/
theorem tuple_mulNone (l : Addr) (items : Array Value) (n : Nat) (dd : Option Addr) (sl : Array (Option Value)) (u : Tok) (hi : items.isEmpty = false) :
    Meets (Builtin.«tuple.__mul__» ⟨[.ref l, .int 0 u], []⟩) (fun _ R s => s.heap.get? l = some { cls := .type "tuple", dict := dd, data := .seq items n, slots := sl } ∧
      R (.ok (.ret (Value.ref s.heap.objs.size))) { s with heap := s.heap.push { cls := Value.type "tuple", data := Data.seq #[] }, toks := s.toks }) :=
  .of_wp fun prog w A R s h => by
    obtain ⟨hp, g, d, tk, os⟩ := s
    obtain ⟨hl, h⟩ := h
    have f1 := AutoSeq1.idx_int
    have c0 : (decide ((0 : Int) < -(2 ^ 63)) || decide ((0 : Int) ≥ 2 ^ 63)) = false := by decide
    have c1 : (items.isEmpty || (0 : Int) == 1) = false := by rw [hi]; rfl
    have c2 : (decide ((0 : Int) ≤ 0) || items.isEmpty) = true := rfl
    wp_walk using wpAny_loadPart' hl
    repeat (first
      | (refine wpAny_ite_false (decide_eq_false (by rw [c0]; exact Bool.false_ne_true)) ?_; wp_walk using wpAny_loadPart' hl)
      | (refine wpAny_ite_false (decide_eq_false (by rw [c1]; exact Bool.false_ne_true)) ?_; wp_walk using wpAny_loadPart' hl)
      | (refine wpAny_ite_true (decide_eq_true (by rw [c2])) ?_; wp_walk using wpAny_loadPart' hl))
    exact ⟨_, rfl, h⟩
section
variable {X : Cx} {E : XK}
theorem op_repT0 : OpR X (binaryOp .Mult) (fun x y H Q => ∃ l xs, x = .ref l ∧ y = .int 0 ∧ SqT X.K H l xs ∧ xs ≠ [] ∧ ∀ p, H p = none → Q (.ref p) (upd H p (.tup []))) := by
  intro pins s σ H x y v u Q I rx ry h
  obtain ⟨l, xs, rfl, rfl, hT, hne, q⟩ := h
  cases rx
  obtain ⟨t, rfl⟩ := ry
  obtain ⟨its, r, ⟨⟨cls, dd, data, sl⟩, ho, hc, n, hd⟩, hs⟩ := I.tuple hT
  simp only at hc hd
  subst hc hd
  have hle : its.length = xs.length := r.length.symm
  have hn : its ≠ [] := fun e => hne (by
    rw [e] at hle
    exact List.eq_nil_of_length_eq_zero hle.symm)
  have hi : its.toArray.isEmpty = false := by
    cases its with
    | nil => exact absurd rfl hn
    | cons a b => rfl
  refine wpAny_binaryOp_repeat_ref (T := "tuple") (U := "int") (by decide) ⟨_, ho, rfl⟩ (fun s' => typeIs_int s' 0 t) noFill_tuple_mul F.fills_int_mul F.slot_int_rmul repeat_tuple F.slot_int_index.lookup
    (call_meets F.slot_int_rmul (typeIs_int s 0 t) F.entry_int_rmul (F.args_int_rmul_2 _ _) (int_rmul_tuple 0 t l its.toArray n dd sl)
      ⟨ho, rfl, ⟨_, ho, rfl⟩, call_meets F.slot_tuple_mul ⟨_, ho, rfl⟩ F.entry_tuple_mul (F.args_tuple_mul_2 _ _) (tuple_mulNone l its.toArray n dd sl t hi) ⟨ho, ?_⟩⟩)
  refine ⟨.ref s.heap.objs.size, _, I.laid (t' := s.toks) (o := .tup []) (fun b ob q => Heap.get?_push_of_some _ q) (Nat.le_refl _) ?_, rfl, q _ (I.hok.fresh (Nat.le_refl _))⟩
  exact ⟨Nat.zero_le _, _, .nil, IsTup.new _ _⟩
def rMulN : R2D := fun d e S k _ => match d, e with
  | .tup xs, .int j => xs ≠ [] ∧ 0 ≤ j ∧ j ≤ 1000 ∧ xs.length ≤ 1000 ∧ k (.tup (List.replicate j.toNat xs).flatten) S
  | _, _ => False
theorem o_mulN : OpR X (binaryOp .Mult) (LL2 (cy X E) rMulN) := by
  intro pins s σ H x y v u Q I rx ry ⟨d, e, al, S, kd, xd, rs, rd, re, q, up, ux⟩
  unfold rMulN at q
  split at q
  · next xs j =>
    obtain ⟨hne, h1, h2, hl, q⟩ := q
    have re2 : y = .int j := re
    obtain ⟨a, vs, ex, h3, r1⟩ := rd
    by_cases hj : j = 0
    · subst hj
      subst re2
      refine op_repT0 pins s σ H x _ v u Q I rx ry ⟨a, vs, ex, rfl, h3, rds_ne r1 hne, fun p hp => up_tup up rs hp (ds := []) (vs := []) rfl ?_⟩
      simpa using q
    · exact o_mulT (E := E) pins s σ H x y v u Q I rx ry ⟨.tup xs, .int j, al, S, kd, xd, rs, ⟨a, vs, ex, h3, r1⟩, re, ⟨hne, by omega, h2, hl, q⟩, up, ux⟩
  · exact q.elim
end
end Q
namespace Q
open PySem
open Spec PyProof.Rows L2
/-! ### dict displays -/
def flatD2 : List (Key × D) → List D
  | [] => []
  | p :: r => keyD p.1 :: p.2 :: flatD2 r
def RPs (K : PySem.W.Frag) (H : Hp) (al : List Addr) : List D → List (V × V) → Prop
  | [], ps => ps = []
  | [_], _ => False
  | a :: b :: r, ps => ∃ x y q, ps = (x, y) :: q ∧ RD K H al a x ∧ RD K H al b y ∧ RPs K H al r q
def putAll (kvs more : List (Key × D)) : List (Key × D) := more.foldl (fun a p => putD a p.1 p.2) kvs
def kDisp (n : Nat) (k : KD) : List D → Sto → Prop := fun ds S => S[n]? = some (.dic []) ∧ ∃ kvs : List (Key × D), ds = flatD2 kvs ∧ kvs.length ≤ 15 ∧ k (.ref n) (S.set n (.dic (putAll [] kvs)))
/-- {k: v, ..}: t reads the keys and values, by turns -/
def dDisp (t : TAD) : TED := fun sg S k x => t sg (S ++ [.dic []]) (kDisp S.length k) x
theorem rps_split {K : PySem.W.Frag} {H : Hp} {al : List Addr} : ∀ {kvs : List (Key × D)} {ps : List (V × V)}, RPs K H al (flatD2 kvs) ps → ∃ vs : List (Key × V), ps = vs.map (fun kv => (kV kv.1, kv.2)) ∧ RKs K H al kvs vs
  | [], _, h => ⟨[], h, rfl⟩
  | p :: r, _, ⟨x, y, q, e, h1, h2, h3⟩ => by
    subst e
    obtain ⟨vs, e2, h4⟩ := rps_split h3
    refine ⟨(p.1, y) :: vs, ?_, ⟨y, vs, rfl, h2, h4⟩⟩
    rw [key_rd h1, e2]
    rfl
theorem rks_putAll {K : PySem.W.Frag} {H : Hp} {al : List Addr} : ∀ {more : List (Key × D)} {mv : List (Key × V)} {kvs : List (Key × D)} {vs : List (Key × V)}, RKs K H al more mv → RKs K H al kvs vs → RKs K H al (putAll kvs more) (mergeK vs mv)
  | [], _, _, _, h, h2 => by
    rw [show _ = [] from h]
    exact h2
  | p :: r, _, kvs, vs, ⟨v, q, e, h1, h2⟩, h3 => by
    subst e
    exact (rks_putAll (more := r) (mv := q) h2 (rks_put h1 h3) : RKs K H al (putAll (putD kvs p.1 p.2) r) (mergeK (putK vs p.1 v) q))
structure QP (X : Cx) (E : XK) (pos : Pos) (ks : List (Option Expr)) (es : List Expr) (t : TAD) : Prop where
  run : ∃ trs, PPs X pos ks es trs ∧ ∀ (s : L2.St) (H : Hp) (sg : Sl) (al : List Addr) (S : Sto) (kd : List D → Sto → Prop) (xd : XD) (Q : List (V × V) → Hp → Prop), RS X.K H al S → RSl X.K H al sg s → t sg S kd xd → UpX ⟨X.K, X.mg, E⟩ H al xd →
    (∀ H1 al1 S1 ds ps, Fut X.K H al H1 al1 S1 → RPs X.K H1 al1 ds ps → kd ds S1 → Q ps H1) → tPairs trs s H Q
section
variable {X : Cx} {E : XK} {pos : Pos} {ks : List (Option Expr)} {es : List Expr} {t : TAD}
theorem qp_nil : QP X E pos [] [] dNil := ⟨[], pps_nil, fun s H sg al S kd xd Q rs rl q ux go => go H al S [] [] (.now rs) rfl q⟩
theorem qp_cons {k v : Expr} {tk tv : TED} (hk : QE X E k tk) (hv : QE X E v tv) (hr : QP X E pos ks es t) : QP X E pos (some k :: ks) (v :: es) (dCons tk (dCons tv t)) := by
  obtain ⟨trs, h1, h2⟩ := hr.run
  refine ⟨(_, _) :: trs, pps_cons hk hv h1, fun s H sg al S kd xd Q rs rl q ux go => ?_⟩
  refine ⟨sg, al, S, kCons1 (dCons tv t) sg kd xd, xd, rs, rl, q, fun d1 S1 al1 H1 v1 f1 r1 q1 => ?_, ux⟩
  refine ⟨sg, al1, S1, kCons1 t sg (kCons2 kd d1) xd, xd, f1.rs, f1.rsl rl, q1, fun d2 S2 al2 H2 v2 f2 r2 q2 => ?_, ux.mono f1⟩
  refine h2 s H2 sg al2 S2 (kCons2 (kCons2 kd d1) d2) xd _ f2.rs ((f1.trans f2).rsl rl) q2 (ux.mono (f1.trans f2)) fun H3 al3 S3 ds ps f3 r3 q3 => ?_
  exact go H3 al3 S3 (d1 :: d2 :: ds) ((v1, v2) :: ps) ((f1.trans f2).trans f3) ⟨v1, v2, ps, rfl, (f2.trans f3).rd r1, f3.rd r2, r3⟩ q3
theorem q_disp (h : QP X E pos ks es t) (hall : ks.all (·.isSome) = true := by rfl) (hl : ks.length = es.length := by rfl) (h0 : ks ≠ [] := by intro z; cases z) (h15 : ks.length ≤ 15 := by decide) : QE X E (.Dict ks es pos) (dDisp t) := by
  obtain ⟨trs, h1, h2⟩ := h.run
  refine pe_imp (pe_disp h1 hall hl h0 h15) fun s H Q ⟨sg, al, S, kd, xd, rs, rl, q, up, ux⟩ => fun p hp => ?_
  have fN : Fut X.K H al (upd H p (.dK [])) (al ++ [p]) (S ++ [.dic []]) := new_dic rs hp rfl
  have aN : (al ++ [p])[S.length]? = some p := by rw [← rs.len]; simp
  refine h2 s _ sg (al ++ [p]) (S ++ [.dic []]) (kDisp S.length kd) xd _ fN.rs (fN.rsl rl) (show t sg (S ++ [.dic []]) (kDisp S.length kd) xd from q) (ux.mono fN) fun H1 al1 S1 ds ps f1 r1 q1 => ?_
  obtain ⟨e1, kvs, e2, l, q2⟩ := q1
  subst e2
  have a1 := getExt f1 aN
  obtain ⟨us, e3, ru⟩ := f1.rs.ob _ _ _ e1 a1
  have eu : us = [] := ru
  subst eu
  obtain ⟨vs, ep, rk⟩ := rps_split r1
  refine ⟨e3, vs, ep, by rw [rks_len rk]; exact l, ?_⟩
  have f2 := set_dic f1.rs e1 a1 (rks_putAll rk (show RKs X.K H1 al1 [] [] from rfl))
  exact up (.ref S.length) _ al1 _ (.ref p) ((fN.trans f1).trans f2) ⟨p, rfl, a1⟩ q2
end
/-! ### repr of data with dicts inside -/
def smC : Chk := fun K => (K.lookup sysModules).isSome
def keyPy : Key → PyData
  | .inl i => .int i
  | .inr x => .str x
/-! the hook that holds the table of modules, too -/
def obsSG (n : Nat) (cs : List Chk) (bf : List (Str × Value)) (fa : List He.Fa) (fn : List He.DefD) (g : Addr → Option Obj) : AlC := obsC cs bf fa fn (He.frG g (He.asD g n ++ [sysModules]))
def hookS (n : Nat) (cs : List Chk) (bf : List (Str × Value)) (fa : List He.Fa) (fn : List He.DefD) : PySem.W.Hook where
  α := AlC
  obs s := obsSG n cs bf fa fn s.heap.get?
  val _ := (true, true, He.valD fn)
  says _ h := ∃ K : PySem.W.Frag, K.In h ∧ SaysC cs bf fa fn K
  of _ _ e := ⟨_, He.frG_in, congrArg (fun z : AlC => z.1) e, congrArg (fun z : AlC => z.2.1) e, congrArg (fun z : AlC => z.2.2) e⟩
  keeps _ _ _ := fun ⟨K, hK, c⟩ k => ⟨K, PySem.W.Frag.In.keeps hK k, c⟩
theorem obsSG_eq {n : Nat} {cs : List Chk} {bf : List (Str × Value)} {fa : List He.Fa} {fn : List He.DefD} {g : Addr → Option Obj} {s : Shared} (h : ∀ a, g a = s.heap.get? a) : obsSG n cs bf fa fn g = (hookS n cs bf fa fn).obs s :=
  (congrArg (obsSG n cs bf fa fn) (funext h : g = s.heap.get?)).trans rfl
mutual
inductive DRy (S : Sto) : D → PyData → Prop
  | non : DRy S .non .none
  | bl (b : Bool) : DRy S (.bl b) (.bool b)
  | int (i : Int) : DRy S (.int i) (.int i)
  | str (x : Str) : DRy S (.str x) (.str x)
  | tup {ds : List D} {ps : List PyData} : DRys S ds ps → DRy S (.tup ds) (.tuple ps)
  | ref {n : Nat} {ds : List D} {ps : List PyData} : S[n]? = some (.lst ds) → DRys S ds ps → DRy S (.ref n) (.list ps)
  | dic {n : Nat} {kvs : List (Key × D)} {ps : List (PyData × PyData)} : S[n]? = some (.dic kvs) → DRks S kvs ps → DRy S (.ref n) (.dict ps)
inductive DRys (S : Sto) : List D → List PyData → Prop
  | nil : DRys S [] []
  | cons {d : D} {ds : List D} {p : PyData} {ps : List PyData} : DRy S d p → DRys S ds ps → DRys S (d :: ds) (p :: ps)
inductive DRks (S : Sto) : List (Key × D) → List (PyData × PyData) → Prop
  | nil : DRks S [] []
  | cons {k : Key} {d : D} {ds : List (Key × D)} {p : PyData} {ps : List (PyData × PyData)} : DRy S d p → DRks S ds ps → DRks S ((k, d) :: ds) ((keyPy k, p) :: ps)
end
section
variable {X : Cx} {pins : List (Addr × Obj)} {σ : L2.St} {H : Hp} {s : Shared} {al : List Addr} {S : Sto}
theorem sm_ne (I : Inv X pins σ H s) (hS : smC X.K = true) {a : Addr} {o : HO} (h : H a = some o) : a ≠ sysModules := fun e => by
  subst e
  obtain ⟨b, hb⟩ := Option.isSome_iff_exists.mp (show (X.K.lookup sysModules).isSome = true from hS)
  have h2 := (I.bs _ _ (I.mod.kin _ _ hb)).2
  rw [h2] at h
  cases h
mutual
theorem DRy.reads (I : Inv X pins σ H s) (hS : smC X.K = true) (rs : RS X.K H al S) : ∀ (p : PyData) (d : D) (v : V) (u : Value), DRy S d p → RD X.K H al d v → RelV v u → ∃ as, Reads s.heap u p as ∧ sysModules ∉ as
  | .none, _, _, _, h, r, q => by
    cases h; cases (show _ = V.non from r); cases q
    exact ⟨_, Reads.none, by simp⟩
  | .bool b, _, _, _, h, r, q => by
    cases h; cases (show _ = V.bl b from r); cases q
    exact ⟨_, Reads.bool b, by simp⟩
  | .int i, _, _, _, h, r, q => by
    cases h; cases (show _ = V.int i from r)
    obtain ⟨t, rfl⟩ := q
    exact ⟨_, Reads.int i t, by simp⟩
  | .str x, _, _, _, h, r, q => by
    cases h; cases (show _ = V.str x from r)
    obtain ⟨t, rfl⟩ := q
    exact ⟨_, Reads.str x t, by simp⟩
  | .tuple ps, _, _, _, h, r, q => by
    cases h with
    | tup hs =>
      obtain ⟨a, vs, e, h1, r1⟩ := r
      subst e
      cases q
      obtain ⟨its, rv, ⟨o, ho, hc, n, hd⟩, _⟩ := I.tuple h1
      obtain ⟨as, hr, hn⟩ := DRys.reads I hS rs ps _ vs its hs r1 rv
      exact ⟨_, Reads.tuple ho hc hd hr, hn⟩
  | .list ps, _, _, _, h, r, q => by
    cases h with
    | ref hl hs =>
      obtain ⟨a, e, ha⟩ := r
      subst e
      cases q
      obtain ⟨vs, e1, r1⟩ := rs.ob _ _ a hl ha
      obtain ⟨its, rv, ⟨o, n, ho, hc, _, hd⟩, _⟩ := I.list (.inl (.inl e1))
      obtain ⟨as, hr, hn⟩ := DRys.reads I hS rs ps _ vs its hs r1 rv
      refine ⟨_, Reads.list ho hc hd hr, fun z => ?_⟩
      rcases List.mem_cons.mp z with z | z
      · exact sm_ne I hS e1 z.symm
      · exact hn z
  | .dict ps, _, _, _, h, r, q => by
    cases h with
    | dic hl hs =>
      obtain ⟨a, e, ha⟩ := r
      subst e
      cases q
      obtain ⟨vs, e1, r1⟩ := rs.ob _ _ a hl ha
      obtain ⟨_, hz, ws, kv, hd⟩ := dk_of I.hok e1
      obtain ⟨bs, pr, hn⟩ := DRks.reads I hS rs ps _ vs ws hs r1 kv
      refine ⟨_, PyProof.V.reads_dictOf (enc := keyPy) (fun k key hk => ?_) hd pr, fun z => ?_⟩
      · rcases keyIs_shape hk with ⟨i, t, rfl, rfl⟩ | ⟨x, t, rfl, rfl⟩
        · exact Reads.int i t
        · exact Reads.str x t
      · rcases List.mem_cons.mp z with z | z
        · rw [← z] at hz
          simp at hz
        · exact hn z
theorem DRys.reads (I : Inv X pins σ H s) (hS : smC X.K = true) (rs : RS X.K H al S) : ∀ (ps : List PyData) (ds : List D) (vs : List V) (us : List Value), DRys S ds ps → RDs X.K H al ds vs → Vals vs us → ∃ as, ReadsAll s.heap us ps as ∧ sysModules ∉ as
  | [], _, _, _, h, r, q => by
    cases h; cases (show _ = [] from r); cases q
    exact ⟨_, ReadsAll.nil, by simp⟩
  | p :: ps, _, _, _, h, r, q => by
    cases h with
    | cons h1 h2 =>
      obtain ⟨v, w, e, r1, r2⟩ := r
      subst e
      cases q with
      | cons q1 q2 =>
        obtain ⟨as, a1, n1⟩ := DRy.reads I hS rs p _ v _ h1 r1 q1
        obtain ⟨bs, a2, n2⟩ := DRys.reads I hS rs ps _ w _ h2 r2 q2
        exact ⟨_, ReadsAll.cons a1 a2, fun z => (List.mem_append.mp z).elim n1 n2⟩
theorem DRks.reads (I : Inv X pins σ H s) (hS : smC X.K = true) (rs : RS X.K H al S) : ∀ (ps : List (PyData × PyData)) (ds : List (Key × D)) (vs : List (Key × V)) (us : List (Key × Value)), DRks S ds ps → RKs X.K H al ds vs → KV vs us → ∃ bs, PyProof.V.PairsRead s.heap keyPy us ps bs ∧ sysModules ∉ bs
  | [], _, _, _, h, r, q => by
    cases h; cases (show _ = [] from r); cases q
    exact ⟨_, PyProof.V.PairsRead.nil, by simp⟩
  | (pk, p) :: ps, _, _, _, h, r, q => by
    cases h with
    | cons h1 h2 =>
      obtain ⟨v, w, e, r1, r2⟩ := r
      subst e
      cases q with
      | @cons _ y _ _ q1 q2 =>
        obtain ⟨y1, y2⟩ := y
        obtain ⟨e1, q1⟩ := q1
        cases e1
        obtain ⟨as, a1, n1⟩ := DRy.reads I hS rs p _ v _ h1 r1 q1
        obtain ⟨bs, a2, n2⟩ := DRks.reads I hS rs ps _ w _ h2 r2 q2
        exact ⟨_, PyProof.V.PairsRead.cons a1 a2, fun z => (List.mem_append.mp z).elim n1 n2⟩
end
end
def spReprD : SpD := fun ds S k _ => ∃ d q, ds = [d] ∧ DRy S d q ∧ flatD d = false ∧ q.showable = true ∧ q.depth ≤ 60 ∧ q.shown.length ≤ sizeLine ∧ k (.str q.shown) S
theorem c_reprD {X : Cx} {E : XK} {k : Nat} (hS : smC X.K = true) (hG : X.A.guards = some []) (hr : Room k X.A) : CallR X (.builtin "repr") (LLs (cy X E) spReprD) := by
  intro pins s σ H xs us Q I r ⟨ds, al, S, kd, xd, rs, rd, ⟨d, q, ed, hd, hf, h1, h3, h4, hk⟩, up, ux⟩
  subst ed
  obtain ⟨v, e, rv⟩ := rds1 rd
  subst e
  obtain ⟨u, eu, ru⟩ := vals1 r
  subst eu
  obtain ⟨as, R, hn⟩ := DRy.reads I hS rs q d v u hd rv ru
  have un := hr.un
  obtain ⟨a, ea⟩ : ∃ a, u = .ref a := by
    cases d with
    | tup ds =>
      obtain ⟨a, vs, e, _⟩ := rv
      subst e
      exact ⟨a, ru⟩
    | ref n =>
      obtain ⟨a, e, _⟩ := rv
      subst e
      exact ⟨a, ru⟩
    | _ => exact nomatch hf
  subst ea
  exact repr_of_reads' R h1 (fun _ => hn) hG (by omega) (fun _ _ e => e) (fun h' u tk kp => ⟨.str q.shown, H, I.kept kp, ⟨u, rfl⟩, up_at up rs (d := .str q.shown) rfl hk⟩) h4
end Q
open Q
local macro_rules | `(tactic| walk_at "dx") => `(tactic| try simp only [dSeq, dDrop, kDrop, dRet, dRetN, dIf, kIf, dNever, dNext, dBreak, dCont, dSet, kSet, dPar, kPar, dPar3, kPar3, dAug, kAug, dAsg, kAsg, gNm, gsNil, gsCons, gTp, gUl, gSb, kGs1, kGs2, rSet, dFor, kFor, dLc, dYes, wipeD, dRaise, kRaise, dTry, wTry, clrM, clrD, putD', dXv, kXv,
  dC, dVar, dUn, dOp, kOp1, kOp2, dTst, kB, dAnd, kAnd, dOr, kOr, dNot, kNot, dAndV, kAndV, dOrV, kOrV, dNotV, kNotV, dIfE, kIfE, dNil, dCons, kCons1, kCons2, dTup, kTup, dLst, kLst, dCall, kCall, spN, dCallK, kCK1, kCK2, pick, dMet, kM1, kM2, isLst, rApp, dSl, kSl1, kSl2, kSl3, rSl, dNoP, dPart, kPart,
  rAdd, rSub, rMul, rMulT, rMulN, rInP, rFdiv, rMod, rPow, rShl, rShr, rAnd, rXor, rNeg, rEq, rNe, rLt, rLe, rGt, rGe, rIs, rIsNot, isNon, rIx, rIsi, rIsi2, isTy, spLen, spInt, spTuple, spAll, spAny, spMax, spMin, spAbs, spList, rIn, rNotIn, rIns, dRevL, kRev, dBack, kBack, dLc2, iEn, kEn, dSrtSet, kSrtSet, dChain, kCh1, kCh2, kCh3, iZp, kZp, dLenNew, dLenSet, kLenSet, kLenNew, dDicE, dDisp, isDic, rDset, dDget, kDg1, kDg2, dDget2, kDh1, kDh2, kDh3, rDget, gDb, kGd1, kGd2, dStp, kSt0, kSt1, kSt2, spSumB, rDin, dBits, kBits, rDnin, spLenD, dAugS, kAs1, kAs2, kAs3, kAs4, rRem, rIdx, spStr, dJoin, kJoin1, kJoin2, rPop1, rPop0, rRev, dDc, dTupRg, kTupRg, dLstRg, kLstRg, iSq, iRg1, kRg1, iRg2, kRg2, rIAdd, endsD,
  isL_iff, atI0, atI1, atI2, get_at0, get_at, List.set_set, List.length_set, lget_at0, lget_at, lget_hd, lget_tl, set_at0, set_at, app1, List.nil_append, List.cons_append, List.length_cons, List.length_nil, List.length_append,
  List.getElem?_cons_zero, List.getElem?_cons_succ, List.set_cons_zero, List.set_cons_succ, List.getElem?_nil, List.filterMap_cons, List.filterMap_nil, List.append_nil,
  Option.some.injEq, O.lst.injEq, exists_eq_left', exists_eq_left, exists_eq', List.cons.injEq, D.int.injEq, D.bl.injEq, D.tup.injEq, D.ref.injEq, D.str.injEq, Int.natCast_inj, true_and, and_true, and_self, Nat.reduceAdd, Nat.zero_add, Bool.not_true, Bool.not_false, reduceCtorEq, forall_const, imp_self, not_true_eq_false, not_false_eq_true, false_implies, true_implies, implies_true, Bool.true_eq_false, Bool.false_eq_true, Bool.true_or, Bool.or_true, Bool.false_or, Bool.or_false, Bool.and_true, Bool.true_and, decide_eq_true_eq, decide_eq_false_iff_not, Bool.not_eq_true', Bool.not_eq_false', decide_true, decide_false, or_false, false_or, exists_false, exists_and_left, and_assoc])
local macro_rules | `(tactic| walk_at "dz") => `(tactic| try simp only [dDrop, kDrop, dRet, dRetN, dIf, kIf, dNever, dNext, dBreak, dCont, dSet, kSet, dPar, kPar, dPar3, kPar3, dAug, kAug, dAsg, kAsg, gNm, gsNil, gsCons, gTp, gUl, gSb, kGs1, kGs2, rSet, dFor, kFor, dLc, dYes, wipeD, dRaise, kRaise, dTry, wTry, clrM, clrD, putD', dXv, kXv,
  dC, dVar, dUn, dOp, kOp1, kOp2, dTst, kB, dAnd, kAnd, dOr, kOr, dNot, kNot, dAndV, kAndV, dOrV, kOrV, dNotV, kNotV, dIfE, kIfE, dNil, dCons, kCons1, kCons2, dTup, kTup, dLst, kLst, dCall, kCall, spN, dCallK, kCK1, kCK2, pick, dMet, kM1, kM2, isLst, rApp, dSl, kSl1, kSl2, kSl3, rSl, dNoP, dPart, kPart,
  rAdd, rSub, rMul, rMulT, rMulN, rInP, rFdiv, rMod, rPow, rShl, rShr, rAnd, rXor, rNeg, rEq, rNe, rLt, rLe, rGt, rGe, rIs, rIsNot, isNon, rIx, rIsi, rIsi2, isTy, spLen, spInt, spTuple, spAll, spAny, spMax, spMin, spAbs, spList, rIn, rNotIn, rIns, dRevL, kRev, dBack, kBack, dLc2, iEn, kEn, dSrtSet, kSrtSet, dChain, kCh1, kCh2, kCh3, iZp, kZp, dLenNew, dLenSet, kLenSet, kLenNew, dDicE, dDisp, isDic, rDset, dDget, kDg1, kDg2, dDget2, kDh1, kDh2, kDh3, rDget, gDb, kGd1, kGd2, dStp, kSt0, kSt1, kSt2, spSumB, rDin, dBits, kBits, rDnin, spLenD, dAugS, kAs1, kAs2, kAs3, kAs4, rRem, rIdx, spStr, dJoin, kJoin1, kJoin2, rPop1, rPop0, rRev, dDc, dTupRg, kTupRg, dLstRg, kLstRg, iSq, iRg1, kRg1, iRg2, kRg2, rIAdd, endsD,
  isL_iff, atI0, atI1, atI2, get_at0, get_at, List.set_set, List.length_set, lget_at0, lget_at, lget_hd, lget_tl, set_at0, set_at, app1, List.nil_append, List.cons_append, List.length_cons, List.length_nil, List.length_append,
  List.getElem?_cons_zero, List.getElem?_cons_succ, List.set_cons_zero, List.set_cons_succ, List.getElem?_nil, List.filterMap_cons, List.filterMap_nil, List.append_nil,
  Option.some.injEq, O.lst.injEq, exists_eq_left', exists_eq_left, exists_eq', List.cons.injEq, D.int.injEq, D.bl.injEq, D.tup.injEq, D.ref.injEq, D.str.injEq, Int.natCast_inj, true_and, and_true, and_self, Nat.reduceAdd, Nat.zero_add, Bool.not_true, Bool.not_false, reduceCtorEq, forall_const, imp_self, not_true_eq_false, not_false_eq_true, false_implies, true_implies, implies_true, Bool.true_eq_false, Bool.false_eq_true, Bool.true_or, Bool.or_true, Bool.false_or, Bool.or_false, Bool.and_true, Bool.true_and, decide_eq_true_eq, decide_eq_false_iff_not, Bool.not_eq_true', Bool.not_eq_false', decide_true, decide_false, or_false, false_or, exists_false, exists_and_left, and_assoc])
namespace Q
open PySem
open Spec PyProof.Rows L2
/-! ### fresh.py: what a value is -/
/-- a value that may be looked at -/
def okD (S : Sto) (d : D) : Prop := ∀ n, d = .ref n → ∃ ds, lget S n = some ds
theorem okD_int {S : Sto} {i : Int} : okD S (.int i) := fun _ e => nomatch e
theorem okD_tup {S : Sto} {ds : List D} : okD S (.tup ds) := fun _ e => nomatch e
theorem okD_app {S : Sto} {d : D} (G : Sto) (h : okD S d) : okD (S ++ G) d := fun n e => by
  obtain ⟨ds, q⟩ := h n e
  exact ⟨ds, lget_app q⟩
def isIntD : D → Bool
  | .int _ => true
  | _ => false
def isNatD : D → Bool
  | .int i => decide (0 ≤ i)
  | _ => false
def isBelowD (m : Int) : D → Bool
  | .int i => decide (0 ≤ i) && decide (i < m)
  | _ => false
def isPairD : D → Bool
  | .tup ds => decide (ds.length = 2)
  | _ => false
def ascB (ns : List Int) : Bool := (List.range (ns.length - 1)).all fun j => decide (ns.getD j 0 < ns.getD (j + 1) 0)
def intD : D → Int
  | .int i => i
  | _ => 0
def isAscD (m : Int) : D → Bool
  | .tup ds => ds.all (isBelowD m) && ascB (ds.map intD)
  | _ => false
def sp_is_integer : SpD := fun ds S k _ => ∃ d, ds = [d] ∧ okD S d ∧ k (.bl (isIntD d)) S
def sp_is_natural : SpD := fun ds S k _ => ∃ d, ds = [d] ∧ okD S d ∧ k (.bl (isNatD d)) S
def sp_is_below : SpD := fun ds S k _ => ∃ d m, ds = [d, .int m] ∧ okD S d ∧ k (.bl (isBelowD m d)) S
def sp_is_pair : SpD := fun ds S k _ => ∃ d, ds = [d] ∧ okD S d ∧ k (.bl (isPairD d)) S
def sp_is_ascending : SpD := fun ds S k _ => ∃ ns : List Int, ds = [.tup (ns.map D.int)] ∧ ns.length ≤ sizeLine ∧ k (.bl (ascB ns)) S
/-- a value whose parts may be looked at -/
def okT (S : Sto) (d : D) : Prop := okD S d ∧ ∀ ds, d = .tup ds → ds.length ≤ sizeLine ∧ ∀ e ∈ ds, okD S e
def sp_is_ascending_below : SpD := fun ds S k _ => ∃ d m, ds = [d, .int m] ∧ okT S d ∧ k (.bl (isAscD m d)) S
/-- is_integer(value); slots: 0 value -/
def t_is_integer : TSD := (dRet (dAndV (dUn (rIsi .int) (dVar 0)) (dNotV (dUn (rIsi .bool) (dVar 0)))))
/-- is_natural(value); slots: 0 value -/
def t_is_natural : TSD := (dRet (dAndV (dCall (spN 1 sp_is_integer) (dCons (dVar 0) dNil)) (dOp rGe (dVar 0) (dC (.int 0)))))
/-- is_below(value, many); slots: 0 value, 1 many -/
def t_is_below : TSD := (dRet (dAndV (dCall (spN 1 sp_is_natural) (dCons (dVar 0) dNil)) (dOp rLt (dVar 0) (dVar 1))))
/-- is_pair(value); slots: 0 value -/
def t_is_pair : TSD := (dRet (dAndV (dUn (rIsi .tuple) (dVar 0)) (dOp rEq (dCall spLen (dCons (dVar 0) dNil)) (dC (.int 2)))))
/-- is_ascending(row); slots: 0 row, 1 at -/
def t_is_ascending : TSD := (dRet (dCall spAll (dCons (dLc (iRg1 (dCons (dOp rSub (dCall spLen (dCons (dVar 0) dNil)) (dC (.int 1))) dNil)) (gNm 1) dYes (dOp rLt (dOp rIx (dVar 0) (dVar 1)) (dOp rIx (dVar 0) (dOp rAdd (dVar 1) (dC (.int 1))))) [1]) dNil)))
/-- is_ascending_below(value, many); slots: 0 value, 1 many, 2 a -/
def t_is_ascending_below : TSD := (dRet (dAndV (dUn (rIsi .tuple) (dVar 0)) (dAndV (dCall spAll (dCons (dLc (iSq (dVar 0)) (gNm 2) dYes (dCall (spN 2 sp_is_below) (dCons (dVar 2) (dCons (dVar 1) dNil))) [2]) dNil)) (dCall (spN 1 sp_is_ascending) (dCons (dVar 0) dNil)))))

local macro_rules | `(tactic| walk_at "dzs") => `(tactic| try simp only [sp_is_integer, sp_is_natural, sp_is_below, sp_is_pair, sp_is_ascending, sp_is_ascending_below, isIntD, isNatD, dDrop, kDrop, dRet, dRetN, dIf, kIf, dNever, dNext, dBreak, dCont, dSet, kSet, dPar, kPar, dPar3, kPar3, dAug, kAug, dAsg, kAsg, gNm, gsNil, gsCons, gTp, gUl, gSb, kGs1, kGs2, rSet, dFor, kFor, dLc, dYes, wipeD, dRaise, kRaise, dTry, wTry, clrM, clrD, putD', dXv, kXv,
  dC, dVar, dUn, dOp, kOp1, kOp2, dTst, kB, dAnd, kAnd, dOr, kOr, dNot, kNot, dAndV, kAndV, dOrV, kOrV, dNotV, kNotV, dIfE, kIfE, dNil, dCons, kCons1, kCons2, dTup, kTup, dLst, kLst, dCall, kCall, spN, dCallK, kCK1, kCK2, pick, dMet, kM1, kM2, isLst, rApp, dSl, kSl1, kSl2, kSl3, rSl, dNoP, dPart, kPart,
  rAdd, rSub, rMul, rMulT, rMulN, rInP, rFdiv, rMod, rPow, rShl, rShr, rAnd, rXor, rNeg, rEq, rNe, rLt, rLe, rGt, rGe, rIs, rIsNot, isNon, rIx, rIsi, rIsi2, isTy, spLen, spInt, spTuple, spAll, spAny, spMax, spMin, spAbs, spList, rIn, rNotIn, rIns, dRevL, kRev, dBack, kBack, dLc2, iEn, kEn, dSrtSet, kSrtSet, dChain, kCh1, kCh2, kCh3, iZp, kZp, dLenNew, dLenSet, kLenSet, kLenNew, dDicE, dDisp, isDic, rDset, dDget, kDg1, kDg2, dDget2, kDh1, kDh2, kDh3, rDget, gDb, kGd1, kGd2, dStp, kSt0, kSt1, kSt2, spSumB, rDin, dBits, kBits, rDnin, spLenD, dAugS, kAs1, kAs2, kAs3, kAs4, rRem, rIdx, spStr, dJoin, kJoin1, kJoin2, rPop1, rPop0, rRev, dDc, dTupRg, kTupRg, dLstRg, kLstRg, iSq, iRg1, kRg1, iRg2, kRg2, rIAdd, endsD,
  isL_iff, atI0, atI1, atI2, get_at0, get_at, List.set_set, List.length_set, lget_at0, lget_at, lget_hd, lget_tl, set_at0, set_at, app1, List.nil_append, List.cons_append, List.length_cons, List.length_nil, List.length_append,
  List.getElem?_cons_zero, List.getElem?_cons_succ, List.set_cons_zero, List.set_cons_succ, List.getElem?_nil, List.filterMap_cons, List.filterMap_nil, List.append_nil,
  Option.some.injEq, O.lst.injEq, exists_eq_left', exists_eq_left, exists_eq', List.cons.injEq, D.int.injEq, D.bl.injEq, D.tup.injEq, D.ref.injEq, D.str.injEq, Int.natCast_inj, true_and, and_true, and_self, Nat.reduceAdd, Nat.zero_add, Bool.not_true, Bool.not_false, reduceCtorEq, forall_const, imp_self, not_true_eq_false, not_false_eq_true, false_implies, true_implies, implies_true, Bool.true_eq_false, Bool.false_eq_true, Bool.true_or, Bool.or_true, Bool.false_or, Bool.or_false, Bool.and_true, Bool.true_and, decide_eq_true_eq, decide_eq_false_iff_not, Bool.not_eq_true', Bool.not_eq_false', decide_true, decide_false, or_false, false_or, exists_false, exists_and_left, and_assoc])
local macro_rules | `(tactic| walk_at "ds") => `(tactic| try simp only [sp_is_integer, sp_is_natural, sp_is_below, sp_is_pair, sp_is_ascending, sp_is_ascending_below, isIntD, isNatD, dSeq, dDrop, kDrop, dRet, dRetN, dIf, kIf, dNever, dNext, dBreak, dCont, dSet, kSet, dPar, kPar, dPar3, kPar3, dAug, kAug, dAsg, kAsg, gNm, gsNil, gsCons, gTp, gUl, gSb, kGs1, kGs2, rSet, dFor, kFor, dLc, dYes, wipeD, dRaise, kRaise, dTry, wTry, clrM, clrD, putD', dXv, kXv,
  dC, dVar, dUn, dOp, kOp1, kOp2, dTst, kB, dAnd, kAnd, dOr, kOr, dNot, kNot, dAndV, kAndV, dOrV, kOrV, dNotV, kNotV, dIfE, kIfE, dNil, dCons, kCons1, kCons2, dTup, kTup, dLst, kLst, dCall, kCall, spN, dCallK, kCK1, kCK2, pick, dMet, kM1, kM2, isLst, rApp, dSl, kSl1, kSl2, kSl3, rSl, dNoP, dPart, kPart,
  rAdd, rSub, rMul, rMulT, rMulN, rInP, rFdiv, rMod, rPow, rShl, rShr, rAnd, rXor, rNeg, rEq, rNe, rLt, rLe, rGt, rGe, rIs, rIsNot, isNon, rIx, rIsi, rIsi2, isTy, spLen, spInt, spTuple, spAll, spAny, spMax, spMin, spAbs, spList, rIn, rNotIn, rIns, dRevL, kRev, dBack, kBack, dLc2, iEn, kEn, dSrtSet, kSrtSet, dChain, kCh1, kCh2, kCh3, iZp, kZp, dLenNew, dLenSet, kLenSet, kLenNew, dDicE, dDisp, isDic, rDset, dDget, kDg1, kDg2, dDget2, kDh1, kDh2, kDh3, rDget, gDb, kGd1, kGd2, dStp, kSt0, kSt1, kSt2, spSumB, rDin, dBits, kBits, rDnin, spLenD, dAugS, kAs1, kAs2, kAs3, kAs4, rRem, rIdx, spStr, dJoin, kJoin1, kJoin2, rPop1, rPop0, rRev, dDc, dTupRg, kTupRg, dLstRg, kLstRg, iSq, iRg1, kRg1, iRg2, kRg2, rIAdd, endsD,
  isL_iff, atI0, atI1, atI2, get_at0, get_at, List.set_set, List.length_set, lget_at0, lget_at, lget_hd, lget_tl, set_at0, set_at, app1, List.nil_append, List.cons_append, List.length_cons, List.length_nil, List.length_append,
  List.getElem?_cons_zero, List.getElem?_cons_succ, List.set_cons_zero, List.set_cons_succ, List.getElem?_nil, List.filterMap_cons, List.filterMap_nil, List.append_nil,
  Option.some.injEq, O.lst.injEq, exists_eq_left', exists_eq_left, exists_eq', List.cons.injEq, D.int.injEq, D.bl.injEq, D.tup.injEq, D.ref.injEq, D.str.injEq, Int.natCast_inj, true_and, and_true, and_self, Nat.reduceAdd, Nat.zero_add, Bool.not_true, Bool.not_false, reduceCtorEq, forall_const, imp_self, not_true_eq_false, not_false_eq_true, false_implies, true_implies, implies_true, Bool.true_eq_false, Bool.false_eq_true, Bool.true_or, Bool.or_true, Bool.false_or, Bool.or_false, Bool.and_true, Bool.true_and, decide_eq_true_eq, decide_eq_false_iff_not, Bool.not_eq_true', Bool.not_eq_false', decide_true, decide_false, or_false, false_or, exists_false, exists_and_left, and_assoc])
theorem k_is_integer : Keeps 1 1 t_is_integer sp_is_integer := by
  intro ds S k x hl cS cd h
  obtain ⟨d, rfl, hd, h⟩ := h
  show t_is_integer (endsD S.length k x) [some d] S
  have h' := wk_now (n := S.length) h
  cases d with
  | ref n =>
    obtain ⟨xs, hx⟩ := hd n rfl
    simp only [t_is_integer]
    walk_at "dx"
    simp only [tyR_of hx, Option.some.injEq, exists_eq_left', isTy]
    exact ⟨fun z => (nomatch z), fun _ => h'⟩
  | _ => simp only [t_is_integer]; walk_at "dx"; exact h'
theorem k_is_natural : Keeps 1 1 t_is_natural sp_is_natural := by
  intro ds S k x hl cS cd h
  obtain ⟨d, rfl, hd, h⟩ := h
  show t_is_natural (endsD S.length k x) [some d] S
  have h' := wk_now (n := S.length) h
  simp only [t_is_natural]
  walk_at "dx"
  refine ⟨d, rfl, hd, ?_⟩
  cases d <;> (simp only [isIntD]; walk_at "dx"; simpa [isNatD] using h')
theorem k_is_below : Keeps 2 2 t_is_below sp_is_below := by
  intro ds S k x hl cS cd h
  obtain ⟨d, m, rfl, hd, h⟩ := h
  show t_is_below (endsD S.length k x) [some d, some (.int m)] S
  have h' := wk_now (n := S.length) h
  simp only [t_is_below]
  walk_at "dx"
  refine ⟨d, rfl, hd, ?_⟩
  cases d with
  | int i =>
    simp only [isNatD]
    walk_at "dx"
    refine ⟨fun h0 => ?_, fun h0 => ?_⟩
    · simpa [isBelowD, h0] using h'
    · simpa [isBelowD, h0] using h'
  | _ => simp only [isNatD]; walk_at "dx"; simpa [isBelowD] using h'
theorem k_is_pair : Keeps 1 1 t_is_pair sp_is_pair := by
  intro ds S k x hl cS cd h
  obtain ⟨d, rfl, hd, h⟩ := h
  show t_is_pair (endsD S.length k x) [some d] S
  have h' := wk_now (n := S.length) h
  simp only [t_is_pair]
  cases d with
  | ref n =>
    obtain ⟨xs, hx⟩ := hd n rfl
    walk_at "dx"
    simp only [tyR_of hx, Option.some.injEq, exists_eq_left', isTy]
    exact ⟨fun z => (nomatch z), fun _ => h'⟩
  | tup ds =>
    walk_at "dx"
    have e : decide ((ds.length : Int) = 2) = isPairD (.tup ds) := by
      show _ = decide (ds.length = 2)
      rw [decide_eq_decide]
      omega
    rw [e]
    exact h'
  | _ => walk_at "dx"; simpa [isPairD] using h'
theorem getD_int {ns : List Int} {j : Nat} (h : j < ns.length) : (ns.map D.int)[j]? = some (.int (ns.getD j 0)) := by
  rw [List.getElem?_map, List.getD_eq_getElem?_getD, List.getElem?_eq_getElem h]
  rfl
theorem k_is_ascending : Keeps 1 2 t_is_ascending sp_is_ascending := by
  intro ds S k x hl cS cd h
  obtain ⟨ns, rfl, hz, h⟩ := h
  have hz' := hz
  rw [sl16] at hz'
  show t_is_ascending (endsD S.length k x) [some (.tup (ns.map D.int)), none] S
  simp only [t_is_ascending]
  walk_at "dx"
  rw [List.length_map]
  refine ⟨by omega, by omega, lc_map (fun d => .bl (decide (ns.getD (intD d).toNat 0 < ns.getD ((intD d).toNat + 1) 0))) (fun d hd acc kk hk => ?_) (fun _ => trivial) (by simp; rw [sl16]; omega) ?_⟩
  · obtain ⟨j, hj, rfl⟩ := List.mem_map.mp hd
    have hj := List.mem_range.mp hj
    have hj : j + 1 < ns.length := by omega
    have a1 := atI_nat (getD_int (show j < ns.length by omega))
    have a2 : atI (ns.map D.int) ((j : Int) + 1) = _ := atI_nat (j := j + 1) (getD_int hj)
    simp only [Int.zero_add, intD, Int.toNat_natCast] at hk
    simp only [Int.zero_add]
    walk_at "dx"
    simp only [a1, a2, Option.some.injEq, exists_eq_left']
    exact hk
  · walk_at "dx"
    refine ⟨(List.range (ns.length - 1)).map fun j => decide (ns.getD j 0 < ns.getD (j + 1) 0), ?_, ?_⟩
    · rw [List.map_map, List.map_map, show ((ns.length : Int) - 1).toNat = ns.length - 1 by omega]
      refine List.map_congr_left fun j _ => ?_
      simp [intD]
    · rw [List.all_map]
      exact wk_drop rfl cS trivial h
theorem ints_of {m : Int} : ∀ {ds : List D}, ds.all (isBelowD m) = true → (ds.map intD).map D.int = ds
  | [], _ => rfl
  | d :: ds, h => by
    rw [List.all_cons, Bool.and_eq_true] at h
    rw [List.map_cons, List.map_cons, ints_of h.2]
    cases d with
    | int i => rfl
    | _ => exact absurd h.1 Bool.false_ne_true
theorem k_is_ascending_below : Keeps 2 3 t_is_ascending_below sp_is_ascending_below := by
  intro ds S k x hl cS cd h
  obtain ⟨d, m, rfl, ⟨hd, hT⟩, h⟩ := h
  show t_is_ascending_below (endsD S.length k x) [some d, some (.int m), none] S
  have h' := wk_now (n := S.length) h
  simp only [t_is_ascending_below]
  cases d with
  | ref n =>
    obtain ⟨xs, hx⟩ := hd n rfl
    walk_at "dx"
    simp only [tyR_of hx, Option.some.injEq, exists_eq_left', isTy]
    exact ⟨fun z => (nomatch z), fun _ => h'⟩
  | tup ds =>
    obtain ⟨hz, he⟩ := hT ds rfl
    walk_at "dx"
    refine lc_map (fun d => .bl (isBelowD m d)) (fun d hd acc kk hk => ?_) (fun _ => trivial) hz ?_
    · walk_at "dx"
      exact ⟨d, m, rfl, okD_app _ (he d hd), hk⟩
    · walk_at "dx"
      refine ⟨ds.map (isBelowD m), by rw [List.map_map]; rfl, ?_⟩
      have e1 : (ds.map (isBelowD m)).all id = ds.all (isBelowD m) := by rw [List.all_map]; rfl
      rw [e1]
      refine ⟨fun q => ?_, fun q => ?_⟩
      · refine ⟨ds.map intD, by rw [ints_of q], by simpa using hz, wk_drop rfl cS trivial ?_⟩
        simpa [isAscD, q] using h
      · refine wk_drop rfl cS trivial ?_
        simpa [isAscD, q] using h
  | _ => walk_at "dx"; simpa [isAscD] using h'
end Q
open Q
local macro_rules | `(tactic| walk_at "dx") => `(tactic| try simp only [dSeq, dDrop, kDrop, dRet, dRetN, dIf, kIf, dNever, dNext, dBreak, dCont, dSet, kSet, dPar, kPar, dPar3, kPar3, dAug, kAug, dAsg, kAsg, gNm, gsNil, gsCons, gTp, gUl, gSb, kGs1, kGs2, rSet, dFor, kFor, dLc, dYes, wipeD, dRaise, kRaise, dTry, wTry, clrM, clrD, putD', dXv, kXv,
  dC, dVar, dUn, dOp, kOp1, kOp2, dTst, kB, dAnd, kAnd, dOr, kOr, dNot, kNot, dAndV, kAndV, dOrV, kOrV, dNotV, kNotV, dIfE, kIfE, dNil, dCons, kCons1, kCons2, dTup, kTup, dLst, kLst, dCall, kCall, spN, dCallK, kCK1, kCK2, pick, dMet, kM1, kM2, isLst, rApp, dSl, kSl1, kSl2, kSl3, rSl, dNoP, dPart, kPart,
  rAdd, rSub, rMul, rMulT, rMulN, rInP, rFdiv, rMod, rPow, rShl, rShr, rAnd, rXor, rNeg, rEq, rNe, rLt, rLe, rGt, rGe, rIs, rIsNot, isNon, rIx, rIsi, rIsi2, isTy, spLen, spInt, spTuple, spAll, spAny, spMax, spMin, spAbs, spList, rIn, rNotIn, rIns, dRevL, kRev, dBack, kBack, dLc2, iEn, kEn, dSrtSet, kSrtSet, dChain, kCh1, kCh2, kCh3, iZp, kZp, dLenNew, dLenSet, kLenSet, kLenNew, dDicE, dDisp, isDic, rDset, dDget, kDg1, kDg2, dDget2, kDh1, kDh2, kDh3, rDget, gDb, kGd1, kGd2, dStp, kSt0, kSt1, kSt2, spSumB, rDin, dBits, kBits, rDnin, spLenD, dAugS, kAs1, kAs2, kAs3, kAs4, rRem, rIdx, spStr, dJoin, kJoin1, kJoin2, rPop1, rPop0, rRev, dDc, dTupRg, kTupRg, dLstRg, kLstRg, iSq, iRg1, kRg1, iRg2, kRg2, rIAdd, endsD,
  isL_iff, atI0, atI1, atI2, get_at0, get_at, List.set_set, List.length_set, lget_at0, lget_at, lget_hd, lget_tl, set_at0, set_at, app1, List.nil_append, List.cons_append, List.length_cons, List.length_nil, List.length_append,
  List.getElem?_cons_zero, List.getElem?_cons_succ, List.set_cons_zero, List.set_cons_succ, List.getElem?_nil, List.filterMap_cons, List.filterMap_nil, List.append_nil,
  Option.some.injEq, O.lst.injEq, exists_eq_left', exists_eq_left, exists_eq', List.cons.injEq, D.int.injEq, D.bl.injEq, D.tup.injEq, D.ref.injEq, D.str.injEq, Int.natCast_inj, true_and, and_true, and_self, Nat.reduceAdd, Nat.zero_add, Bool.not_true, Bool.not_false, reduceCtorEq, forall_const, imp_self, not_true_eq_false, not_false_eq_true, false_implies, true_implies, implies_true, Bool.true_eq_false, Bool.false_eq_true, Bool.true_or, Bool.or_true, Bool.false_or, Bool.or_false, Bool.and_true, Bool.true_and, decide_eq_true_eq, decide_eq_false_iff_not, Bool.not_eq_true', Bool.not_eq_false', decide_true, decide_false, or_false, false_or, exists_false, exists_and_left, and_assoc])
local macro_rules | `(tactic| walk_at "dz") => `(tactic| try simp only [dDrop, kDrop, dRet, dRetN, dIf, kIf, dNever, dNext, dBreak, dCont, dSet, kSet, dPar, kPar, dPar3, kPar3, dAug, kAug, dAsg, kAsg, gNm, gsNil, gsCons, gTp, gUl, gSb, kGs1, kGs2, rSet, dFor, kFor, dLc, dYes, wipeD, dRaise, kRaise, dTry, wTry, clrM, clrD, putD', dXv, kXv,
  dC, dVar, dUn, dOp, kOp1, kOp2, dTst, kB, dAnd, kAnd, dOr, kOr, dNot, kNot, dAndV, kAndV, dOrV, kOrV, dNotV, kNotV, dIfE, kIfE, dNil, dCons, kCons1, kCons2, dTup, kTup, dLst, kLst, dCall, kCall, spN, dCallK, kCK1, kCK2, pick, dMet, kM1, kM2, isLst, rApp, dSl, kSl1, kSl2, kSl3, rSl, dNoP, dPart, kPart,
  rAdd, rSub, rMul, rMulT, rMulN, rInP, rFdiv, rMod, rPow, rShl, rShr, rAnd, rXor, rNeg, rEq, rNe, rLt, rLe, rGt, rGe, rIs, rIsNot, isNon, rIx, rIsi, rIsi2, isTy, spLen, spInt, spTuple, spAll, spAny, spMax, spMin, spAbs, spList, rIn, rNotIn, rIns, dRevL, kRev, dBack, kBack, dLc2, iEn, kEn, dSrtSet, kSrtSet, dChain, kCh1, kCh2, kCh3, iZp, kZp, dLenNew, dLenSet, kLenSet, kLenNew, dDicE, dDisp, isDic, rDset, dDget, kDg1, kDg2, dDget2, kDh1, kDh2, kDh3, rDget, gDb, kGd1, kGd2, dStp, kSt0, kSt1, kSt2, spSumB, rDin, dBits, kBits, rDnin, spLenD, dAugS, kAs1, kAs2, kAs3, kAs4, rRem, rIdx, spStr, dJoin, kJoin1, kJoin2, rPop1, rPop0, rRev, dDc, dTupRg, kTupRg, dLstRg, kLstRg, iSq, iRg1, kRg1, iRg2, kRg2, rIAdd, endsD,
  isL_iff, atI0, atI1, atI2, get_at0, get_at, List.set_set, List.length_set, lget_at0, lget_at, lget_hd, lget_tl, set_at0, set_at, app1, List.nil_append, List.cons_append, List.length_cons, List.length_nil, List.length_append,
  List.getElem?_cons_zero, List.getElem?_cons_succ, List.set_cons_zero, List.set_cons_succ, List.getElem?_nil, List.filterMap_cons, List.filterMap_nil, List.append_nil,
  Option.some.injEq, O.lst.injEq, exists_eq_left', exists_eq_left, exists_eq', List.cons.injEq, D.int.injEq, D.bl.injEq, D.tup.injEq, D.ref.injEq, D.str.injEq, Int.natCast_inj, true_and, and_true, and_self, Nat.reduceAdd, Nat.zero_add, Bool.not_true, Bool.not_false, reduceCtorEq, forall_const, imp_self, not_true_eq_false, not_false_eq_true, false_implies, true_implies, implies_true, Bool.true_eq_false, Bool.false_eq_true, Bool.true_or, Bool.or_true, Bool.false_or, Bool.or_false, Bool.and_true, Bool.true_and, decide_eq_true_eq, decide_eq_false_iff_not, Bool.not_eq_true', Bool.not_eq_false', decide_true, decide_false, or_false, false_or, exists_false, exists_and_left, and_assoc])
namespace Q
open PySem
open Spec PyProof.Rows L2
/-! ### fresh.py, words.py -/
def bitsFrom (p : Nat) : Nat → Nat → List Nat
  | 0, _ => []
  | fuel + 1, r => if r = 0 then [] else if r % 2 = 1 then p :: bitsFrom (p + 1) fuel (r / 2) else bitsFrom (p + 1) fuel (r / 2)
/-- the places of the bits of a word -/
def bitsN (n : Nat) : List Nat := bitsFrom 0 n n
def intsN (l : List Nat) : List D := l.map fun i : Nat => D.int (i : Int)
theorem pds_ints (n : Nat) : ∀ l : List Nat, pds n (intsN l) = true
  | [] => rfl
  | a :: l => by
    show (pd n (.int a) && pds n (intsN l)) = true
    rw [pds_ints n l]
    cases n <;> rfl
def sp_bits_of : SpD := fun ds S k _ => ∃ n : Nat, ds = [.int n] ∧ n < 2 ^ 100000 ∧ k (.tup (intsN (bitsN n))) S
def sp_check_word : SpD := fun ds S k _ => ∃ n : Nat, ds = [.int n] ∧ k .non S
def sp_check_wide : SpD := fun ds S k _ => ∃ n : Nat, ds = [.int n] ∧ 1 ≤ n ∧ k .non S
def sp_added : SpD := fun ds S k _ => ∃ m n : Nat, ds = [.int m, .int n] ∧ k (.int ((m ^^^ n : Nat) : Int)) S
def sp_bits : SpD := sp_bits_of
/-- the least width -/
def widthN (n : Nat) : Nat := if n = 0 then 1 else n.log2 + 1
def sp_width_of : SpD := fun ds S k _ => ∃ n : Nat, ds = [.int n] ∧ n < 2 ^ 100000 ∧ k (.int (widthN n)) S
def sp_width : SpD := sp_width_of
def isWordD (w : Nat) : D → Bool
  | .int i => decide (0 ≤ i ∧ i < 2 ^ w)
  | _ => false
def sp_is_word_of : SpD := fun ds S k _ => ∃ (w : Nat) (d : D), ds = [.int w, d] ∧ okD S d ∧ 1 ≤ w ∧ (∀ i, d = .int i → i < 2 ^ 100000) ∧ k (.bl (isWordD w d)) S
def sp_is_word : SpD := sp_is_word_of
/-- bits_of(a); slots: 0 a, 1 found, 2 place, 3 rest -/
def t_bits_of : TSD := (dSeq (dPar3 1 2 3 (dCons (dLst dNil) (dCons (dC (.int 0)) (dCons (dVar 0) dNil)))) (dSeq (dWhile (dTst (dOp rGt (dVar 3) (dC (.int 0)))) (dSeq (dIf (dTst (dOp rEq (dOp rMod (dVar 3) (dC (.int 2))) (dC (.int 1)))) (dDrop (dMet rApp (dVar 1) (dCons (dVar 2) dNil))) dNext) (dPar 3 2 (dCons (dOp rFdiv (dVar 3) (dC (.int 2))) (dCons (dOp rAdd (dVar 2) (dC (.int 1))) dNil))))) (dRet (dCall spTuple (dCons (dVar 1) dNil)))))
/-- check_word(a); slots: 0 a -/
def t_check_word : TSD := (dIf (dNot (dTst (dCall (spN 1 sp_is_natural) (dCons (dVar 0) dNil)))) (dRaise "InvalidWord" (dCons (dVar 0) dNil)) dNext)
/-- check_wide(w); slots: 0 w -/
def t_check_wide : TSD := (dIf (dOr (dNot (dTst (dCall (spN 1 sp_is_integer) (dCons (dVar 0) dNil)))) (dTst (dOp rLt (dVar 0) (dC (.int 1))))) (dRaise "InvalidNumber" (dCons (dVar 0) dNil)) dNext)
/-- added(a, b); slots: 0 a, 1 b -/
def t_added : TSD := (dSeq (dDrop (dCall (spN 1 sp_check_word) (dCons (dVar 0) dNil))) (dSeq (dDrop (dCall (spN 1 sp_check_word) (dCons (dVar 1) dNil))) (dRet (dOp rXor (dVar 0) (dVar 1)))))
/-- bits(a); slots: 0 a -/
def t_bits : TSD := (dSeq (dDrop (dCall (spN 1 sp_check_word) (dCons (dVar 0) dNil))) (dRet (dCall (spN 1 sp_bits_of) (dCons (dVar 0) dNil))))
/-- width_of(a); slots: 0 a, 1 places -/
def t_width_of : TSD := (dSeq (dSet 1 (dCall (spN 1 sp_bits_of) (dCons (dVar 0) dNil))) (dRet (dIfE (dTst (dOp rNe (dVar 1) (dTup dNil))) (dOp rAdd (dOp rIx (dVar 1) (dUn rNeg (dC (.int 1)))) (dC (.int 1))) (dC (.int 1)))))
/-- width(a); slots: 0 a -/
def t_width : TSD := (dSeq (dDrop (dCall (spN 1 sp_check_word) (dCons (dVar 0) dNil))) (dRet (dCall (spN 1 sp_width_of) (dCons (dVar 0) dNil))))
/-- is_word_of(w, told); slots: 0 w, 1 told -/
def t_is_word_of : TSD := (dRet (dAndV (dCall (spN 1 sp_is_natural) (dCons (dVar 1) dNil)) (dOp rLe (dCall (spN 1 sp_width_of) (dCons (dVar 1) dNil)) (dVar 0))))
/-- is_word(w, told); slots: 0 w, 1 told -/
def t_is_word : TSD := (dSeq (dDrop (dCall (spN 1 sp_check_wide) (dCons (dVar 0) dNil))) (dRet (dCall (spN 2 sp_is_word_of) (dCons (dVar 0) (dCons (dVar 1) dNil)))))

local macro_rules | `(tactic| walk_at "dzs") => `(tactic| try simp only [sp_is_integer, sp_is_natural, sp_bits_of, sp_check_word, sp_check_wide, sp_added, sp_bits, sp_width_of, sp_width, sp_is_word_of, sp_is_word, isIntD, isNatD, dDrop, kDrop, dRet, dRetN, dIf, kIf, dNever, dNext, dBreak, dCont, dSet, kSet, dPar, kPar, dPar3, kPar3, dAug, kAug, dAsg, kAsg, gNm, gsNil, gsCons, gTp, gUl, gSb, kGs1, kGs2, rSet, dFor, kFor, dLc, dYes, wipeD, dRaise, kRaise, dTry, wTry, clrM, clrD, putD', dXv, kXv,
  dC, dVar, dUn, dOp, kOp1, kOp2, dTst, kB, dAnd, kAnd, dOr, kOr, dNot, kNot, dAndV, kAndV, dOrV, kOrV, dNotV, kNotV, dIfE, kIfE, dNil, dCons, kCons1, kCons2, dTup, kTup, dLst, kLst, dCall, kCall, spN, dCallK, kCK1, kCK2, pick, dMet, kM1, kM2, isLst, rApp, dSl, kSl1, kSl2, kSl3, rSl, dNoP, dPart, kPart,
  rAdd, rSub, rMul, rMulT, rMulN, rInP, rFdiv, rMod, rPow, rShl, rShr, rAnd, rXor, rNeg, rEq, rNe, rLt, rLe, rGt, rGe, rIs, rIsNot, isNon, rIx, rIsi, rIsi2, isTy, spLen, spInt, spTuple, spAll, spAny, spMax, spMin, spAbs, spList, rIn, rNotIn, rIns, dRevL, kRev, dBack, kBack, dLc2, iEn, kEn, dSrtSet, kSrtSet, dChain, kCh1, kCh2, kCh3, iZp, kZp, dLenNew, dLenSet, kLenSet, kLenNew, dDicE, dDisp, isDic, rDset, dDget, kDg1, kDg2, dDget2, kDh1, kDh2, kDh3, rDget, gDb, kGd1, kGd2, dStp, kSt0, kSt1, kSt2, spSumB, rDin, dBits, kBits, rDnin, spLenD, dAugS, kAs1, kAs2, kAs3, kAs4, rRem, rIdx, spStr, dJoin, kJoin1, kJoin2, rPop1, rPop0, rRev, dDc, dTupRg, kTupRg, dLstRg, kLstRg, iSq, iRg1, kRg1, iRg2, kRg2, rIAdd, endsD,
  isL_iff, atI0, atI1, atI2, get_at0, get_at, List.set_set, List.length_set, lget_at0, lget_at, lget_hd, lget_tl, set_at0, set_at, app1, List.nil_append, List.cons_append, List.length_cons, List.length_nil, List.length_append,
  List.getElem?_cons_zero, List.getElem?_cons_succ, List.set_cons_zero, List.set_cons_succ, List.getElem?_nil, List.filterMap_cons, List.filterMap_nil, List.append_nil,
  Option.some.injEq, O.lst.injEq, exists_eq_left', exists_eq_left, exists_eq', List.cons.injEq, D.int.injEq, D.bl.injEq, D.tup.injEq, D.ref.injEq, D.str.injEq, Int.natCast_inj, true_and, and_true, and_self, Nat.reduceAdd, Nat.zero_add, Bool.not_true, Bool.not_false, reduceCtorEq, forall_const, imp_self, not_true_eq_false, not_false_eq_true, false_implies, true_implies, implies_true, Bool.true_eq_false, Bool.false_eq_true, Bool.true_or, Bool.or_true, Bool.false_or, Bool.or_false, Bool.and_true, Bool.true_and, decide_eq_true_eq, decide_eq_false_iff_not, Bool.not_eq_true', Bool.not_eq_false', decide_true, decide_false, or_false, false_or, exists_false, exists_and_left, and_assoc])
local macro_rules | `(tactic| walk_at "ds") => `(tactic| try simp only [sp_is_integer, sp_is_natural, sp_bits_of, sp_check_word, sp_check_wide, sp_added, sp_bits, sp_width_of, sp_width, sp_is_word_of, sp_is_word, isIntD, isNatD, dSeq, dDrop, kDrop, dRet, dRetN, dIf, kIf, dNever, dNext, dBreak, dCont, dSet, kSet, dPar, kPar, dPar3, kPar3, dAug, kAug, dAsg, kAsg, gNm, gsNil, gsCons, gTp, gUl, gSb, kGs1, kGs2, rSet, dFor, kFor, dLc, dYes, wipeD, dRaise, kRaise, dTry, wTry, clrM, clrD, putD', dXv, kXv,
  dC, dVar, dUn, dOp, kOp1, kOp2, dTst, kB, dAnd, kAnd, dOr, kOr, dNot, kNot, dAndV, kAndV, dOrV, kOrV, dNotV, kNotV, dIfE, kIfE, dNil, dCons, kCons1, kCons2, dTup, kTup, dLst, kLst, dCall, kCall, spN, dCallK, kCK1, kCK2, pick, dMet, kM1, kM2, isLst, rApp, dSl, kSl1, kSl2, kSl3, rSl, dNoP, dPart, kPart,
  rAdd, rSub, rMul, rMulT, rMulN, rInP, rFdiv, rMod, rPow, rShl, rShr, rAnd, rXor, rNeg, rEq, rNe, rLt, rLe, rGt, rGe, rIs, rIsNot, isNon, rIx, rIsi, rIsi2, isTy, spLen, spInt, spTuple, spAll, spAny, spMax, spMin, spAbs, spList, rIn, rNotIn, rIns, dRevL, kRev, dBack, kBack, dLc2, iEn, kEn, dSrtSet, kSrtSet, dChain, kCh1, kCh2, kCh3, iZp, kZp, dLenNew, dLenSet, kLenSet, kLenNew, dDicE, dDisp, isDic, rDset, dDget, kDg1, kDg2, dDget2, kDh1, kDh2, kDh3, rDget, gDb, kGd1, kGd2, dStp, kSt0, kSt1, kSt2, spSumB, rDin, dBits, kBits, rDnin, spLenD, dAugS, kAs1, kAs2, kAs3, kAs4, rRem, rIdx, spStr, dJoin, kJoin1, kJoin2, rPop1, rPop0, rRev, dDc, dTupRg, kTupRg, dLstRg, kLstRg, iSq, iRg1, kRg1, iRg2, kRg2, rIAdd, endsD,
  isL_iff, atI0, atI1, atI2, get_at0, get_at, List.set_set, List.length_set, lget_at0, lget_at, lget_hd, lget_tl, set_at0, set_at, app1, List.nil_append, List.cons_append, List.length_cons, List.length_nil, List.length_append,
  List.getElem?_cons_zero, List.getElem?_cons_succ, List.set_cons_zero, List.set_cons_succ, List.getElem?_nil, List.filterMap_cons, List.filterMap_nil, List.append_nil,
  Option.some.injEq, O.lst.injEq, exists_eq_left', exists_eq_left, exists_eq', List.cons.injEq, D.int.injEq, D.bl.injEq, D.tup.injEq, D.ref.injEq, D.str.injEq, Int.natCast_inj, true_and, and_true, and_self, Nat.reduceAdd, Nat.zero_add, Bool.not_true, Bool.not_false, reduceCtorEq, forall_const, imp_self, not_true_eq_false, not_false_eq_true, false_implies, true_implies, implies_true, Bool.true_eq_false, Bool.false_eq_true, Bool.true_or, Bool.or_true, Bool.false_or, Bool.or_false, Bool.and_true, Bool.true_and, decide_eq_true_eq, decide_eq_false_iff_not, Bool.not_eq_true', Bool.not_eq_false', decide_true, decide_false, or_false, false_or, exists_false, exists_and_left, and_assoc])
theorem bits_fuel : ∀ (f g p r : Nat), r ≤ f → r ≤ g → bitsFrom p f r = bitsFrom p g r
  | 0, 0, _, _, _, _ => rfl
  | 0, g + 1, p, r, h, _ => by
    have : r = 0 := by omega
    subst this
    simp [bitsFrom]
  | f + 1, 0, p, r, _, h => by
    have : r = 0 := by omega
    subst this
    simp [bitsFrom]
  | f + 1, g + 1, p, r, h, h' => by
    unfold bitsFrom
    rw [bits_fuel f g (p + 1) (r / 2) (by omega) (by omega)]
theorem bits_step (p r : Nat) (h : 0 < r) : bitsFrom p r r = (if r % 2 = 1 then [p] else []) ++ bitsFrom (p + 1) (r / 2) (r / 2) := by
  obtain ⟨f, rfl⟩ : ∃ f, r = f + 1 := ⟨r - 1, by omega⟩
  rw [bitsFrom, if_neg (by omega), bits_fuel f ((f + 1) / 2) (p + 1) ((f + 1) / 2) (by omega) (by omega)]
  split <;> simp
theorem cl_ints (m : Nat) : ∀ l : List Nat, clDs m (intsN l)
  | [] => trivial
  | a :: l => ⟨trivial, cl_ints m l⟩
theorem intsN_app (l m : List Nat) : intsN (l ++ m) = intsN l ++ intsN m := by simp [intsN]
theorem intsN_len (l : List Nat) : (intsN l).length = l.length := by simp [intsN]
theorem k_bits_of : Keeps 1 4 t_bits_of sp_bits_of := by
  intro ds S k x hl cS cd h
  obtain ⟨n, rfl, hn, h⟩ := h
  show t_bits_of (endsD S.length k x) [some (.int n), none, none, none] S
  simp only [t_bits_of]
  walk_at "dx"
  refine ⟨by decide, dWhile_by (fun m sg S' => ∃ (p r : Nat) (acc : List Nat), sg = [some (.int n), some (.ref S.length), some (.int p), some (.int r)] ∧ S' = S ++ [.lst (intsN acc)] ∧ acc ++ bitsFrom p r r = bitsN n ∧ m = r ∧ acc.length ≤ p ∧ r * 2 ^ p ≤ n) n
    ⟨0, n, [], rfl, rfl, rfl, rfl, Nat.le_refl _, by omega⟩ ?_⟩
  rintro m sg S' nx ⟨p, r, acc, rfl, rfl, hb, rfl, ha, hp⟩ hnx
  walk_at "dx"
  refine ⟨fun h0 => ?_, fun h0 => ?_⟩
  · have h0 : 0 < m := by omega
    have hp2 : 2 ^ p < 2 ^ 100000 := Nat.lt_of_le_of_lt (Nat.le_trans (Nat.le_mul_of_pos_left _ h0) hp) hn
    have hpl : p < 100000 := (Nat.pow_lt_pow_iff_right (by decide)).mp hp2
    have hc : CDivW (m : Int) 2 := ⟨by decide, by decide⟩
    have hq : m / 2 * 2 ^ (p + 1) ≤ n := by
      rw [Nat.pow_succ, Nat.mul_comm (2 ^ p) 2, ← Nat.mul_assoc]
      exact Nat.le_trans (Nat.mul_le_mul_right _ (Nat.div_mul_le_self m 2)) hp
    refine ⟨by decide, fun h1 => ⟨by rw [intsN_len, sl16]; omega, hc, hnx (m / 2) _ _ (by omega) ⟨p + 1, m / 2, acc ++ [p], by simp, by rw [intsN_app]; rfl, ?_, rfl, by simp; omega, hq⟩⟩, fun h1 => ⟨hc, hnx (m / 2) _ _ (by omega) ⟨p + 1, m / 2, acc, by simp, rfl, ?_, rfl, by omega, hq⟩⟩⟩
    · rw [← hb, bits_step p m h0, if_pos (by omega), List.append_assoc]
    · rw [← hb, bits_step p m h0, if_neg (by omega), List.nil_append]
  · have h0 : m = 0 := by omega
    subst h0
    rw [show bitsFrom p 0 0 = [] from rfl, List.append_nil] at hb
    rw [hb]
    exact wk_drop rfl cS (cl_ints _ _) h
theorem k_check_word : Keeps 1 1 t_check_word sp_check_word := by
  intro ds S k x hl cS cd h
  obtain ⟨n, rfl, h⟩ := h
  show t_check_word (endsD S.length k x) [some (.int n)] S
  have h' := wk_now (n := S.length) h
  simp only [t_check_word]
  walk_at "ds"
  exact ⟨fun m e => (by cases e), fun z => absurd (Int.natCast_nonneg n) z, fun _ => h'⟩
theorem k_check_wide : Keeps 1 1 t_check_wide sp_check_wide := by
  intro ds S k x hl cS cd h
  obtain ⟨n, rfl, h1, h⟩ := h
  show t_check_wide (endsD S.length k x) [some (.int n)] S
  have h' := wk_now (n := S.length) h
  simp only [t_check_wide]
  walk_at "ds"
  refine ⟨fun m e => (by cases e), ?_⟩
  exact ⟨fun h => by omega, fun _ => h'⟩
theorem add_eq (m : Nat) : ∀ n : Nat, m + n = (m ^^^ n) + 2 * (m &&& n) := by
  induction m using Nat.strongRecOn with
  | ind m ih =>
    intro n
    by_cases h : m = 0
    · subst h; simp
    · have i := ih (m / 2) (by omega) (n / 2)
      have b := Nat.and_div_two (a := m) (b := n)
      have c := Nat.xor_div_two (a := m) (b := n)
      have e := @Nat.and_mod_two_eq_one m n
      have f := @Nat.xor_mod_two_eq_one m n
      omega
theorem xor_nat (m n : Nat) : Builtin.bitXor (m : Int) (n : Int) = ((m ^^^ n : Nat) : Int) := by
  rw [PyProof.Rows.bitXor_and]
  have h : Builtin.bitAnd (m : Int) (n : Int) = ((m &&& n : Nat) : Int) := by
    unfold Builtin.bitAnd
    rw [decide_eq_true (Int.natCast_nonneg m), decide_eq_true (Int.natCast_nonneg n)]
    rfl
  rw [h]
  have := add_eq m n
  omega
theorem k_added : Keeps 2 2 t_added sp_added := by
  intro ds S k x hl cS cd h
  obtain ⟨m, n, rfl, h⟩ := h
  show t_added (endsD S.length k x) [some (.int m), some (.int n)] S
  have h' := wk_now (n := S.length) h
  simp only [t_added]
  walk_at "ds"
  rw [xor_nat]
  exact h'
theorem k_bits : Keeps 1 1 t_bits sp_bits := by
  intro ds S k x hl cS cd h
  obtain ⟨n, rfl, hn, h⟩ := h
  show t_bits (endsD S.length k x) [some (.int n)] S
  have h' := wk_now (n := S.length) h
  simp only [t_bits]
  walk_at "ds"
  exact ⟨hn, h'⟩
theorem bits_last : ∀ (n p : Nat), 0 < n → ∃ l, bitsFrom p n n = l ++ [p + n.log2] := by
  intro n
  induction n using Nat.strongRecOn with
  | ind n ih =>
    intro p h
    rw [bits_step p n h]
    by_cases h1 : n / 2 = 0
    · have : n = 1 := by omega
      subst this
      exact ⟨[], rfl⟩
    · obtain ⟨l, hl⟩ := ih (n / 2) (by omega) (p + 1) (by omega)
      rw [hl]
      refine ⟨(if n % 2 = 1 then [p] else []) ++ l, ?_⟩
      rw [List.append_assoc]
      congr 2
      have : n.log2 = (n / 2).log2 + 1 := by
        rw [Nat.log2_def, if_pos (by omega)]
      rw [this]
      simp
      omega
theorem k_width_of : Keeps 1 2 t_width_of sp_width_of := by
  intro ds S k x hl cS cd h
  obtain ⟨n, rfl, hn, h⟩ := h
  show t_width_of (endsD S.length k x) [some (.int n), none] S
  have h' := wk_now (n := S.length) h
  simp only [t_width_of]
  walk_at "ds"
  refine ⟨hn, Nat.zero_le _, eqG_pure 1 1 (pds_ints 0 _) rfl ?_⟩
  rw [eqD_tup, eqDs_nil]
  by_cases h0 : n = 0
  · subst h0
    exact ⟨fun z => (by cases z), fun _ => h'⟩
  · obtain ⟨l, hl⟩ := bits_last n 0 (by omega)
    have e : intsN (bitsN n) = intsN l ++ [.int (n.log2 : Nat)] := by
      unfold bitsN
      rw [hl, intsN_app, Nat.zero_add]
      rfl
    rw [e]
    refine ⟨fun _ => ⟨_, atI_last _ _, ?_⟩, fun z => (by simp at z)⟩
    unfold widthN at h'
    rw [if_neg h0] at h'
    exact h'
theorem k_width : Keeps 1 1 t_width sp_width := by
  intro ds S k x hl cS cd h
  obtain ⟨n, rfl, hn, h⟩ := h
  show t_width (endsD S.length k x) [some (.int n)] S
  have h' := wk_now (n := S.length) h
  simp only [t_width]
  walk_at "ds"
  exact ⟨hn, h'⟩
theorem width_le (w n : Nat) (h : 1 ≤ w) : widthN n ≤ w ↔ n < 2 ^ w := by
  unfold widthN
  by_cases h0 : n = 0
  · subst h0
    rw [if_pos rfl]
    exact ⟨fun _ => Nat.two_pow_pos w, fun _ => h⟩
  · rw [if_neg h0, ← Nat.log2_lt h0]
    exact Iff.rfl
theorem k_is_word_of : Keeps 2 2 t_is_word_of sp_is_word_of := by
  intro ds S k x hl cS cd h
  obtain ⟨w, d, rfl, hd, h1, hi, h⟩ := h
  show t_is_word_of (endsD S.length k x) [some (.int w), some d] S
  have h' := wk_now (n := S.length) h
  simp only [t_is_word_of]
  walk_at "ds"
  refine ⟨hd, ?_⟩
  cases d <;> (simp only [isNatD]; walk_at "ds"; try simpa [isWordD] using h')
  rename_i i
  refine ⟨fun h0 => ⟨i.toNat, by omega, ?_, ?_⟩, fun h0 => by simpa [isWordD, h0] using h'⟩
  · have := hi i rfl
    have e : i = (i.toNat : Int) := by omega
    rw [e] at this
    exact_mod_cast this
  · have e : isWordD w (.int i) = decide ((widthN i.toNat : Int) ≤ w) := by
      have q := width_le w i.toNat h1
      have e3 : (i < 2 ^ w) ↔ (i.toNat < 2 ^ w) := by
        conv => lhs; rw [show i = (i.toNat : Int) by omega]
        exact_mod_cast Iff.rfl
      show decide (0 ≤ i ∧ i < 2 ^ w) = _
      rw [decide_eq_decide, e3, ← q]
      constructor
      · intro z; exact_mod_cast z.2
      · intro z; exact ⟨h0, by exact_mod_cast z⟩
    rw [e] at h'
    exact h'
theorem k_is_word : Keeps 2 2 t_is_word sp_is_word := by
  intro ds S k x hl cS cd h
  obtain ⟨w, d, rfl, hd, h1, hi, h⟩ := h
  show t_is_word (endsD S.length k x) [some (.int w), some d] S
  have h' := wk_now (n := S.length) h
  simp only [t_is_word]
  walk_at "ds"
  exact ⟨h1, hd, h1, hi, h'⟩
end Q
open Q
local macro_rules | `(tactic| walk_at "dx") => `(tactic| try simp only [dSeq, dDrop, kDrop, dRet, dRetN, dIf, kIf, dNever, dNext, dBreak, dCont, dSet, kSet, dPar, kPar, dPar3, kPar3, dAug, kAug, dAsg, kAsg, gNm, gsNil, gsCons, gTp, gUl, gSb, kGs1, kGs2, rSet, dFor, kFor, dLc, dYes, wipeD, dRaise, kRaise, dTry, wTry, clrM, clrD, putD', dXv, kXv,
  dC, dVar, dUn, dOp, kOp1, kOp2, dTst, kB, dAnd, kAnd, dOr, kOr, dNot, kNot, dAndV, kAndV, dOrV, kOrV, dNotV, kNotV, dIfE, kIfE, dNil, dCons, kCons1, kCons2, dTup, kTup, dLst, kLst, dCall, kCall, spN, dCallK, kCK1, kCK2, pick, dMet, kM1, kM2, isLst, rApp, dSl, kSl1, kSl2, kSl3, rSl, dNoP, dPart, kPart,
  rAdd, rSub, rMul, rMulT, rMulN, rInP, rFdiv, rMod, rPow, rShl, rShr, rAnd, rXor, rNeg, rEq, rNe, rLt, rLe, rGt, rGe, rIs, rIsNot, isNon, rIx, rIsi, rIsi2, isTy, spLen, spInt, spTuple, spAll, spAny, spMax, spMin, spAbs, spList, rIn, rNotIn, rIns, dRevL, kRev, dBack, kBack, dLc2, iEn, kEn, dSrtSet, kSrtSet, dChain, kCh1, kCh2, kCh3, iZp, kZp, dLenNew, dLenSet, kLenSet, kLenNew, dDicE, dDisp, isDic, rDset, dDget, kDg1, kDg2, dDget2, kDh1, kDh2, kDh3, rDget, gDb, kGd1, kGd2, dStp, kSt0, kSt1, kSt2, spSumB, rDin, dBits, kBits, rDnin, spLenD, dAugS, kAs1, kAs2, kAs3, kAs4, rRem, rIdx, spStr, dJoin, kJoin1, kJoin2, rPop1, rPop0, rRev, dDc, dTupRg, kTupRg, dLstRg, kLstRg, iSq, iRg1, kRg1, iRg2, kRg2, rIAdd, endsD,
  isL_iff, atI0, atI1, atI2, get_at0, get_at, List.set_set, List.length_set, lget_at0, lget_at, lget_hd, lget_tl, set_at0, set_at, app1, List.nil_append, List.cons_append, List.length_cons, List.length_nil, List.length_append,
  List.getElem?_cons_zero, List.getElem?_cons_succ, List.set_cons_zero, List.set_cons_succ, List.getElem?_nil, List.filterMap_cons, List.filterMap_nil, List.append_nil,
  Option.some.injEq, O.lst.injEq, exists_eq_left', exists_eq_left, exists_eq', List.cons.injEq, D.int.injEq, D.bl.injEq, D.tup.injEq, D.ref.injEq, D.str.injEq, Int.natCast_inj, true_and, and_true, and_self, Nat.reduceAdd, Nat.zero_add, Bool.not_true, Bool.not_false, reduceCtorEq, forall_const, imp_self, not_true_eq_false, not_false_eq_true, false_implies, true_implies, implies_true, Bool.true_eq_false, Bool.false_eq_true, Bool.true_or, Bool.or_true, Bool.false_or, Bool.or_false, Bool.and_true, Bool.true_and, decide_eq_true_eq, decide_eq_false_iff_not, Bool.not_eq_true', Bool.not_eq_false', decide_true, decide_false, or_false, false_or, exists_false, exists_and_left, and_assoc])
local macro_rules | `(tactic| walk_at "dz") => `(tactic| try simp only [dDrop, kDrop, dRet, dRetN, dIf, kIf, dNever, dNext, dBreak, dCont, dSet, kSet, dPar, kPar, dPar3, kPar3, dAug, kAug, dAsg, kAsg, gNm, gsNil, gsCons, gTp, gUl, gSb, kGs1, kGs2, rSet, dFor, kFor, dLc, dYes, wipeD, dRaise, kRaise, dTry, wTry, clrM, clrD, putD', dXv, kXv,
  dC, dVar, dUn, dOp, kOp1, kOp2, dTst, kB, dAnd, kAnd, dOr, kOr, dNot, kNot, dAndV, kAndV, dOrV, kOrV, dNotV, kNotV, dIfE, kIfE, dNil, dCons, kCons1, kCons2, dTup, kTup, dLst, kLst, dCall, kCall, spN, dCallK, kCK1, kCK2, pick, dMet, kM1, kM2, isLst, rApp, dSl, kSl1, kSl2, kSl3, rSl, dNoP, dPart, kPart,
  rAdd, rSub, rMul, rMulT, rMulN, rInP, rFdiv, rMod, rPow, rShl, rShr, rAnd, rXor, rNeg, rEq, rNe, rLt, rLe, rGt, rGe, rIs, rIsNot, isNon, rIx, rIsi, rIsi2, isTy, spLen, spInt, spTuple, spAll, spAny, spMax, spMin, spAbs, spList, rIn, rNotIn, rIns, dRevL, kRev, dBack, kBack, dLc2, iEn, kEn, dSrtSet, kSrtSet, dChain, kCh1, kCh2, kCh3, iZp, kZp, dLenNew, dLenSet, kLenSet, kLenNew, dDicE, dDisp, isDic, rDset, dDget, kDg1, kDg2, dDget2, kDh1, kDh2, kDh3, rDget, gDb, kGd1, kGd2, dStp, kSt0, kSt1, kSt2, spSumB, rDin, dBits, kBits, rDnin, spLenD, dAugS, kAs1, kAs2, kAs3, kAs4, rRem, rIdx, spStr, dJoin, kJoin1, kJoin2, rPop1, rPop0, rRev, dDc, dTupRg, kTupRg, dLstRg, kLstRg, iSq, iRg1, kRg1, iRg2, kRg2, rIAdd, endsD,
  isL_iff, atI0, atI1, atI2, get_at0, get_at, List.set_set, List.length_set, lget_at0, lget_at, lget_hd, lget_tl, set_at0, set_at, app1, List.nil_append, List.cons_append, List.length_cons, List.length_nil, List.length_append,
  List.getElem?_cons_zero, List.getElem?_cons_succ, List.set_cons_zero, List.set_cons_succ, List.getElem?_nil, List.filterMap_cons, List.filterMap_nil, List.append_nil,
  Option.some.injEq, O.lst.injEq, exists_eq_left', exists_eq_left, exists_eq', List.cons.injEq, D.int.injEq, D.bl.injEq, D.tup.injEq, D.ref.injEq, D.str.injEq, Int.natCast_inj, true_and, and_true, and_self, Nat.reduceAdd, Nat.zero_add, Bool.not_true, Bool.not_false, reduceCtorEq, forall_const, imp_self, not_true_eq_false, not_false_eq_true, false_implies, true_implies, implies_true, Bool.true_eq_false, Bool.false_eq_true, Bool.true_or, Bool.or_true, Bool.false_or, Bool.or_false, Bool.and_true, Bool.true_and, decide_eq_true_eq, decide_eq_false_iff_not, Bool.not_eq_true', Bool.not_eq_false', decide_true, decide_false, or_false, false_or, exists_false, exists_and_left, and_assoc])
namespace Q
open PySem
open Spec PyProof.Rows L2
/-! ### books.py -/
def isRowD (m : Int) (d : D) : Bool := isAscD m d && match d with | .tup [] => false | _ => true
def isBookD : D → Bool
  | .tup [.int m, .tup rows] => decide (1 ≤ m) && rows.all (isRowD m)
  | _ => false
def okB (S : Sto) (d : D) : Prop := okD S d ∧ ∀ a b, d = .tup [a, b] → okD S a ∧ okD S b ∧ ∀ rows, b = .tup rows → rows.length ≤ sizeLine ∧ ∀ r ∈ rows, okT S r
theorem okT_app {S : Sto} {d : D} (G : Sto) (h : okT S d) : okT (S ++ G) d := ⟨okD_app G h.1, fun ds e => ⟨(h.2 ds e).1, fun y hy => okD_app G ((h.2 ds e).2 y hy)⟩⟩
def sp_is_row_of : SpD := fun ds S k _ => ∃ d m, ds = [.int m, d] ∧ okT S d ∧ k (.bl (isRowD m d)) S
def sp_is_book : SpD := fun ds S k _ => ∃ d, ds = [d] ∧ okB S d ∧ k (.bl (isBookD d)) S
def sp_check_book : SpD := fun ds S k _ => ∃ d, ds = [d] ∧ okB S d ∧ isBookD d = true ∧ k .non S
/-- is_row_of(m, told); slots: 0 m, 1 told -/
def t_is_row_of : TSD := (dRet (dAndV (dCall (spN 2 sp_is_ascending_below) (dCons (dVar 1) (dCons (dVar 0) dNil))) (dOp rNe (dVar 1) (dTup dNil))))
/-- is_book(told); slots: 0 told, 1 row -/
def t_is_book : TSD := (dSeq (dIf (dOr (dNot (dTst (dCall (spN 1 sp_is_pair) (dCons (dVar 0) dNil)))) (dOr (dNot (dTst (dCall (spN 1 sp_is_integer) (dCons (dOp rIx (dVar 0) (dC (.int 0))) dNil)))) (dOr (dTst (dOp rLt (dOp rIx (dVar 0) (dC (.int 0))) (dC (.int 1)))) (dNot (dTst (dUn (rIsi .tuple) (dOp rIx (dVar 0) (dC (.int 1))))))))) (dRet (dC (.bl false))) dNext) (dRet (dCall spAll (dCons (dLc (iSq (dOp rIx (dVar 0) (dC (.int 1)))) (gNm 1) dYes (dCall (spN 2 sp_is_row_of) (dCons (dOp rIx (dVar 0) (dC (.int 0))) (dCons (dVar 1) dNil))) [1]) dNil))))
/-- check_book(book); slots: 0 book -/
def t_check_book : TSD := (dIf (dNot (dTst (dCall (spN 1 sp_is_book) (dCons (dVar 0) dNil)))) (dRaise "InvalidBook" (dCons (dVar 0) dNil)) dNext)

local macro_rules | `(tactic| walk_at "dzs") => `(tactic| try simp only [sp_is_integer, sp_is_natural, sp_is_below, sp_is_pair, sp_is_ascending, sp_is_ascending_below, sp_is_row_of, sp_is_book, sp_check_book, isIntD, isNatD, isPairD, dDrop, kDrop, dRet, dRetN, dIf, kIf, dNever, dNext, dBreak, dCont, dSet, kSet, dPar, kPar, dPar3, kPar3, dAug, kAug, dAsg, kAsg, gNm, gsNil, gsCons, gTp, gUl, gSb, kGs1, kGs2, rSet, dFor, kFor, dLc, dYes, wipeD, dRaise, kRaise, dTry, wTry, clrM, clrD, putD', dXv, kXv,
  dC, dVar, dUn, dOp, kOp1, kOp2, dTst, kB, dAnd, kAnd, dOr, kOr, dNot, kNot, dAndV, kAndV, dOrV, kOrV, dNotV, kNotV, dIfE, kIfE, dNil, dCons, kCons1, kCons2, dTup, kTup, dLst, kLst, dCall, kCall, spN, dCallK, kCK1, kCK2, pick, dMet, kM1, kM2, isLst, rApp, dSl, kSl1, kSl2, kSl3, rSl, dNoP, dPart, kPart,
  rAdd, rSub, rMul, rMulT, rMulN, rInP, rFdiv, rMod, rPow, rShl, rShr, rAnd, rXor, rNeg, rEq, rNe, rLt, rLe, rGt, rGe, rIs, rIsNot, isNon, rIx, rIsi, rIsi2, isTy, spLen, spInt, spTuple, spAll, spAny, spMax, spMin, spAbs, spList, rIn, rNotIn, rIns, dRevL, kRev, dBack, kBack, dLc2, iEn, kEn, dSrtSet, kSrtSet, dChain, kCh1, kCh2, kCh3, iZp, kZp, dLenNew, dLenSet, kLenSet, kLenNew, dDicE, dDisp, isDic, rDset, dDget, kDg1, kDg2, dDget2, kDh1, kDh2, kDh3, rDget, gDb, kGd1, kGd2, dStp, kSt0, kSt1, kSt2, spSumB, rDin, dBits, kBits, rDnin, spLenD, dAugS, kAs1, kAs2, kAs3, kAs4, rRem, rIdx, spStr, dJoin, kJoin1, kJoin2, rPop1, rPop0, rRev, dDc, dTupRg, kTupRg, dLstRg, kLstRg, iSq, iRg1, kRg1, iRg2, kRg2, rIAdd, endsD,
  isL_iff, atI0, atI1, atI2, get_at0, get_at, List.set_set, List.length_set, lget_at0, lget_at, lget_hd, lget_tl, set_at0, set_at, app1, List.nil_append, List.cons_append, List.length_cons, List.length_nil, List.length_append,
  List.getElem?_cons_zero, List.getElem?_cons_succ, List.set_cons_zero, List.set_cons_succ, List.getElem?_nil, List.filterMap_cons, List.filterMap_nil, List.append_nil,
  Option.some.injEq, O.lst.injEq, exists_eq_left', exists_eq_left, exists_eq', List.cons.injEq, D.int.injEq, D.bl.injEq, D.tup.injEq, D.ref.injEq, D.str.injEq, Int.natCast_inj, true_and, and_true, and_self, Nat.reduceAdd, Nat.zero_add, Bool.not_true, Bool.not_false, reduceCtorEq, forall_const, imp_self, not_true_eq_false, not_false_eq_true, false_implies, true_implies, implies_true, Bool.true_eq_false, Bool.false_eq_true, Bool.true_or, Bool.or_true, Bool.false_or, Bool.or_false, Bool.and_true, Bool.true_and, decide_eq_true_eq, decide_eq_false_iff_not, Bool.not_eq_true', Bool.not_eq_false', decide_true, decide_false, or_false, false_or, exists_false, exists_and_left, and_assoc])
local macro_rules | `(tactic| walk_at "ds") => `(tactic| try simp only [sp_is_integer, sp_is_natural, sp_is_below, sp_is_pair, sp_is_ascending, sp_is_ascending_below, sp_is_row_of, sp_is_book, sp_check_book, isIntD, isNatD, isPairD, dSeq, dDrop, kDrop, dRet, dRetN, dIf, kIf, dNever, dNext, dBreak, dCont, dSet, kSet, dPar, kPar, dPar3, kPar3, dAug, kAug, dAsg, kAsg, gNm, gsNil, gsCons, gTp, gUl, gSb, kGs1, kGs2, rSet, dFor, kFor, dLc, dYes, wipeD, dRaise, kRaise, dTry, wTry, clrM, clrD, putD', dXv, kXv,
  dC, dVar, dUn, dOp, kOp1, kOp2, dTst, kB, dAnd, kAnd, dOr, kOr, dNot, kNot, dAndV, kAndV, dOrV, kOrV, dNotV, kNotV, dIfE, kIfE, dNil, dCons, kCons1, kCons2, dTup, kTup, dLst, kLst, dCall, kCall, spN, dCallK, kCK1, kCK2, pick, dMet, kM1, kM2, isLst, rApp, dSl, kSl1, kSl2, kSl3, rSl, dNoP, dPart, kPart,
  rAdd, rSub, rMul, rMulT, rMulN, rInP, rFdiv, rMod, rPow, rShl, rShr, rAnd, rXor, rNeg, rEq, rNe, rLt, rLe, rGt, rGe, rIs, rIsNot, isNon, rIx, rIsi, rIsi2, isTy, spLen, spInt, spTuple, spAll, spAny, spMax, spMin, spAbs, spList, rIn, rNotIn, rIns, dRevL, kRev, dBack, kBack, dLc2, iEn, kEn, dSrtSet, kSrtSet, dChain, kCh1, kCh2, kCh3, iZp, kZp, dLenNew, dLenSet, kLenSet, kLenNew, dDicE, dDisp, isDic, rDset, dDget, kDg1, kDg2, dDget2, kDh1, kDh2, kDh3, rDget, gDb, kGd1, kGd2, dStp, kSt0, kSt1, kSt2, spSumB, rDin, dBits, kBits, rDnin, spLenD, dAugS, kAs1, kAs2, kAs3, kAs4, rRem, rIdx, spStr, dJoin, kJoin1, kJoin2, rPop1, rPop0, rRev, dDc, dTupRg, kTupRg, dLstRg, kLstRg, iSq, iRg1, kRg1, iRg2, kRg2, rIAdd, endsD,
  isL_iff, atI0, atI1, atI2, get_at0, get_at, List.set_set, List.length_set, lget_at0, lget_at, lget_hd, lget_tl, set_at0, set_at, app1, List.nil_append, List.cons_append, List.length_cons, List.length_nil, List.length_append,
  List.getElem?_cons_zero, List.getElem?_cons_succ, List.set_cons_zero, List.set_cons_succ, List.getElem?_nil, List.filterMap_cons, List.filterMap_nil, List.append_nil,
  Option.some.injEq, O.lst.injEq, exists_eq_left', exists_eq_left, exists_eq', List.cons.injEq, D.int.injEq, D.bl.injEq, D.tup.injEq, D.ref.injEq, D.str.injEq, Int.natCast_inj, true_and, and_true, and_self, Nat.reduceAdd, Nat.zero_add, Bool.not_true, Bool.not_false, reduceCtorEq, forall_const, imp_self, not_true_eq_false, not_false_eq_true, false_implies, true_implies, implies_true, Bool.true_eq_false, Bool.false_eq_true, Bool.true_or, Bool.or_true, Bool.false_or, Bool.or_false, Bool.and_true, Bool.true_and, decide_eq_true_eq, decide_eq_false_iff_not, Bool.not_eq_true', Bool.not_eq_false', decide_true, decide_false, or_false, false_or, exists_false, exists_and_left, and_assoc])
theorem k_is_row_of : Keeps 2 2 t_is_row_of sp_is_row_of := by
  intro ds S k x hl cS cd h
  obtain ⟨d, m, rfl, hT, h⟩ := h
  show t_is_row_of (endsD S.length k x) [some (.int m), some d] S
  have h' := wk_now (n := S.length) h
  simp only [t_is_row_of]
  walk_at "dx"
  refine ⟨d, m, rfl, hT, ?_⟩
  cases d with
  | tup ds =>
    walk_at "dx"
    refine ⟨fun q => ?_, fun q => ?_⟩
    · have q2 : ds.all (isBelowD m) = true := by
        have : (ds.all (isBelowD m) && ascB (ds.map intD)) = true := q
        rw [Bool.and_eq_true] at this
        exact this.1
      have q3 : pd 1 (.tup ds) = true := by
        show pds 0 ds = true
        rw [← ints_of q2]
        generalize ds.map intD = ns
        induction ns with
        | nil => rfl
        | cons n ns ih =>
          show (pd 0 (.int n) && pds 0 (ns.map D.int)) = true
          rw [ih]
          rfl
      refine ⟨Nat.zero_le _, eqG_pure (e := .tup []) 1 1 q3 rfl ?_⟩
      rw [eqD_tup, eqDs_nil]
      cases ds with
      | nil => simpa [isRowD, q] using h'
      | cons a l => simpa [isRowD, q] using h'
    · simpa [isRowD, q] using h'
  | _ => walk_at "dx"; simpa [isRowD, isAscD] using h'
theorem k_is_book : Keeps 1 2 t_is_book sp_is_book := by
  intro ds S k x hl cS cd h
  obtain ⟨d, rfl, ⟨hd, hB⟩, h⟩ := h
  show t_is_book (endsD S.length k x) [some d, none] S
  have h' := wk_now (n := S.length) h
  simp only [t_is_book]
  have no : isPairD d = false → isBookD d = false := fun q => by
    unfold isBookD
    split
    · exact absurd q (by simp [isPairD])
    · rfl
  walk_at "dx"
  refine ⟨d, rfl, hd, ?_⟩
  walk_at "dx"
  refine ⟨fun q => ?_, fun q => ?_⟩
  · rw [no q] at h'
    exact h'
  · obtain ⟨a, b, rfl⟩ : ∃ a b, d = .tup [a, b] := by
      cases d with
      | tup ds =>
        have q : ds.length = 2 := of_decide_eq_true q
        obtain ⟨a, b, rfl⟩ := len2 q
        exact ⟨a, b, rfl⟩
      | _ => exact absurd q Bool.false_ne_true
    obtain ⟨ha, hb, hR⟩ := hB a b rfl
    walk_at "dx"
    refine ⟨a, rfl, ha, ?_⟩
    cases a with
    | int m =>
      walk_at "dx"
      simp only [isIntD]
      walk_at "dx"
      refine ⟨fun q => ?_, fun q => ?_⟩
      · have : isBookD (.tup [.int m, b]) = false := by
          unfold isBookD
          split
          · rename_i e
            simp only [D.tup.injEq, List.cons.injEq, D.int.injEq] at e
            rw [← e.1, decide_eq_false (by omega)]
            rfl
          · rfl
        rw [this] at h'
        exact h'
      · cases b with
        | tup rows =>
          obtain ⟨hz, hr⟩ := hR rows rfl
          walk_at "dx"
          refine lc_map (fun d => .bl (isRowD m d)) (fun d hd acc kk hk => ?_) (fun _ => trivial) hz ?_
          · walk_at "dx"
            exact ⟨d, m, rfl, okT_app _ (hr d hd), hk⟩
          · walk_at "dx"
            refine ⟨rows.map (isRowD m), by rw [List.map_map]; rfl, ?_⟩
            have e1 : (rows.map (isRowD m)).all id = rows.all (isRowD m) := by rw [List.all_map]; rfl
            have e2 : isBookD (.tup [.int m, .tup rows]) = rows.all (isRowD m) := by
              show (decide (1 ≤ m) && rows.all (isRowD m)) = _
              rw [decide_eq_true (by omega), Bool.true_and]
            rw [e1, ← e2]
            exact wk_drop rfl cS trivial h
        | ref n =>
          obtain ⟨xs, hx⟩ := hb n rfl
          walk_at "dx"
          simp only [tyR_of hx, Option.some.injEq, exists_eq_left', isTy]
          exact ⟨fun _ => h', fun z => nomatch z⟩
        | _ => walk_at "dx"; simpa [isBookD] using h'
    | _ => walk_at "dx"; simpa [isBookD, isIntD] using h'
theorem k_check_book : Keeps 1 1 t_check_book sp_check_book := by
  intro ds S k x hl cS cd h
  obtain ⟨d, rfl, hB, hb, h⟩ := h
  show t_check_book (endsD S.length k x) [some d] S
  simp only [t_check_book]
  walk_at "dx"
  refine ⟨d, rfl, hB, ?_⟩
  rw [hb]
  walk_at "dx"
  exact wk_now h
/-! ### books that are ones -/
def rowD (r : List Nat) : D := .tup (r.map fun c : Nat => D.int (c : Int))
def bookD (m : Nat) (rows : List (List Nat)) : D := .tup [.int (m : Int), .tup (rows.map rowD)]
def RowOk (m : Nat) (r : List Nat) : Prop := r ≠ [] ∧ r.Pairwise (· < ·) ∧ ∀ c ∈ r, c < m
def BookOk (m : Nat) (rows : List (List Nat)) : Prop := 1 ≤ m ∧ m ≤ 1000000 ∧ rows.length ≤ 1000000 ∧ ∀ r ∈ rows, RowOk m r
theorem asc_len : ∀ {r : List Nat} {lo m : Nat}, r.Pairwise (· < ·) → (∀ c ∈ r, lo ≤ c ∧ c < m) → r.length ≤ m - lo
  | [], _, _, _, _ => Nat.zero_le _
  | a :: r, lo, m, hp, hc => by
    rw [List.pairwise_cons] at hp
    have h1 := hc a List.mem_cons_self
    have ih := asc_len (lo := a + 1) (m := m) hp.2 fun c hm => ⟨hp.1 c hm, (hc c (List.mem_cons_of_mem _ hm)).2⟩
    rw [List.length_cons]
    omega
theorem RowOk.len {m : Nat} {r : List Nat} (h : RowOk m r) : r.length ≤ m := asc_len (lo := 0) h.2.1 fun c hc => ⟨Nat.zero_le _, h.2.2 c hc⟩
theorem ascB_of {ns : List Int} (h : ns.Pairwise (· < ·)) : ascB ns = true := by
  refine List.all_eq_true.mpr fun j hj => decide_eq_true ?_
  have hj := List.mem_range.mp hj
  have h1 : j + 1 < ns.length := by omega
  rw [List.getD_eq_getElem?_getD, List.getD_eq_getElem?_getD, List.getElem?_eq_getElem h1, List.getElem?_eq_getElem (show j < ns.length by omega)]
  exact List.pairwise_iff_getElem.mp h j (j + 1) (by omega) h1 (by omega)
theorem isRow_of {m : Nat} {r : List Nat} (h : RowOk m r) : isRowD m (rowD r) = true := by
  obtain ⟨h0, h1, h2⟩ := h
  have e : (r.map fun c : Nat => D.int (c : Int)).map intD = r.map fun c : Nat => (c : Int) := by
    rw [List.map_map]
    rfl
  have a1 : (r.map fun c : Nat => D.int (c : Int)).all (isBelowD m) = true := by
    rw [List.all_map]
    refine List.all_eq_true.mpr fun c hc => ?_
    have := h2 c hc
    show (decide (0 ≤ (c : Int)) && decide ((c : Int) < (m : Int))) = true
    rw [decide_eq_true (by omega), decide_eq_true (by omega)]
    rfl
  have a2 : ascB (r.map fun c : Nat => (c : Int)) = true := ascB_of (List.pairwise_map.mpr (h1.imp fun h => by omega))
  unfold isRowD isAscD rowD
  simp only [a1, e, a2]
  cases r with
  | nil => exact absurd rfl h0
  | cons a l => rfl
theorem isBook_of {m : Nat} {rows : List (List Nat)} (h : BookOk m rows) : isBookD (bookD m rows) = true := by
  show (decide (1 ≤ (m : Int)) && (rows.map rowD).all (isRowD m)) = true
  rw [decide_eq_true (by have := h.1; omega), Bool.true_and, List.all_map]
  exact List.all_eq_true.mpr fun r hr => isRow_of (h.2.2.2 r hr)
theorem okT_row {S : Sto} {m : Nat} {r : List Nat} (hm : m ≤ 1000000) (h : RowOk m r) : okT S (rowD r) := by
  refine ⟨okD_tup, fun ds e => ?_⟩
  cases e
  refine ⟨by rw [List.length_map]; exact sl_ok _ (Nat.le_trans h.len hm), fun y hy => ?_⟩
  obtain ⟨c, _, rfl⟩ := List.mem_map.mp hy
  exact okD_int
theorem okB_of {S : Sto} {m : Nat} {rows : List (List Nat)} (h : BookOk m rows) : okB S (bookD m rows) := by
  refine ⟨okD_tup, fun a b e => ?_⟩
  cases e
  refine ⟨okD_int, okD_tup, fun rs e => ?_⟩
  cases e
  refine ⟨by rw [List.length_map]; exact sl_ok _ h.2.2.1, fun y hy => ?_⟩
  obtain ⟨r, hr, rfl⟩ := List.mem_map.mp hy
  exact okT_row h.2.1 (h.2.2.2 r hr)
theorem cl_cells (n : Nat) : ∀ l : List Nat, clDs n (l.map fun c : Nat => D.int (c : Int))
  | [] => trivial
  | _ :: l => ⟨trivial, cl_cells n l⟩
theorem cl_rows (n : Nat) : ∀ rows : List (List Nat), clDs n (rows.map rowD)
  | [] => trivial
  | r :: rows => ⟨cl_cells n r, cl_rows n rows⟩
theorem cl_book (n m : Nat) (rows : List (List Nat)) : clD n (bookD m rows) := ⟨trivial, cl_rows n rows, trivial⟩
end Q
open Q
local macro_rules | `(tactic| walk_at "dx") => `(tactic| try simp only [dSeq, dDrop, kDrop, dRet, dRetN, dIf, kIf, dNever, dNext, dBreak, dCont, dSet, kSet, dPar, kPar, dPar3, kPar3, dAug, kAug, dAsg, kAsg, gNm, gsNil, gsCons, gTp, gUl, gSb, kGs1, kGs2, rSet, dFor, kFor, dLc, dYes, wipeD, dRaise, kRaise, dTry, wTry, clrM, clrD, putD', dXv, kXv,
  dC, dVar, dUn, dOp, kOp1, kOp2, dTst, kB, dAnd, kAnd, dOr, kOr, dNot, kNot, dAndV, kAndV, dOrV, kOrV, dNotV, kNotV, dIfE, kIfE, dNil, dCons, kCons1, kCons2, dTup, kTup, dLst, kLst, dCall, kCall, spN, dCallK, kCK1, kCK2, pick, dMet, kM1, kM2, isLst, rApp, dSl, kSl1, kSl2, kSl3, rSl, dNoP, dPart, kPart,
  rAdd, rSub, rMul, rMulT, rMulN, rInP, rFdiv, rMod, rPow, rShl, rShr, rAnd, rXor, rNeg, rEq, rNe, rLt, rLe, rGt, rGe, rIs, rIsNot, isNon, rIx, rIsi, rIsi2, isTy, spLen, spInt, spTuple, spAll, spAny, spMax, spMin, spAbs, spList, rIn, rNotIn, rIns, dRevL, kRev, dBack, kBack, dLc2, iEn, kEn, dSrtSet, kSrtSet, dChain, kCh1, kCh2, kCh3, iZp, kZp, dLenNew, dLenSet, kLenSet, kLenNew, dDicE, dDisp, isDic, rDset, dDget, kDg1, kDg2, dDget2, kDh1, kDh2, kDh3, rDget, gDb, kGd1, kGd2, dStp, kSt0, kSt1, kSt2, spSumB, rDin, dBits, kBits, rDnin, spLenD, dAugS, kAs1, kAs2, kAs3, kAs4, rRem, rIdx, spStr, dJoin, kJoin1, kJoin2, rPop1, rPop0, rRev, dDc, dTupRg, kTupRg, dLstRg, kLstRg, iSq, iRg1, kRg1, iRg2, kRg2, rIAdd, endsD,
  isL_iff, atI0, atI1, atI2, get_at0, get_at, List.set_set, List.length_set, lget_at0, lget_at, lget_hd, lget_tl, set_at0, set_at, app1, List.nil_append, List.cons_append, List.length_cons, List.length_nil, List.length_append,
  List.getElem?_cons_zero, List.getElem?_cons_succ, List.set_cons_zero, List.set_cons_succ, List.getElem?_nil, List.filterMap_cons, List.filterMap_nil, List.append_nil,
  Option.some.injEq, O.lst.injEq, exists_eq_left', exists_eq_left, exists_eq', List.cons.injEq, D.int.injEq, D.bl.injEq, D.tup.injEq, D.ref.injEq, D.str.injEq, Int.natCast_inj, true_and, and_true, and_self, Nat.reduceAdd, Nat.zero_add, Bool.not_true, Bool.not_false, reduceCtorEq, forall_const, imp_self, not_true_eq_false, not_false_eq_true, false_implies, true_implies, implies_true, Bool.true_eq_false, Bool.false_eq_true, Bool.true_or, Bool.or_true, Bool.false_or, Bool.or_false, Bool.and_true, Bool.true_and, decide_eq_true_eq, decide_eq_false_iff_not, Bool.not_eq_true', Bool.not_eq_false', decide_true, decide_false, or_false, false_or, exists_false, exists_and_left, and_assoc])
local macro_rules | `(tactic| walk_at "dz") => `(tactic| try simp only [dDrop, kDrop, dRet, dRetN, dIf, kIf, dNever, dNext, dBreak, dCont, dSet, kSet, dPar, kPar, dPar3, kPar3, dAug, kAug, dAsg, kAsg, gNm, gsNil, gsCons, gTp, gUl, gSb, kGs1, kGs2, rSet, dFor, kFor, dLc, dYes, wipeD, dRaise, kRaise, dTry, wTry, clrM, clrD, putD', dXv, kXv,
  dC, dVar, dUn, dOp, kOp1, kOp2, dTst, kB, dAnd, kAnd, dOr, kOr, dNot, kNot, dAndV, kAndV, dOrV, kOrV, dNotV, kNotV, dIfE, kIfE, dNil, dCons, kCons1, kCons2, dTup, kTup, dLst, kLst, dCall, kCall, spN, dCallK, kCK1, kCK2, pick, dMet, kM1, kM2, isLst, rApp, dSl, kSl1, kSl2, kSl3, rSl, dNoP, dPart, kPart,
  rAdd, rSub, rMul, rMulT, rMulN, rInP, rFdiv, rMod, rPow, rShl, rShr, rAnd, rXor, rNeg, rEq, rNe, rLt, rLe, rGt, rGe, rIs, rIsNot, isNon, rIx, rIsi, rIsi2, isTy, spLen, spInt, spTuple, spAll, spAny, spMax, spMin, spAbs, spList, rIn, rNotIn, rIns, dRevL, kRev, dBack, kBack, dLc2, iEn, kEn, dSrtSet, kSrtSet, dChain, kCh1, kCh2, kCh3, iZp, kZp, dLenNew, dLenSet, kLenSet, kLenNew, dDicE, dDisp, isDic, rDset, dDget, kDg1, kDg2, dDget2, kDh1, kDh2, kDh3, rDget, gDb, kGd1, kGd2, dStp, kSt0, kSt1, kSt2, spSumB, rDin, dBits, kBits, rDnin, spLenD, dAugS, kAs1, kAs2, kAs3, kAs4, rRem, rIdx, spStr, dJoin, kJoin1, kJoin2, rPop1, rPop0, rRev, dDc, dTupRg, kTupRg, dLstRg, kLstRg, iSq, iRg1, kRg1, iRg2, kRg2, rIAdd, endsD,
  isL_iff, atI0, atI1, atI2, get_at0, get_at, List.set_set, List.length_set, lget_at0, lget_at, lget_hd, lget_tl, set_at0, set_at, app1, List.nil_append, List.cons_append, List.length_cons, List.length_nil, List.length_append,
  List.getElem?_cons_zero, List.getElem?_cons_succ, List.set_cons_zero, List.set_cons_succ, List.getElem?_nil, List.filterMap_cons, List.filterMap_nil, List.append_nil,
  Option.some.injEq, O.lst.injEq, exists_eq_left', exists_eq_left, exists_eq', List.cons.injEq, D.int.injEq, D.bl.injEq, D.tup.injEq, D.ref.injEq, D.str.injEq, Int.natCast_inj, true_and, and_true, and_self, Nat.reduceAdd, Nat.zero_add, Bool.not_true, Bool.not_false, reduceCtorEq, forall_const, imp_self, not_true_eq_false, not_false_eq_true, false_implies, true_implies, implies_true, Bool.true_eq_false, Bool.false_eq_true, Bool.true_or, Bool.or_true, Bool.false_or, Bool.or_false, Bool.and_true, Bool.true_and, decide_eq_true_eq, decide_eq_false_iff_not, Bool.not_eq_true', Bool.not_eq_false', decide_true, decide_false, or_false, false_or, exists_false, exists_and_left, and_assoc])
namespace Q
open PySem
open Spec PyProof.Rows L2
/-! ### a dict of cells: its keys -/
def natK (c : Nat) : Key := Sum.inl (c : Int)
abbrev natsD (l : List Nat) : List D := l.map fun c : Nat => D.int (c : Int)
theorem putD_keys {kvs : List (Key × D)} {ks : List Nat} {c : Nat} {v : D} (h : kvs.map (·.1) = ks.map natK) : (putD kvs (natK c) v).map (·.1) = (if c ∈ ks then ks else ks ++ [c]).map natK := by
  have hany : (kvs.any fun p => decide (p.1 = natK c)) = decide (c ∈ ks) := by
    have e : (kvs.any fun p => decide (p.1 = natK c)) = ((kvs.map (·.1)).any fun q => decide (q = natK c)) := by rw [List.any_map]; rfl
    rw [e, h, List.any_map, Bool.eq_iff_iff, List.any_eq_true, decide_eq_true_iff]
    constructor
    · rintro ⟨x, hx, e⟩
      have e := of_decide_eq_true e
      have : (x : Int) = (c : Int) := Sum.inl.inj e
      have : x = c := by omega
      exact this ▸ hx
    · intro hc
      exact ⟨c, hc, decide_eq_true rfl⟩
  unfold putD
  rw [hany]
  by_cases hc : c ∈ ks
  · rw [decide_eq_true hc, if_pos hc, ← h, List.map_map]
    refine List.map_congr_left fun p _ => ?_
    show (if p.1 = natK c then (p.1, v) else p).1 = p.1
    split <;> rfl
  · rw [decide_eq_false hc, if_neg hc, List.map_append, List.map_append, h]
    rfl
theorem dc_nats {it : ItD} {i : Nat} {v : D} {sg : Sl} {k : KD} {S : Sto} (cs : List Nat) (hi : i < sg.length) (hit : it.items = natsD cs) (hg : ∀ kvs, it.grd (S ++ [.dic kvs])) (hl : cs.length ≤ 1000000)
    (hk : ∀ (kvs : List (Key × D)) (ks : List Nat), kvs.map (·.1) = ks.map natK → ks.Nodup → (∀ c, c ∈ ks ↔ c ∈ cs) → k (.ref S.length) (S ++ [.dic kvs])) : kDc (gNm i) dYes (dVar i) (dC v) sg k it S := by
  unfold kDc
  rw [hit]
  have go : ∀ (rest done : List Nat) (kvs : List (Key × D)) (ks : List Nat), done ++ rest = cs → kvs.map (·.1) = ks.map natK → ks.Nodup → (∀ c, c ∈ ks ↔ c ∈ done) → ks.length ≤ done.length →
      wDc it.grd (gNm i) dYes (dVar i) (dC v) sg S.length (fun S' => k (.ref S.length) S') (natsD rest) (S ++ [.dic kvs]) := by
    intro rest
    induction rest with
    | nil =>
      intro done kvs ks hd h1 h2 h3 _
      rw [List.append_nil] at hd
      subst hd
      exact ⟨hg kvs, hk kvs ks h1 h2 h3⟩
    | cons c rest ih =>
      intro done kvs ks hd h1 h2 h3 h4
      refine ⟨hg kvs, ?_⟩
      simp only [gNm, rSet, dYes, dVar, dC, kDc3, Option.some.injEq, List.getElem?_set_self hi, exists_eq_left']
      refine ⟨fun _ => ?_, fun z => nomatch z⟩
      have hlen : kvs.length = ks.length := by
        have := congrArg List.length h1
        rwa [List.length_map, List.length_map] at this
      have hdl : done.length + (rest.length + 1) = cs.length := by rw [← hd, List.length_append, List.length_cons]
      refine ⟨kvs, natK c, rfl, by simp, by rw [hlen, sl16]; omega, ?_⟩
      rw [set_at0]
      refine ih (done ++ [c]) _ (if c ∈ ks then ks else ks ++ [c]) (by rw [List.append_assoc]; exact hd) (putD_keys h1) ?_ ?_ ?_
      · split
        · exact h2
        · rename_i hc
          exact List.nodup_append.mpr ⟨h2, by simp, fun a ha b hb e => by
            cases List.mem_singleton.mp hb
            exact hc (e ▸ ha)⟩
      · intro y
        rw [List.mem_append, List.mem_singleton, ← h3]
        split
        · rename_i hc
          exact ⟨.inl, fun z => z.elim id fun e => e ▸ hc⟩
        · rw [List.mem_append, List.mem_singleton]
      · rw [List.length_append, List.length_singleton]
        split
        · omega
        · rw [List.length_append, List.length_singleton]; omega
  exact go cs [] [] [] rfl rfl List.nodup_nil (fun _ => Iff.rfl) (Nat.le_refl _)
theorem nodup_len {m : Nat} : ∀ {l : List Nat}, l.Nodup → (∀ c ∈ l, c < m) → l.length ≤ m := by
  induction m with
  | zero =>
    intro l _ h
    cases l with
    | nil => exact Nat.le_refl _
    | cons a l => exact absurd (h a List.mem_cons_self) (by omega)
  | succ m ih =>
    intro l hn h
    have h1 := ih (l := l.filter fun c => decide (c ≠ m)) (hn.filter _) fun c hc => by
      rw [List.mem_filter, decide_eq_true_iff] at hc
      have := h c hc.1
      omega
    have h2 : l.length ≤ (l.filter fun c => decide (c ≠ m)).length + 1 := by
      clear ih h1 h
      induction l with
      | nil => exact Nat.zero_le _
      | cons a l ih2 =>
        rw [List.nodup_cons] at hn
        rw [List.filter_cons]
        by_cases e : a = m
        · subst e
          rw [if_neg (by simp)]
          have : (l.filter fun c => decide (c ≠ a)) = l := List.filter_eq_self.mpr fun c hc => decide_eq_true fun e => hn.1 (e ▸ hc)
          rw [this, List.length_cons]
          exact Nat.le_refl _
        · rw [if_pos (decide_eq_true e), List.length_cons, List.length_cons]
          have := ih2 hn.2
          omega
    omega
/-! ### books.py, more -/
def rowL (S : Sto) (d : D) (ds : List D) : Prop := d = .tup ds ∨ ∃ n, d = .ref n ∧ lget S n = some ds
theorem rowL_app {S : Sto} {d : D} {ds : List D} (G : Sto) (h : rowL S d ds) : rowL (S ++ G) d ds := h.imp id fun ⟨n, e, q⟩ => ⟨n, e, lget_app q⟩
theorem asc_of_sorted {ms : List Int} {ks : List Nat} (hp : ms.Perm (ks.map fun c : Nat => (c : Int))) (hs : ms.Pairwise (· ≤ ·)) (hn : ks.Nodup) : ∃ r : List Nat, ms = r.map (fun c : Nat => (c : Int)) ∧ r.Pairwise (· < ·) ∧ ∀ c, c ∈ r ↔ c ∈ ks := by
  have e1 : ms = (ms.map Int.toNat).map fun c : Nat => (c : Int) := by
    rw [List.map_map]
    conv => lhs; rw [← List.map_id ms]
    refine List.map_congr_left fun i hi => ?_
    obtain ⟨c, _, rfl⟩ := List.mem_map.mp (hp.mem_iff.mp hi)
    rfl
  have e2 : (ms.map Int.toNat).Perm ks := by
    have := hp.map Int.toNat
    rw [List.map_map] at this
    have e : ks.map (Int.toNat ∘ fun c : Nat => (c : Int)) = ks := by
      conv => rhs; rw [← List.map_id ks]
      exact List.map_congr_left fun c _ => rfl
    rwa [e] at this
  refine ⟨ms.map Int.toNat, e1, ?_, fun c => e2.mem_iff⟩
  have hn2 : (ms.map Int.toNat).Nodup := e2.nodup_iff.mpr hn
  rw [e1] at hs
  have hs2 := List.pairwise_map.mp hs
  exact (hs2.and hn2).imp fun h => by
    have := h.1
    have := h.2
    omega
def sp_row_of_cells : SpD := fun ds S k _ => ∃ (d : D) (cs : List Nat), ds = [d] ∧ rowL S d (natsD cs) ∧ cs.length ≤ 1000000 ∧ (∀ c ∈ cs, c < 63) ∧ ∀ r : List Nat, r.Pairwise (· < ·) → (∀ c, c ∈ r ↔ c ∈ cs) → k (rowD r) S
/-- row_of_cells(cells); slots: 0 cells, 1 cell -/
def t_row_of_cells : TSD := (dRet (dCall spTuple (dCons (dCall spSortedD (dCons (dDc (iSq (dVar 0)) (gNm 1) dYes (dVar 1) (dC (.bl true)) [1]) dNil)) dNil)))

theorem k_row_of_cells : Keeps 1 2 t_row_of_cells sp_row_of_cells := by
  intro ds S k x hl cS cd h
  obtain ⟨d, cs, rfl, hd, hz, hc, h⟩ := h
  show t_row_of_cells (endsD S.length k x) [some d, none] S
  simp only [t_row_of_cells]
  have fin : ∀ (d : D) (kvs : List (Key × D)) (ks : List Nat), kvs.map (·.1) = ks.map natK → ks.Nodup → (∀ c, c ∈ ks ↔ c ∈ cs) → spSortedD [.ref S.length] (S ++ [.dic kvs]) (kCons1 dNil [some d, none] (kCall spTuple (wk S.length k) (wkX S.length x)) (wkX S.length x)) (wkX S.length x) := by
    intro d kvs ks hk hn hm
    refine ⟨kvs, ks.map fun c : Nat => (c : Int), by simp, by rw [hk, List.map_map]; rfl, ?_, fun ms hp hs => ?_⟩
    · rw [List.length_map]
      exact Nat.lt_succ_of_le (nodup_len hn fun c hcc => hc c ((hm c).mp hcc))
    · obtain ⟨r, rfl, hr, hrm⟩ := asc_of_sorted hp hs hn
      rw [map_natint]
      walk_at "dx"
      exact wk_drop rfl cS (cl_cells _ r) (h r hr fun c => (hrm c).trans (hm c))
  rcases hd with rfl | ⟨n, rfl, hn⟩
  · walk_at "dx"
    refine dc_nats cs (by simp) rfl (fun _ => trivial) hz fun kvs ks hk hn hm => ?_
    walk_at "dx"
    exact fin _ kvs ks hk hn hm
  · walk_at "dx"
    refine ⟨_, hn, dc_nats cs (by simp) rfl (fun _ => lget_app hn) hz fun kvs ks hk hn hm => ?_⟩
    walk_at "dx"
    exact fin _ kvs ks hk hn hm
def sp_is_row_or_list : SpD := fun ds S k _ => ∃ d xs, ds = [d] ∧ rowL S d xs ∧ k (.bl true) S
theorem wkX_drop {S G : Sto} {n : Nat} {xd : XD} {y : Str} {d : D} (hn : S.length = n) (cS : clS S) (cd : clD S.length d) (h : xd (y, d) S) : wkX n xd (y, d) (S ++ G) := by
  refine .inr ⟨fun k => k, d, S, ⟨fun _ _ => rfl, by omega, fun _ _ _ _ e => e, fun k o e => ⟨cS k o e, ?_⟩, (mapR_id (fun _ _ => rfl) d cd).symm, cd⟩, h⟩
  rw [mapO_id (fun _ _ => rfl) o (cS k o e)]
  exact get_app e
/-- a list or tuple of cells, one or more -/
def goodC (m : Nat) (xs : List D) : Bool := !xs.isEmpty && xs.all (isBelowD m)
theorem goodC_nats {m : Nat} {cs : List Nat} (hne : cs ≠ []) (hc : ∀ c ∈ cs, c < m) : goodC m (natsD cs) = true := by
  unfold goodC
  have e : (natsD cs).isEmpty = false := by
    cases cs with
    | nil => exact absurd rfl hne
    | cons a l => rfl
  rw [e, Bool.not_false, Bool.true_and, List.all_map]
  refine List.all_eq_true.mpr fun c hcc => ?_
  have := hc c hcc
  show (decide (0 ≤ (c : Int)) && decide ((c : Int) < (m : Int))) = true
  rw [decide_eq_true (by omega), decide_eq_true (by omega)]
  rfl
theorem goodC_no {m : Nat} {cs : List Nat} (h : cs = [] ∨ ∃ c ∈ cs, m ≤ c) : goodC m (natsD cs) = false := by
  cases e : goodC m (natsD cs) with
  | false => rfl
  | true =>
    obtain ⟨h1, h2⟩ := Bool.and_eq_true_iff.mp e
    rcases h with rfl | ⟨c, hc, hle⟩
    · cases h1
    · have : (decide (0 ≤ (c : Int)) && decide ((c : Int) < (m : Int))) = true := List.all_eq_true.mp h2 (.int (c : Int)) (List.mem_map.mpr ⟨c, hc, rfl⟩)
      have h3 := (Bool.and_eq_true_iff.mp this).2
      have := of_decide_eq_true h3
      omega
def itemsX (S : Sto) (d : D) (xs : List D) : Prop := rowL S d xs ∧ xs.length ≤ 1000000 ∧ ∀ e ∈ xs, okD S e
theorem itemsX_nats {S : Sto} {d : D} {cs : List Nat} (h : rowL S d (natsD cs)) (hz : cs.length ≤ 1000000) : itemsX S d (natsD cs) := ⟨h, by rw [List.length_map]; exact hz, fun e he => by
  obtain ⟨c, _, rfl⟩ := List.mem_map.mp he
  exact okD_int⟩
theorem itemsX_app {S : Sto} {d : D} {xs : List D} (G : Sto) (h : itemsX S d xs) : itemsX (S ++ G) d xs := ⟨rowL_app G h.1, h.2.1, fun e he => okD_app G (h.2.2 e he)⟩
def sp_check_cells : SpD := fun ds S k x => ∃ (m : Nat) (d : D) (xs : List D), ds = [.int m, d] ∧ itemsX S d xs ∧ (goodC m xs = true → k .non S) ∧ (goodC m xs = false → x ("InvalidRow", d) S)
theorem cells_ok {S : Sto} {m : Nat} {d : D} {cs : List Nat} {k : KD} {x : XD} (hd : rowL S d (natsD cs)) (hne : cs ≠ []) (hz : cs.length ≤ 1000000) (hc : ∀ c ∈ cs, c < m) (h : k .non S) : sp_check_cells [.int m, d] S k x :=
  ⟨m, d, _, rfl, itemsX_nats hd hz, fun _ => h, fun z => (by rw [goodC_nats hne hc] at z; cases z)⟩
theorem cells_no {S : Sto} {m : Nat} {d : D} {cs : List Nat} {k : KD} {x : XD} (hd : rowL S d (natsD cs)) (hz : cs.length ≤ 1000000) (hc : cs = [] ∨ ∃ c ∈ cs, m ≤ c) (h : x ("InvalidRow", d) S) : sp_check_cells [.int m, d] S k x :=
  ⟨m, d, _, rfl, itemsX_nats hd hz, fun z => (by rw [goodC_no hc] at z; cases z), fun _ => h⟩
/-- is_row_or_list(value); slots: 0 value -/
def t_is_row_or_list : TSD := (dRet (dUn (rIsi2 .list .tuple) (dVar 0)))
/-- check_cells(m, row); slots: 0 m, 1 row, 2 cell -/
def t_check_cells : TSD := (dIf (dOr (dNot (dTst (dCall (spN 1 sp_is_row_or_list) (dCons (dVar 1) dNil)))) (dOr (dTst (dOp rEq (dCall spLen (dCons (dVar 1) dNil)) (dC (.int 0)))) (dNot (dTst (dCall spAll (dCons (dLc (iSq (dVar 1)) (gNm 2) dYes (dCall (spN 2 sp_is_below) (dCons (dVar 2) (dCons (dVar 0) dNil))) [2]) dNil)))))) (dRaise "InvalidRow" (dCons (dVar 1) dNil)) dNext)

local macro_rules | `(tactic| walk_at "dzs") => `(tactic| try simp only [sp_is_integer, sp_is_natural, sp_is_below, sp_is_row_or_list, isIntD, isNatD, isBelowD, dDrop, kDrop, dRet, dRetN, dIf, kIf, dNever, dNext, dBreak, dCont, dSet, kSet, dPar, kPar, dPar3, kPar3, dAug, kAug, dAsg, kAsg, gNm, gsNil, gsCons, gTp, gUl, gSb, kGs1, kGs2, rSet, dFor, kFor, dLc, dYes, wipeD, dRaise, kRaise, dTry, wTry, clrM, clrD, putD', dXv, kXv,
  dC, dVar, dUn, dOp, kOp1, kOp2, dTst, kB, dAnd, kAnd, dOr, kOr, dNot, kNot, dAndV, kAndV, dOrV, kOrV, dNotV, kNotV, dIfE, kIfE, dNil, dCons, kCons1, kCons2, dTup, kTup, dLst, kLst, dCall, kCall, spN, dCallK, kCK1, kCK2, pick, dMet, kM1, kM2, isLst, rApp, dSl, kSl1, kSl2, kSl3, rSl, dNoP, dPart, kPart,
  rAdd, rSub, rMul, rMulT, rMulN, rInP, rFdiv, rMod, rPow, rShl, rShr, rAnd, rXor, rNeg, rEq, rNe, rLt, rLe, rGt, rGe, rIs, rIsNot, isNon, rIx, rIsi, rIsi2, isTy, spLen, spInt, spTuple, spAll, spAny, spMax, spMin, spAbs, spList, rIn, rNotIn, rIns, dRevL, kRev, dBack, kBack, dLc2, iEn, kEn, dSrtSet, kSrtSet, dChain, kCh1, kCh2, kCh3, iZp, kZp, dLenNew, dLenSet, kLenSet, kLenNew, dDicE, dDisp, isDic, rDset, dDget, kDg1, kDg2, dDget2, kDh1, kDh2, kDh3, rDget, gDb, kGd1, kGd2, dStp, kSt0, kSt1, kSt2, spSumB, rDin, dBits, kBits, rDnin, spLenD, dAugS, kAs1, kAs2, kAs3, kAs4, rRem, rIdx, spStr, dJoin, kJoin1, kJoin2, rPop1, rPop0, rRev, dDc, dTupRg, kTupRg, dLstRg, kLstRg, iSq, iRg1, kRg1, iRg2, kRg2, rIAdd, endsD,
  isL_iff, atI0, atI1, atI2, get_at0, get_at, List.set_set, List.length_set, lget_at0, lget_at, lget_hd, lget_tl, set_at0, set_at, app1, List.nil_append, List.cons_append, List.length_cons, List.length_nil, List.length_append,
  List.getElem?_cons_zero, List.getElem?_cons_succ, List.set_cons_zero, List.set_cons_succ, List.getElem?_nil, List.filterMap_cons, List.filterMap_nil, List.append_nil,
  Option.some.injEq, O.lst.injEq, exists_eq_left', exists_eq_left, exists_eq', List.cons.injEq, D.int.injEq, D.bl.injEq, D.tup.injEq, D.ref.injEq, D.str.injEq, Int.natCast_inj, true_and, and_true, and_self, Nat.reduceAdd, Nat.zero_add, Bool.not_true, Bool.not_false, reduceCtorEq, forall_const, imp_self, not_true_eq_false, not_false_eq_true, false_implies, true_implies, implies_true, Bool.true_eq_false, Bool.false_eq_true, Bool.true_or, Bool.or_true, Bool.false_or, Bool.or_false, Bool.and_true, Bool.true_and, decide_eq_true_eq, decide_eq_false_iff_not, Bool.not_eq_true', Bool.not_eq_false', decide_true, decide_false, or_false, false_or, exists_false, exists_and_left, and_assoc])
local macro_rules | `(tactic| walk_at "ds") => `(tactic| try simp only [sp_is_integer, sp_is_natural, sp_is_below, sp_is_row_or_list, isIntD, isNatD, isBelowD, dSeq, dDrop, kDrop, dRet, dRetN, dIf, kIf, dNever, dNext, dBreak, dCont, dSet, kSet, dPar, kPar, dPar3, kPar3, dAug, kAug, dAsg, kAsg, gNm, gsNil, gsCons, gTp, gUl, gSb, kGs1, kGs2, rSet, dFor, kFor, dLc, dYes, wipeD, dRaise, kRaise, dTry, wTry, clrM, clrD, putD', dXv, kXv,
  dC, dVar, dUn, dOp, kOp1, kOp2, dTst, kB, dAnd, kAnd, dOr, kOr, dNot, kNot, dAndV, kAndV, dOrV, kOrV, dNotV, kNotV, dIfE, kIfE, dNil, dCons, kCons1, kCons2, dTup, kTup, dLst, kLst, dCall, kCall, spN, dCallK, kCK1, kCK2, pick, dMet, kM1, kM2, isLst, rApp, dSl, kSl1, kSl2, kSl3, rSl, dNoP, dPart, kPart,
  rAdd, rSub, rMul, rMulT, rMulN, rInP, rFdiv, rMod, rPow, rShl, rShr, rAnd, rXor, rNeg, rEq, rNe, rLt, rLe, rGt, rGe, rIs, rIsNot, isNon, rIx, rIsi, rIsi2, isTy, spLen, spInt, spTuple, spAll, spAny, spMax, spMin, spAbs, spList, rIn, rNotIn, rIns, dRevL, kRev, dBack, kBack, dLc2, iEn, kEn, dSrtSet, kSrtSet, dChain, kCh1, kCh2, kCh3, iZp, kZp, dLenNew, dLenSet, kLenSet, kLenNew, dDicE, dDisp, isDic, rDset, dDget, kDg1, kDg2, dDget2, kDh1, kDh2, kDh3, rDget, gDb, kGd1, kGd2, dStp, kSt0, kSt1, kSt2, spSumB, rDin, dBits, kBits, rDnin, spLenD, dAugS, kAs1, kAs2, kAs3, kAs4, rRem, rIdx, spStr, dJoin, kJoin1, kJoin2, rPop1, rPop0, rRev, dDc, dTupRg, kTupRg, dLstRg, kLstRg, iSq, iRg1, kRg1, iRg2, kRg2, rIAdd, endsD,
  isL_iff, atI0, atI1, atI2, get_at0, get_at, List.set_set, List.length_set, lget_at0, lget_at, lget_hd, lget_tl, set_at0, set_at, app1, List.nil_append, List.cons_append, List.length_cons, List.length_nil, List.length_append,
  List.getElem?_cons_zero, List.getElem?_cons_succ, List.set_cons_zero, List.set_cons_succ, List.getElem?_nil, List.filterMap_cons, List.filterMap_nil, List.append_nil,
  Option.some.injEq, O.lst.injEq, exists_eq_left', exists_eq_left, exists_eq', List.cons.injEq, D.int.injEq, D.bl.injEq, D.tup.injEq, D.ref.injEq, D.str.injEq, Int.natCast_inj, true_and, and_true, and_self, Nat.reduceAdd, Nat.zero_add, Bool.not_true, Bool.not_false, reduceCtorEq, forall_const, imp_self, not_true_eq_false, not_false_eq_true, false_implies, true_implies, implies_true, Bool.true_eq_false, Bool.false_eq_true, Bool.true_or, Bool.or_true, Bool.false_or, Bool.or_false, Bool.and_true, Bool.true_and, decide_eq_true_eq, decide_eq_false_iff_not, Bool.not_eq_true', Bool.not_eq_false', decide_true, decide_false, or_false, false_or, exists_false, exists_and_left, and_assoc])
theorem k_is_row_or_list : Keeps 1 1 t_is_row_or_list sp_is_row_or_list := by
  intro ds S k x hl cS cd h
  obtain ⟨d, xs, rfl, hd, h⟩ := h
  show t_is_row_or_list (endsD S.length k x) [some d] S
  have h' := wk_now (n := S.length) h
  simp only [t_is_row_or_list]
  rcases hd with rfl | ⟨n, rfl, hn⟩
  · walk_at "dx"
    exact h'
  · walk_at "dx"
    simp only [tyR_of hn, Option.some.injEq, exists_eq_left', isTy]
    exact h'
theorem k_check_cells : Keeps 2 3 t_check_cells sp_check_cells := by
  intro ds S k x hl cS cd h
  obtain ⟨m, d, xs, rfl, ⟨hd, hz, hk⟩, h1, h2⟩ := h
  show t_check_cells (endsD S.length k x) [some (.int m), some d, none] S
  simp only [t_check_cells]
  have hlen : xs.length ≤ sizeLine := sl_ok _ hz
  have c1 : clD S.length d := cd.2.1
  have el : ∀ d1 ∈ xs, ∀ (acc : List D) (kk : KD), kk (.bl (isBelowD m d1)) (S ++ [.lst acc]) → dCall (spN 2 sp_is_below) (dCons (dVar 2) (dCons (dVar 0) dNil)) [some (.int m), some d, some d1] (S ++ [.lst acc]) kk XF := fun d1 h1 acc kk hk2 => by
    walk_at "dx"
    exact ⟨_, m, rfl, okD_app _ (hk d1 h1), hk2⟩
  rcases hd with rfl | ⟨n, rfl, hn⟩
  · walk_at "dx"
    refine ⟨_, _, rfl, .inl rfl, ?_⟩
    walk_at "dx"
    refine ⟨fun z => .inl (h2 ?_), fun z => lc_map (fun d => .bl (isBelowD m d)) el (fun _ => trivial) hlen ?_⟩
    · have e : xs = [] := List.eq_nil_of_length_eq_zero (by omega)
      subst e
      rfl
    walk_at "dx"
    refine ⟨xs.map (isBelowD m), by rw [List.map_map]; rfl, ?_⟩
    have e1 : (xs.map (isBelowD m)).all id = goodC m xs := by
      unfold goodC
      rw [List.all_map]
      have : xs.isEmpty = false := by
        cases xs with
        | nil => exact absurd rfl z
        | cons a l => rfl
      rw [this]
      rfl
    rw [e1]
    cases e : goodC m xs with
    | true =>
      walk_at "dx"
      exact wk_drop rfl cS trivial (h1 e)
    | false =>
      walk_at "dx"
      exact wkX_drop rfl cS c1 (h2 e)
  · walk_at "dx"
    refine ⟨_, _, rfl, .inr ⟨n, rfl, hn⟩, ?_⟩
    walk_at "dx"
    refine ⟨_, hn, fun z => .inl (h2 ?_), fun z => ⟨_, hn, lc_map (fun d => .bl (isBelowD m d)) el (fun _ => lget_app hn) hlen ?_⟩⟩
    · have e : xs = [] := List.eq_nil_of_length_eq_zero (by omega)
      subst e
      rfl
    walk_at "dx"
    refine ⟨xs.map (isBelowD m), by rw [List.map_map]; rfl, ?_⟩
    have e1 : (xs.map (isBelowD m)).all id = goodC m xs := by
      unfold goodC
      rw [List.all_map]
      have : xs.isEmpty = false := by
        cases xs with
        | nil => exact absurd rfl z
        | cons a l => rfl
      rw [this]
      rfl
    rw [e1]
    cases e : goodC m xs with
    | true =>
      walk_at "dx"
      exact wk_drop rfl cS trivial (h1 e)
    | false =>
      walk_at "dx"
      exact wkX_drop rfl cS c1 (h2 e)
/-- the ascending row of these cells -/
def IsRowOf (r cs : List Nat) : Prop := r.Pairwise (· < ·) ∧ ∀ c, c ∈ r ↔ c ∈ cs
theorem asc_ext : ∀ {a b : List Nat}, a.Pairwise (· < ·) → b.Pairwise (· < ·) → (∀ c, c ∈ a ↔ c ∈ b) → a = b
  | [], [], _, _, _ => rfl
  | [], y :: b, _, _, h => absurd ((h y).mpr List.mem_cons_self) (by simp)
  | x :: a, [], _, _, h => absurd ((h x).mp List.mem_cons_self) (by simp)
  | x :: a, y :: b, ha, hb, h => by
    rw [List.pairwise_cons] at ha hb
    have h1 := (h x).mp List.mem_cons_self
    have h2 := (h y).mpr List.mem_cons_self
    have e : x = y := by
      rcases List.mem_cons.mp h1 with e | e
      · exact e
      · rcases List.mem_cons.mp h2 with e' | e'
        · exact e'.symm
        · have := hb.1 x e
          have := ha.1 y e'
          omega
    subst e
    congr 1
    refine asc_ext ha.2 hb.2 fun c => ?_
    have := h c
    simp only [List.mem_cons] at this
    constructor
    · intro hc
      have lt := ha.1 c hc
      exact (this.mp (.inr hc)).resolve_left (by omega)
    · intro hc
      have lt := hb.1 c hc
      exact (this.mpr (.inr hc)).resolve_left (by omega)
def LotOk (rows : List (List Nat)) (l : List Nat) : Prop := l.Pairwise (· < ·) ∧ ∀ c ∈ l, c < rows.length
def sp_with_key : SpD := fun ds S k x => (∃ (m : Nat) (rows : List (List Nat)) (d : D) (cs r : List Nat), ds = [bookD m rows, d] ∧ BookOk m rows ∧ m ≤ 63 ∧ rowL S d (natsD cs) ∧ cs ≠ [] ∧ cs.length ≤ 1000000 ∧ (∀ c ∈ cs, c < m) ∧ IsRowOf r cs ∧ k (bookD m (rows ++ [r])) S) ∨ ∃ (m : Nat) (rows : List (List Nat)) (d : D) (xs : List D), ds = [bookD m rows, d] ∧ BookOk m rows ∧ itemsX S d xs ∧ goodC m xs = false ∧ x ("InvalidRow", d) S
def sp_without_key : SpD := fun ds S k _ => ∃ (m key : Nat) (rows : List (List Nat)), ds = [bookD m rows, .int key] ∧ BookOk m rows ∧ key < rows.length ∧ k (bookD m (rows.take key ++ rows.drop (key + 1))) S
def sp_check_key : SpD := fun ds S k _ => ∃ (m key : Nat) (rows : List (List Nat)), ds = [bookD m rows, .int key] ∧ key < rows.length ∧ k .non S
def sp_is_lot_of : SpD := fun ds S k _ => ∃ (m : Nat) (rows : List (List Nat)) (d : D), ds = [bookD m rows, d] ∧ okT S d ∧ rows.length ≤ 1000000 ∧ k (.bl (isAscD (rows.length : Int) d)) S
def sp_check_lot : SpD := fun ds S k x => ∃ (m : Nat) (rows : List (List Nat)) (d : D), ds = [bookD m rows, d] ∧ okT S d ∧ rows.length ≤ 1000000 ∧ (isAscD (rows.length : Int) d = true → k .non S) ∧ (isAscD (rows.length : Int) d = false → x ("InvalidLot", d) S)
def partR (rows : List (List Nat)) (l : List Nat) : List (List Nat) := l.map fun j => rows.getD j []
def sp_part_of : SpD := fun ds S k _ => ∃ (m : Nat) (rows : List (List Nat)) (l : List Nat), ds = [bookD m rows, .tup (natsD l)] ∧ LotOk rows l ∧ rows.length ≤ 1000000 ∧ k (bookD m (partR rows l)) S
def sp_part : SpD := fun ds S k x => (∃ (m : Nat) (rows : List (List Nat)) (l : List Nat), ds = [bookD m rows, .tup (natsD l)] ∧ BookOk m rows ∧ LotOk rows l ∧ k (bookD m (partR rows l)) S) ∨ ∃ (m : Nat) (rows : List (List Nat)) (d : D), ds = [bookD m rows, d] ∧ BookOk m rows ∧ okT S d ∧ isAscD (rows.length : Int) d = false ∧ x ("InvalidLot", d) S
/-- with_key(book, row); slots: 0 book, 1 row, 2 m, 3 rows -/
def t_with_key : TSD := (dSeq (dDrop (dCall (spN 1 sp_check_book) (dCons (dVar 0) dNil))) (dSeq (dAsg (dVar 0) (gTp 2 (gsCons (gNm 2) (gsCons (gNm 3) gsNil)))) (dSeq (dDrop (dCall (spN 2 sp_check_cells) (dCons (dVar 2) (dCons (dVar 1) dNil)))) (dRet (dTup (dCons (dVar 2) (dCons (dOp rAdd (dVar 3) (dTup (dCons (dCall (spN 1 sp_row_of_cells) (dCons (dVar 1) dNil)) dNil))) dNil)))))))
/-- without_key(book, key); slots: 0 book, 1 key, 2 m, 3 rows -/
def t_without_key : TSD := (dSeq (dDrop (dCall (spN 1 sp_check_book) (dCons (dVar 0) dNil))) (dSeq (dDrop (dCall (spN 2 sp_check_key) (dCons (dVar 0) (dCons (dVar 1) dNil)))) (dSeq (dAsg (dVar 0) (gTp 2 (gsCons (gNm 2) (gsCons (gNm 3) gsNil)))) (dRet (dTup (dCons (dVar 2) (dCons (dOp rAdd (dSl (dVar 3) dNoP (dPart (dVar 1))) (dSl (dVar 3) (dPart (dOp rAdd (dVar 1) (dC (.int 1)))) dNoP)) dNil)))))))
/-- check_key(book, key); slots: 0 book, 1 key -/
def t_check_key : TSD := (dIf (dNot (dTst (dCall (spN 2 sp_is_below) (dCons (dVar 1) (dCons (dCall spLen (dCons (dOp rIx (dVar 0) (dC (.int 1))) dNil)) dNil))))) (dRaise "InvalidKey" (dCons (dVar 1) dNil)) dNext)
/-- is_lot_of(book, told); slots: 0 book, 1 told -/
def t_is_lot_of : TSD := (dRet (dCall (spN 2 sp_is_ascending_below) (dCons (dVar 1) (dCons (dCall spLen (dCons (dOp rIx (dVar 0) (dC (.int 1))) dNil)) dNil))))
/-- check_lot(book, lot); slots: 0 book, 1 lot -/
def t_check_lot : TSD := (dIf (dNot (dTst (dCall (spN 2 sp_is_lot_of) (dCons (dVar 0) (dCons (dVar 1) dNil))))) (dRaise "InvalidLot" (dCons (dVar 1) dNil)) dNext)
/-- part_of(book, lot); slots: 0 book, 1 lot, 2 key -/
def t_part_of : TSD := (dRet (dTup (dCons (dOp rIx (dVar 0) (dC (.int 0))) (dCons (dCall spTuple (dCons (dLc (iSq (dVar 1)) (gNm 2) dYes (dOp rIx (dOp rIx (dVar 0) (dC (.int 1))) (dVar 2)) [2]) dNil)) dNil))))
/-- part(book, lot); slots: 0 book, 1 lot -/
def t_part : TSD := (dSeq (dDrop (dCall (spN 1 sp_check_book) (dCons (dVar 0) dNil))) (dSeq (dDrop (dCall (spN 2 sp_check_lot) (dCons (dVar 0) (dCons (dVar 1) dNil)))) (dRet (dCall (spN 2 sp_part_of) (dCons (dVar 0) (dCons (dVar 1) dNil))))))

theorem k_with_key : Keeps 2 4 t_with_key sp_with_key := by
  intro ds S k x hl cS cd h
  rcases h with ⟨m, rows, d, cs, r, rfl, hB, h63, hd, hne, hz, hc, hr, h⟩ | ⟨m, rows, d, xs, rfl, hB, hX, hg, h⟩
  rotate_left
  · show t_with_key (endsD S.length k x) [some (bookD m rows), some d, none, none] S
    simp only [t_with_key]
    walk_at "dx"
    refine ⟨_, rfl, okB_of hB, isBook_of hB, ?_⟩
    simp only [bookD]
    walk_at "dx"
    exact ⟨m, d, xs, rfl, hX, fun z => (by rw [hg] at z; cases z), fun _ => .inl h⟩
  show t_with_key (endsD S.length k x) [some (bookD m rows), some d, none, none] S
  simp only [t_with_key]
  walk_at "dx"
  refine ⟨_, rfl, okB_of hB, isBook_of hB, ?_⟩
  simp only [bookD]
  walk_at "dx"
  refine cells_ok hd hne hz hc ?_
  walk_at "dx"
  refine ⟨d, cs, rfl, hd, hz, fun c hcc => Nat.lt_of_lt_of_le (hc c hcc) h63, fun r1 h1 h2 => ?_⟩
  have e : r1 = r := asc_ext h1 hr.1 fun c => (h2 c).trans (hr.2 c).symm
  subst e
  walk_at "dx"
  rw [List.length_map]
  have := hB.2.2.1
  refine ⟨by decide, by rw [sl16]; omega, by decide, wk_now ?_⟩
  have e : bookD m (rows ++ [r1]) = .tup [.int (m : Int), .tup (rows.map rowD ++ [rowD r1])] := by
    unfold bookD
    rw [List.map_append]
    rfl
  rw [e] at h
  exact h
theorem k_check_key : Keeps 2 2 t_check_key sp_check_key := by
  intro ds S k x hl cS cd h
  obtain ⟨m, key, rows, rfl, hk, h⟩ := h
  show t_check_key (endsD S.length k x) [some (bookD m rows), some (.int key)] S
  simp only [t_check_key, bookD]
  walk_at "dx"
  rw [List.length_map]
  refine ⟨_, _, rfl, okD_int, ?_⟩
  have e : isBelowD (rows.length : Int) (.int (key : Int)) = true := by
    show (decide (0 ≤ (key : Int)) && decide ((key : Int) < (rows.length : Int))) = true
    rw [decide_eq_true (by omega), decide_eq_true (by omega)]
    rfl
  rw [e]
  walk_at "dx"
  exact wk_now h
theorem k_without_key : Keeps 2 4 t_without_key sp_without_key := by
  intro ds S k x hl cS cd h
  obtain ⟨m, key, rows, rfl, hB, hk, h⟩ := h
  show t_without_key (endsD S.length k x) [some (bookD m rows), some (.int key), none, none] S
  simp only [t_without_key]
  walk_at "dx"
  refine ⟨_, rfl, okB_of hB, isBook_of hB, ?_⟩
  walk_at "dx"
  refine ⟨m, key, rows, rfl, hk, ?_⟩
  simp only [bookD]
  walk_at "dx"
  have hz := hB.2.2.1
  rw [show (key : Int) + 1 = ((key + 1 : Nat) : Int) by push_cast; rfl, cut_take, cut_drop, ← List.map_take, ← List.map_drop, ← List.map_append]
  exact ⟨by simp only [List.length_map, List.length_take, List.length_drop]; rw [sl16]; omega, by decide, wk_now h⟩
theorem lot_asc {rows : List (List Nat)} {l : List Nat} (h : LotOk rows l) : isAscD (rows.length : Int) (.tup (natsD l)) = true := by
  have e : (natsD l).map intD = l.map fun c : Nat => (c : Int) := by
    rw [List.map_map]
    rfl
  have a1 : (natsD l).all (isBelowD (rows.length : Int)) = true := by
    rw [List.all_map]
    refine List.all_eq_true.mpr fun c hc => ?_
    have := h.2 c hc
    show (decide (0 ≤ (c : Int)) && decide ((c : Int) < (rows.length : Int))) = true
    rw [decide_eq_true (by omega), decide_eq_true (by omega)]
    rfl
  have a2 : ascB (l.map fun c : Nat => (c : Int)) = true := ascB_of (List.pairwise_map.mpr (h.1.imp fun h => by omega))
  unfold isAscD
  simp only [a1, e, a2]
  rfl
theorem lot_len {rows : List (List Nat)} {l : List Nat} (h : LotOk rows l) : l.length ≤ rows.length := asc_len (lo := 0) h.1 fun c hc => ⟨Nat.zero_le _, h.2 c hc⟩
theorem okT_lot {S : Sto} {l : List Nat} (h : l.length ≤ 1000000) : okT S (.tup (natsD l)) := ⟨okD_tup, fun ds e => by
  cases e
  refine ⟨by rw [List.length_map]; exact sl_ok _ h, fun y hy => ?_⟩
  obtain ⟨c, _, rfl⟩ := List.mem_map.mp hy
  exact okD_int⟩
theorem k_is_lot_of : Keeps 2 2 t_is_lot_of sp_is_lot_of := by
  intro ds S k x hl cS cd h
  obtain ⟨m, rows, d, rfl, hT, hz, h⟩ := h
  show t_is_lot_of (endsD S.length k x) [some (bookD m rows), some d] S
  simp only [t_is_lot_of, bookD]
  walk_at "dx"
  rw [List.length_map]
  exact ⟨_, _, rfl, hT, wk_now h⟩
theorem k_check_lot : Keeps 2 2 t_check_lot sp_check_lot := by
  intro ds S k x hl cS cd h
  obtain ⟨m, rows, d, rfl, hT, hz, h1, h2⟩ := h
  show t_check_lot (endsD S.length k x) [some (bookD m rows), some d] S
  simp only [t_check_lot]
  walk_at "dx"
  refine ⟨m, rows, d, rfl, hT, hz, ?_⟩
  cases e : isAscD (rows.length : Int) d with
  | true =>
    walk_at "dx"
    exact wk_now (h1 e)
  | false =>
    walk_at "dx"
    exact .inl (h2 e)
theorem lot_ok {S : Sto} {m : Nat} {rows : List (List Nat)} {l : List Nat} {k : KD} {x : XD} (hL : LotOk rows l) (hz : rows.length ≤ 1000000) (h : k .non S) : sp_check_lot [bookD m rows, .tup (natsD l)] S k x :=
  ⟨m, rows, _, rfl, okT_lot (Nat.le_trans (lot_len hL) hz), hz, fun _ => h, fun z => (by rw [lot_asc hL] at z; cases z)⟩
theorem k_part_of : Keeps 2 3 t_part_of sp_part_of := by
  intro ds S k x hl cS cd h
  obtain ⟨m, rows, l, rfl, hL, hz, h⟩ := h
  show t_part_of (endsD S.length k x) [some (bookD m rows), some (.tup (natsD l)), none] S
  simp only [t_part_of, bookD]
  walk_at "dx"
  have hlen : (natsD l).length ≤ sizeLine := by rw [List.length_map]; exact sl_ok _ (Nat.le_trans (lot_len hL) hz)
  refine lc_map (fun d => rowD (rows.getD (intD d).toNat [])) (fun d hd acc kk hk => ?_) (fun _ => trivial) hlen ?_
  · obtain ⟨c, hc, rfl⟩ := List.mem_map.mp hd
    have hlt := hL.2 c hc
    walk_at "dx"
    have e : (rows.map rowD)[c]? = some (rowD (rows.getD c [])) := by
      rw [List.getElem?_map, List.getD_eq_getElem?_getD, List.getElem?_eq_getElem hlt]
      rfl
    exact ⟨_, atI_nat e, hk⟩
  · walk_at "dx"
    have e : (natsD l).map (fun d => rowD (rows.getD (intD d).toNat [])) = (partR rows l).map rowD := by
      unfold partR
      rw [List.map_map, List.map_map]
      rfl
    rw [e]
    exact ⟨by decide, wk_drop rfl cS (cl_book _ m (partR rows l)) h⟩
theorem k_part : Keeps 2 2 t_part sp_part := by
  intro ds S k x hl cS cd h
  rcases h with ⟨m, rows, l, rfl, hB, hL, h⟩ | ⟨m, rows, d, rfl, hB, hT, hg, h⟩
  · show t_part (endsD S.length k x) [some (bookD m rows), some (.tup (natsD l))] S
    simp only [t_part]
    walk_at "dx"
    refine ⟨_, rfl, okB_of hB, isBook_of hB, ?_⟩
    walk_at "dx"
    refine lot_ok hL hB.2.2.1 ?_
    walk_at "dx"
    exact ⟨m, rows, l, rfl, hL, hB.2.2.1, wk_now h⟩
  · show t_part (endsD S.length k x) [some (bookD m rows), some d] S
    simp only [t_part]
    walk_at "dx"
    refine ⟨_, rfl, okB_of hB, isBook_of hB, ?_⟩
    walk_at "dx"
    exact ⟨m, rows, d, rfl, hT, hB.2.2.1, fun z => (by rw [hg] at z; cases z), fun _ => .inl h⟩
end Q
open Q
local macro_rules | `(tactic| walk_at "dx") => `(tactic| try simp only [dSeq, dDrop, kDrop, dRet, dRetN, dIf, kIf, dNever, dNext, dBreak, dCont, dSet, kSet, dPar, kPar, dPar3, kPar3, dAug, kAug, dAsg, kAsg, gNm, gsNil, gsCons, gTp, gUl, gSb, kGs1, kGs2, rSet, dFor, kFor, dLc, dYes, wipeD, dRaise, kRaise, dTry, wTry, clrM, clrD, putD', dXv, kXv,
  dC, dVar, dUn, dOp, kOp1, kOp2, dTst, kB, dAnd, kAnd, dOr, kOr, dNot, kNot, dAndV, kAndV, dOrV, kOrV, dNotV, kNotV, dIfE, kIfE, dNil, dCons, kCons1, kCons2, dTup, kTup, dLst, kLst, dCall, kCall, spN, dCallK, kCK1, kCK2, pick, dMet, kM1, kM2, isLst, rApp, dSl, kSl1, kSl2, kSl3, rSl, dNoP, dPart, kPart,
  rAdd, rSub, rMul, rMulT, rMulN, rInP, rFdiv, rMod, rPow, rShl, rShr, rAnd, rXor, rNeg, rEq, rNe, rLt, rLe, rGt, rGe, rIs, rIsNot, isNon, rIx, rIsi, rIsi2, isTy, spLen, spInt, spTuple, spAll, spAny, spMax, spMin, spAbs, spList, rIn, rNotIn, rIns, dRevL, kRev, dBack, kBack, dLc2, iEn, kEn, dSrtSet, kSrtSet, dChain, kCh1, kCh2, kCh3, iZp, kZp, dLenNew, dLenSet, kLenSet, kLenNew, dDicE, dDisp, isDic, rDset, dDget, kDg1, kDg2, dDget2, kDh1, kDh2, kDh3, rDget, gDb, kGd1, kGd2, dStp, kSt0, kSt1, kSt2, spSumB, rDin, dBits, kBits, rDnin, spLenD, dAugS, kAs1, kAs2, kAs3, kAs4, rRem, rIdx, spStr, dJoin, kJoin1, kJoin2, rPop1, rPop0, rRev, dDc, dTupRg, kTupRg, dLstRg, kLstRg, iSq, iRg1, kRg1, iRg2, kRg2, rIAdd, endsD,
  isL_iff, atI0, atI1, atI2, get_at0, get_at, List.set_set, List.length_set, lget_at0, lget_at, lget_hd, lget_tl, set_at0, set_at, app1, List.nil_append, List.cons_append, List.length_cons, List.length_nil, List.length_append,
  List.getElem?_cons_zero, List.getElem?_cons_succ, List.set_cons_zero, List.set_cons_succ, List.getElem?_nil, List.filterMap_cons, List.filterMap_nil, List.append_nil,
  Option.some.injEq, O.lst.injEq, exists_eq_left', exists_eq_left, exists_eq', List.cons.injEq, D.int.injEq, D.bl.injEq, D.tup.injEq, D.ref.injEq, D.str.injEq, Int.natCast_inj, true_and, and_true, and_self, Nat.reduceAdd, Nat.zero_add, Bool.not_true, Bool.not_false, reduceCtorEq, forall_const, imp_self, not_true_eq_false, not_false_eq_true, false_implies, true_implies, implies_true, Bool.true_eq_false, Bool.false_eq_true, Bool.true_or, Bool.or_true, Bool.false_or, Bool.or_false, Bool.and_true, Bool.true_and, decide_eq_true_eq, decide_eq_false_iff_not, Bool.not_eq_true', Bool.not_eq_false', decide_true, decide_false, or_false, false_or, exists_false, exists_and_left, and_assoc])
local macro_rules | `(tactic| walk_at "dz") => `(tactic| try simp only [dDrop, kDrop, dRet, dRetN, dIf, kIf, dNever, dNext, dBreak, dCont, dSet, kSet, dPar, kPar, dPar3, kPar3, dAug, kAug, dAsg, kAsg, gNm, gsNil, gsCons, gTp, gUl, gSb, kGs1, kGs2, rSet, dFor, kFor, dLc, dYes, wipeD, dRaise, kRaise, dTry, wTry, clrM, clrD, putD', dXv, kXv,
  dC, dVar, dUn, dOp, kOp1, kOp2, dTst, kB, dAnd, kAnd, dOr, kOr, dNot, kNot, dAndV, kAndV, dOrV, kOrV, dNotV, kNotV, dIfE, kIfE, dNil, dCons, kCons1, kCons2, dTup, kTup, dLst, kLst, dCall, kCall, spN, dCallK, kCK1, kCK2, pick, dMet, kM1, kM2, isLst, rApp, dSl, kSl1, kSl2, kSl3, rSl, dNoP, dPart, kPart,
  rAdd, rSub, rMul, rMulT, rMulN, rInP, rFdiv, rMod, rPow, rShl, rShr, rAnd, rXor, rNeg, rEq, rNe, rLt, rLe, rGt, rGe, rIs, rIsNot, isNon, rIx, rIsi, rIsi2, isTy, spLen, spInt, spTuple, spAll, spAny, spMax, spMin, spAbs, spList, rIn, rNotIn, rIns, dRevL, kRev, dBack, kBack, dLc2, iEn, kEn, dSrtSet, kSrtSet, dChain, kCh1, kCh2, kCh3, iZp, kZp, dLenNew, dLenSet, kLenSet, kLenNew, dDicE, dDisp, isDic, rDset, dDget, kDg1, kDg2, dDget2, kDh1, kDh2, kDh3, rDget, gDb, kGd1, kGd2, dStp, kSt0, kSt1, kSt2, spSumB, rDin, dBits, kBits, rDnin, spLenD, dAugS, kAs1, kAs2, kAs3, kAs4, rRem, rIdx, spStr, dJoin, kJoin1, kJoin2, rPop1, rPop0, rRev, dDc, dTupRg, kTupRg, dLstRg, kLstRg, iSq, iRg1, kRg1, iRg2, kRg2, rIAdd, endsD,
  isL_iff, atI0, atI1, atI2, get_at0, get_at, List.set_set, List.length_set, lget_at0, lget_at, lget_hd, lget_tl, set_at0, set_at, app1, List.nil_append, List.cons_append, List.length_cons, List.length_nil, List.length_append,
  List.getElem?_cons_zero, List.getElem?_cons_succ, List.set_cons_zero, List.set_cons_succ, List.getElem?_nil, List.filterMap_cons, List.filterMap_nil, List.append_nil,
  Option.some.injEq, O.lst.injEq, exists_eq_left', exists_eq_left, exists_eq', List.cons.injEq, D.int.injEq, D.bl.injEq, D.tup.injEq, D.ref.injEq, D.str.injEq, Int.natCast_inj, true_and, and_true, and_self, Nat.reduceAdd, Nat.zero_add, Bool.not_true, Bool.not_false, reduceCtorEq, forall_const, imp_self, not_true_eq_false, not_false_eq_true, false_implies, true_implies, implies_true, Bool.true_eq_false, Bool.false_eq_true, Bool.true_or, Bool.or_true, Bool.false_or, Bool.or_false, Bool.and_true, Bool.true_and, decide_eq_true_eq, decide_eq_false_iff_not, Bool.not_eq_true', Bool.not_eq_false', decide_true, decide_false, or_false, false_or, exists_false, exists_and_left, and_assoc])
namespace Q
open PySem
open Spec PyProof.Rows L2
/-! ### the laws' draws (decks) and the laws' own comparison -/
abbrev deckO (a b : Nat) : O := .lst [.int (a : Int), .int (b : Int)]
def sp__law_deck : SpD := fun ds S k _ => ∃ (n p : Nat) (ns : List Int), ds = [.ref n, .int p] ∧ S[n]? = some (.ro (ns.map D.int)) ∧ p < 2 ^ 32 ∧ ns.length ≤ sizeLine ∧ ∀ a b : Nat, b < 2 ^ 64 → k (.ref S.length) (S ++ [deckO a b])
def sp__law_take : SpD := fun ds S k _ => ∃ (n a b many : Nat), ds = [.ref n, .int many] ∧ 0 < many ∧ many < 2 ^ 100 ∧ S[n]? = some (deckO a b) ∧ b < 2 ^ 64 ∧ ∀ r a' b' : Nat, r < many → b' < 2 ^ 64 → k (.int r) (S.set n (deckO a' b'))
def spr__law_same : Nat → SpD
  | 0 => fun _ _ _ _ => False
  | n + 1 => fun ds S k _ => ∃ d e, ds = [d, e] ∧ sameD S n d e ∧ k (.bl true) S
def sp__law_same : SpD := spr__law_same 9
theorem spr__law_same_zero {ds : List D} {S : Sto} {k : KD} {x : XD} (h : spr__law_same 0 ds S k x) : False := h
local macro_rules | `(tactic| walk_at "dzs") => `(tactic| try simp only [sp__law_deck, sp__law_take, sp__law_same, dDrop, kDrop, dRet, dRetN, dIf, kIf, dNever, dNext, dBreak, dCont, dSet, kSet, dPar, kPar, dPar3, kPar3, dAug, kAug, dAsg, kAsg, gNm, gsNil, gsCons, gTp, gUl, gSb, kGs1, kGs2, rSet, dFor, kFor, dLc, dYes, wipeD, dRaise, kRaise, dTry, wTry, clrM, clrD, putD', dXv, kXv,
  dC, dVar, dUn, dOp, kOp1, kOp2, dTst, kB, dAnd, kAnd, dOr, kOr, dNot, kNot, dAndV, kAndV, dOrV, kOrV, dNotV, kNotV, dIfE, kIfE, dNil, dCons, kCons1, kCons2, dTup, kTup, dLst, kLst, dCall, kCall, spN, dCallK, kCK1, kCK2, pick, dMet, kM1, kM2, isLst, rApp, dSl, kSl1, kSl2, kSl3, rSl, dNoP, dPart, kPart,
  rAdd, rSub, rMul, rMulT, rMulN, rInP, rFdiv, rMod, rPow, rShl, rShr, rAnd, rXor, rNeg, rEq, rNe, rLt, rLe, rGt, rGe, rIs, rIsNot, isNon, rIx, rIsi, rIsi2, isTy, spLen, spInt, spTuple, spAll, spAny, spMax, spMin, spAbs, spList, rIn, rNotIn, rIns, dRevL, kRev, dBack, kBack, dLc2, iEn, kEn, dSrtSet, kSrtSet, dChain, kCh1, kCh2, kCh3, iZp, kZp, dLenNew, dLenSet, kLenSet, kLenNew, dDicE, dDisp, isDic, rDset, dDget, kDg1, kDg2, dDget2, kDh1, kDh2, kDh3, rDget, gDb, kGd1, kGd2, dStp, kSt0, kSt1, kSt2, spSumB, rDin, dBits, kBits, rDnin, spLenD, dAugS, kAs1, kAs2, kAs3, kAs4, rRem, rIdx, spStr, dJoin, kJoin1, kJoin2, rPop1, rPop0, rRev, dDc, dTupRg, kTupRg, dLstRg, kLstRg, iSq, iRg1, kRg1, iRg2, kRg2, rIAdd, endsD,
  isL_iff, atI0, atI1, atI2, get_at0, get_at, List.set_set, List.length_set, lget_at0, lget_at, lget_hd, lget_tl, set_at0, set_at, app1, List.nil_append, List.cons_append, List.length_cons, List.length_nil, List.length_append,
  List.getElem?_cons_zero, List.getElem?_cons_succ, List.set_cons_zero, List.set_cons_succ, List.getElem?_nil, List.filterMap_cons, List.filterMap_nil, List.append_nil,
  Option.some.injEq, O.lst.injEq, exists_eq_left', exists_eq_left, exists_eq', List.cons.injEq, D.int.injEq, D.bl.injEq, D.tup.injEq, D.ref.injEq, D.str.injEq, Int.natCast_inj, true_and, and_true, and_self, Nat.reduceAdd, Nat.zero_add, Bool.not_true, Bool.not_false, reduceCtorEq, forall_const, imp_self, not_true_eq_false, not_false_eq_true, false_implies, true_implies, implies_true, Bool.true_eq_false, Bool.false_eq_true, Bool.true_or, Bool.or_true, Bool.false_or, Bool.or_false, Bool.and_true, Bool.true_and, decide_eq_true_eq, decide_eq_false_iff_not, Bool.not_eq_true', Bool.not_eq_false', decide_true, decide_false, or_false, false_or, exists_false, exists_and_left, and_assoc])
local macro_rules | `(tactic| walk_at "ds") => `(tactic| try simp only [sp__law_deck, sp__law_take, sp__law_same, dSeq, dDrop, kDrop, dRet, dRetN, dIf, kIf, dNever, dNext, dBreak, dCont, dSet, kSet, dPar, kPar, dPar3, kPar3, dAug, kAug, dAsg, kAsg, gNm, gsNil, gsCons, gTp, gUl, gSb, kGs1, kGs2, rSet, dFor, kFor, dLc, dYes, wipeD, dRaise, kRaise, dTry, wTry, clrM, clrD, putD', dXv, kXv,
  dC, dVar, dUn, dOp, kOp1, kOp2, dTst, kB, dAnd, kAnd, dOr, kOr, dNot, kNot, dAndV, kAndV, dOrV, kOrV, dNotV, kNotV, dIfE, kIfE, dNil, dCons, kCons1, kCons2, dTup, kTup, dLst, kLst, dCall, kCall, spN, dCallK, kCK1, kCK2, pick, dMet, kM1, kM2, isLst, rApp, dSl, kSl1, kSl2, kSl3, rSl, dNoP, dPart, kPart,
  rAdd, rSub, rMul, rMulT, rMulN, rInP, rFdiv, rMod, rPow, rShl, rShr, rAnd, rXor, rNeg, rEq, rNe, rLt, rLe, rGt, rGe, rIs, rIsNot, isNon, rIx, rIsi, rIsi2, isTy, spLen, spInt, spTuple, spAll, spAny, spMax, spMin, spAbs, spList, rIn, rNotIn, rIns, dRevL, kRev, dBack, kBack, dLc2, iEn, kEn, dSrtSet, kSrtSet, dChain, kCh1, kCh2, kCh3, iZp, kZp, dLenNew, dLenSet, kLenSet, kLenNew, dDicE, dDisp, isDic, rDset, dDget, kDg1, kDg2, dDget2, kDh1, kDh2, kDh3, rDget, gDb, kGd1, kGd2, dStp, kSt0, kSt1, kSt2, spSumB, rDin, dBits, kBits, rDnin, spLenD, dAugS, kAs1, kAs2, kAs3, kAs4, rRem, rIdx, spStr, dJoin, kJoin1, kJoin2, rPop1, rPop0, rRev, dDc, dTupRg, kTupRg, dLstRg, kLstRg, iSq, iRg1, kRg1, iRg2, kRg2, rIAdd, endsD,
  isL_iff, atI0, atI1, atI2, get_at0, get_at, List.set_set, List.length_set, lget_at0, lget_at, lget_hd, lget_tl, set_at0, set_at, app1, List.nil_append, List.cons_append, List.length_cons, List.length_nil, List.length_append,
  List.getElem?_cons_zero, List.getElem?_cons_succ, List.set_cons_zero, List.set_cons_succ, List.getElem?_nil, List.filterMap_cons, List.filterMap_nil, List.append_nil,
  Option.some.injEq, O.lst.injEq, exists_eq_left', exists_eq_left, exists_eq', List.cons.injEq, D.int.injEq, D.bl.injEq, D.tup.injEq, D.ref.injEq, D.str.injEq, Int.natCast_inj, true_and, and_true, and_self, Nat.reduceAdd, Nat.zero_add, Bool.not_true, Bool.not_false, reduceCtorEq, forall_const, imp_self, not_true_eq_false, not_false_eq_true, false_implies, true_implies, implies_true, Bool.true_eq_false, Bool.false_eq_true, Bool.true_or, Bool.or_true, Bool.false_or, Bool.or_false, Bool.and_true, Bool.true_and, decide_eq_true_eq, decide_eq_false_iff_not, Bool.not_eq_true', Bool.not_eq_false', decide_true, decide_false, or_false, false_or, exists_false, exists_and_left, and_assoc])
/-- _law_deck(script, at); slots: 0 script, 1 at, 2 cell, 3 stir -/
def t__law_deck : TSD := (dSeq (dSet 2 (dC (.int 0))) (dSeq (dIf (dTst (dOp rLt (dVar 1) (dCall spLen (dCons (dVar 0) dNil)))) (dSet 2 (dOp rIx (dVar 0) (dVar 1))) dNext) (dSeq (dSet 3 (dOp rMod (dCall spInt (dCons (dOp rAdd (dOp rAdd (dVar 2) (dOp rMul (dC (.int 7919)) (dVar 1))) (dC (.int 104729))) dNil)) (dC (.int 2305843009213693951)))) (dSeq (dSet 3 (dOp rMod (dCall spInt (dCons (dOp rAdd (dOp rAdd (dOp rMul (dOp rMul (dVar 3) (dVar 3)) (dVar 3)) (dOp rMul (dC (.int 31)) (dVar 1))) (dC (.int 7))) dNil)) (dC (.int 2305843009213693951)))) (dSeq (dIf (dTst (dOp rLt (dVar 2) (dOp rPow (dC (.int 10)) (dC (.int 18))))) (dRet (dLst (dCons (dC (.int 0)) (dCons (dVar 3) dNil)))) dNext) (dRet (dLst (dCons (dOp rSub (dVar 2) (dOp rPow (dC (.int 10)) (dC (.int 18)))) (dCons (dVar 3) dNil)))))))))
/-- _law_take(deck, many); slots: 0 deck, 1 many, 2 taken -/
def t__law_take : TSD := (dSeq (dIf (dTst (dOp rGt (dOp rIx (dVar 0) (dC (.int 0))) (dC (.int 0)))) (dSeq (dSet 2 (dOp rMod (dCall spInt (dCons (dOp rIx (dVar 0) (dC (.int 0))) dNil)) (dVar 1))) (dSeq (dAsg (dOp rFdiv (dOp rIx (dVar 0) (dC (.int 0))) (dVar 1)) (gSb (dVar 0) (dC (.int 0)))) (dRet (dVar 2)))) dNext) (dSeq (dAsg (dOp rMod (dCall spInt (dCons (dOp rAdd (dOp rMul (dOp rIx (dVar 0) (dC (.int 1))) (dC (.int 6364136223846793005))) (dC (.int 1442695040888963407))) dNil)) (dOp rPow (dC (.int 2)) (dC (.int 64)))) (gSb (dVar 0) (dC (.int 1)))) (dRet (dOp rMod (dOp rFdiv (dOp rIx (dVar 0) (dC (.int 1))) (dOp rPow (dC (.int 2)) (dC (.int 33)))) (dVar 1)))))
/-- _law_same(found, due); slots: 0 found, 1 due, 2 at -/
def t__law_same (r : SpD) : TSD := (dSeq (dIf (dTst (dUn (rIsi2 .tuple .list) (dVar 1))) (dSeq (dIf (dOr (dTst (dOp rNe (dUn (rIsi .tuple) (dVar 0)) (dUn (rIsi .tuple) (dVar 1)))) (dTst (dOp rNe (dUn (rIsi .list) (dVar 0)) (dUn (rIsi .list) (dVar 1))))) (dRet (dC (.bl false))) dNext) (dSeq (dIf (dTst (dOp rNe (dCall spLen (dCons (dVar 0) dNil)) (dCall spLen (dCons (dVar 1) dNil)))) (dRet (dC (.bl false))) dNext) (dRet (dOp rEq (dLc (iRg1 (dCons (dCall spLen (dCons (dVar 1) dNil)) dNil)) (gNm 2) (dNot (dTst (dCall (spN 2 r) (dCons (dOp rIx (dVar 0) (dVar 2)) (dCons (dOp rIx (dVar 1) (dVar 2)) dNil))))) (dVar 2) [2]) (dLst dNil))))) dNext) (dSeq (dIf (dTst (dOp rIs (dVar 1) (dC .non))) (dRet (dOp rIs (dVar 0) (dC .non))) dNext) (dSeq (dIf (dTst (dUn (rIsi .str) (dVar 1))) (dRet (dAndV (dUn (rIsi .str) (dVar 0)) (dOp rEq (dVar 0) (dVar 1)))) dNext) (dSeq (dIf (dOr (dTst (dUn (rIsi .bool) (dVar 1))) (dTst (dUn (rIsi .bool) (dVar 0)))) (dRet (dAndV (dUn (rIsi .bool) (dVar 1)) (dAndV (dUn (rIsi .bool) (dVar 0)) (dOp rEq (dVar 0) (dVar 1))))) dNext) (dRet (dAndV (dUn (rIsi .int) (dVar 0)) (dOp rEq (dVar 0) (dVar 1))))))))

theorem ix20 : ixN 2 0 = some 0 := by decide
theorem ix21 : ixN 2 1 = some 1 := by decide
theorem divW {a m : Nat} (h0 : 0 < m) (hm : m < 2 ^ 100) : CDivW (a : Int) (m : Int) := ⟨by omega, Nat.lt_of_lt_of_le (log_lt (n := 100) (by simpa using hm) (by decide)) (by decide)⟩
theorem k__law_take : Keeps 2 3 t__law_take sp__law_take := by
  intro ds S k x hl cS cd h
  obtain ⟨n, a, b, many, rfl, h0, hm, hd, hb, h⟩ := h
  show t__law_take (endsD S.length k x) [some (.ref n), some (.int many), none] S
  have hL := lget_lst hd
  have hlt := get_lt hd
  simp only [t__law_take]
  walk_at "dx"
  simp only [hL, hd, atI0, atI1, Option.some.injEq, exists_eq_left', lget_set_self hd, O.lst.injEq, ix20, ix21, List.length_cons, List.length_nil, Nat.reduceAdd, List.set_cons_zero, List.set_cons_succ]
  refine ⟨fun ha => ⟨by omega, divW h0 hm, ?_⟩, fun ha => ⟨.inl (.inl ⟨by omega, by omega⟩), .inl ⟨by decide, by decide, by decide⟩, by decide, .inl ⟨by decide, by decide, by decide⟩, ⟨by decide, by decide +kernel⟩, by omega, ?_⟩⟩
  · exact wk_now (h (a % many) (a / many) b (Nat.mod_lt _ h0) hb)
  · have e : ((b : Int) * 6364136223846793005 + 1442695040888963407) % 2 ^ Int.toNat 64 = (((b * 6364136223846793005 + 1442695040888963407) % 2 ^ 64 : Nat) : Int) := by
      show _ % (2 : Int) ^ 64 = _
      omega
    rw [e]
    have e2 : (((b * 6364136223846793005 + 1442695040888963407) % 2 ^ 64 : Nat) : Int) / 2 ^ Int.toNat 33 % (many : Int) = ((((b * 6364136223846793005 + 1442695040888963407) % 2 ^ 64) / 2 ^ 33 % many : Nat) : Int) := rfl
    rw [e2]
    exact wk_now (h _ a _ (Nat.mod_lt _ h0) (Nat.mod_lt _ (by decide)))
theorem stir_ok (c p : Int) : MulOk (c % 2305843009213693951) (c % 2305843009213693951) ∧ MulOk (c % 2305843009213693951 * (c % 2305843009213693951)) (c % 2305843009213693951) ∧
    ∃ b : Nat, b < 2 ^ 64 ∧ (c % 2305843009213693951 * (c % 2305843009213693951) * (c % 2305843009213693951) + p) % 2305843009213693951 = (b : Int) := by
  generalize hs : c % 2305843009213693951 = s
  refine ⟨.inl (.inl ⟨by omega, by omega⟩), .inl (.inr ⟨by omega, by omega⟩), ?_⟩
  generalize s * s * s + p = t
  exact ⟨(t % 2305843009213693951).toNat, by omega, by omega⟩
theorem k__law_deck : Keeps 2 4 t__law_deck sp__law_deck := by
  intro ds S k x hl cS cd h
  obtain ⟨n, p, ns, rfl, hd, hp, hz, h⟩ := h
  show t__law_deck (endsD S.length k x) [some (.ref n), some (.int p), none, none] S
  have hL : lget S n = some (ns.map D.int) := by unfold lget; rw [hd]
  have fin : ∀ a b : Nat, b < 2 ^ 64 → wk S.length k (.ref S.length) (S ++ [.lst [.int (a : Int), .int (b : Int)]]) := fun a b hb => .inl (h a b hb)
  have m1 : MulOk 7919 (p : Int) := .inl (.inl ⟨by decide, by decide⟩)
  have m2 : MulOk 31 (p : Int) := .inl (.inl ⟨by decide, by decide⟩)
  have cp : PowOk 10 18 := .inl ⟨by decide, by decide, by decide⟩
  have two : 2 ≤ sizeLine := by decide
  have e18 : (10 : Int) ^ Int.toNat 18 = 1000000000000000000 := by decide
  by_cases hlt : p < ns.length
  · have hA : atI (ns.map D.int) (p : Int) = some (.int ns[p]) := atI_nat (by rw [List.getElem?_map, List.getElem?_eq_getElem hlt]; rfl)
    have hlt' : (p : Int) < (ns.length : Int) := by omega
    simp only [t__law_deck]
    walk_at "dx"
    simp only [hL, Option.some.injEq, exists_eq_left', List.length_map, hA, hlt', forall_const, not_true_eq_false, false_implies, and_true, true_implies, e18, m1, m2, cp, two, true_and]
    obtain ⟨q1, q2, b, hb, q3⟩ := stir_ok (ns[p] + 7919 * (p : Int) + 104729) (31 * (p : Int) + 7)
    rw [← Int.add_assoc] at q3
    rw [q3]
    refine ⟨by decide, q1, q2, by decide, fun h1 => fin 0 b hb, fun h1 => ?_⟩
    have e : ns[p] - 1000000000000000000 = ((ns[p] - 1000000000000000000).toNat : Int) := by omega
    rw [e]
    exact fin _ b hb
  · have hlt' : ¬ (p : Int) < (ns.length : Int) := by omega
    simp only [t__law_deck]
    walk_at "dx"
    simp only [hL, Option.some.injEq, exists_eq_left', List.length_map, hlt', forall_const, not_true_eq_false, false_implies, and_true, true_implies, e18, m1, m2, cp, two, true_and, not_false_eq_true]
    obtain ⟨q1, q2, b, hb, q3⟩ := stir_ok (0 + 7919 * (p : Int) + 104729) (31 * (p : Int) + 7)
    rw [← Int.add_assoc] at q3
    rw [q3]
    exact ⟨by decide, q1, q2, by decide, fun h1 => fin 0 b hb, fun h1 => absurd (show (0 : Int) < 1000000000000000000 by decide) h1⟩
theorem k__law_same (n : Nat) : Keeps 2 3 (t__law_same (spr__law_same n)) (spr__law_same (n + 1)) := by
  intro ds S k x hl cS cd h
  obtain ⟨d, e, rfl, hs, h⟩ := h
  show t__law_same (spr__law_same n) (endsD S.length k x) [some d, some e, none] S
  have h' := wk_now (n := S.length) h
  have flat : flatD d = true → d = e → t__law_same (spr__law_same n) (endsD S.length k x) [some d, some e, none] S := by
    intro f e1
    subst e1
    cases d <;> first | (exact absurd f Bool.false_ne_true) | (simp only [t__law_same]; walk_at "dx"; simpa using h')
  have cl0 : ∀ G, wk S.length k (.bl true) (S ++ G) := fun G => wk_drop rfl cS trivial h
  cases n with
  | zero => exact flat hs.1 hs.2
  | succ n =>
    have item : ∀ (m : Nat) (d : D), d ∈ (List.range ((m : Nat) : Int).toNat).map (fun i : Nat => D.int (0 + (i : Int))) → ∃ j : Nat, j < m ∧ d = .int (j : Int) := fun m d hd => by
      obtain ⟨j, hj, e⟩ := List.mem_map.mp hd
      have := List.mem_range.mp hj
      exact ⟨j, by omega, by rw [← e]; simp⟩
    rcases hs with ⟨f, e1⟩ | ⟨xs, ys, rfl, rfl, hz, hp⟩ | ⟨a, b, xs, ys, rfl, rfl, ha, hb, hz, hp⟩
    · exact flat f e1
    · have hlen := paired_len hp
      have hz' := hz
      rw [sl16] at hz'
      simp only [t__law_same]
      walk_at "dx"
      simp only [hlen]
      walk_at "dx"
      refine ⟨by omega, by omega, lc_filter (fun _ => false) id (fun d hd acc kk hk => ?_) (fun d hd z => nomatch z) (fun _ => trivial) (by simpa using hz) ?_⟩
      · obtain ⟨j, hj, rfl⟩ := item ys.length d hd
        have h1 : xs[j]? = some xs[j] := List.getElem?_eq_getElem (by omega)
        have h2 : ys[j]? = some ys[j] := List.getElem?_eq_getElem hj
        have hk : kk false (S ++ [.lst acc]) := hk
        walk_at "dx"
        simp only [atI_nat h1, atI_nat h2, Option.some.injEq, exists_eq_left']
        exact ⟨xs[j], ys[j], rfl, sameD_mono n _ _ (paired_get hp h1 h2), hk⟩
      · walk_at "dx"
        refine ⟨Nat.zero_le _, eqG_lst (xs := []) (ys := []) 0 0 ?_ ?_ rfl rfl ?_⟩
        · simp [lget]
        · simp [lget]
        · exact cl0 _
    · have hlen := paired_len hp
      have hz' := hz
      rw [sl16] at hz'
      simp only [t__law_same]
      walk_at "dx"
      simp only [ha, hb, tyR_of ha, tyR_of hb, Option.some.injEq, exists_eq_left', hlen, isTy]
      walk_at "dx"
      refine ⟨by omega, by omega, lc_filter (fun _ => false) id (fun d hd acc kk hk => ?_) (fun d hd z => nomatch z) (fun _ => trivial) (by simpa using hz) ?_⟩
      · obtain ⟨j, hj, rfl⟩ := item ys.length d hd
        have h1 : xs[j]? = some xs[j] := List.getElem?_eq_getElem (by omega)
        have h2 : ys[j]? = some ys[j] := List.getElem?_eq_getElem hj
        have hk : kk false (S ++ [.lst acc]) := hk
        walk_at "dx"
        simp only [lget_app ha, lget_app hb, atI_nat h1, atI_nat h2, Option.some.injEq, exists_eq_left']
        exact ⟨xs[j], ys[j], rfl, sameD_mono n _ _ (paired_get hp h1 h2), hk⟩
      · walk_at "dx"
        refine ⟨Nat.zero_le _, eqG_lst (xs := []) (ys := []) 0 0 ?_ ?_ rfl rfl ?_⟩
        · simp [lget]
        · simp [lget]
        · exact cl0 _
/-- a draw, where the deck stands written, with more behind it -/
theorem take_set {S G : Sto} {n a b many : Nat} {o : O} {k : KD} {x : XD} (hd : S[n]? = some o) (h0 : 0 < many) (hm : many < 2 ^ 100) (hb : b < 2 ^ 64) (h : ∀ r a' b' : Nat, r < many → b' < 2 ^ 64 → k (.int r) (S.set n (deckO a' b') ++ G)) :
    sp__law_take [.ref n, .int many] (S.set n (deckO a b) ++ G) k x := by
  have hl : n < (S.set n (deckO a b)).length := by rw [List.length_set]; exact get_lt hd
  refine ⟨n, a, b, many, rfl, h0, hm, get_app (get_set_self hd), hb, fun r a' b' hr hb' => ?_⟩
  rw [set_app hl, List.set_set]
  exact h r a' b' hr hb'
theorem take_set0 {S : Sto} {n a b many : Nat} {o : O} {k : KD} {x : XD} (hd : S[n]? = some o) (h0 : 0 < many) (hm : many < 2 ^ 100) (hb : b < 2 ^ 64) (h : ∀ r a' b' : Nat, r < many → b' < 2 ^ 64 → k (.int r) (S.set n (deckO a' b'))) :
    sp__law_take [.ref n, .int many] (S.set n (deckO a b)) k x := by
  refine ⟨n, a, b, many, rfl, h0, hm, get_set_self hd, hb, fun r a' b' hr hb' => ?_⟩
  rw [List.set_set]
  exact h r a' b' hr hb'
theorem take_app {S G : Sto} {n a b many : Nat} {k : KD} {x : XD} (hd : S[n]? = some (deckO a b)) (h0 : 0 < many) (hm : many < 2 ^ 100) (hb : b < 2 ^ 64) (h : ∀ r a' b' : Nat, r < many → b' < 2 ^ 64 → k (.int r) (S.set n (deckO a' b') ++ G)) :
    sp__law_take [.ref n, .int many] (S ++ G) k x := by
  refine ⟨n, a, b, many, rfl, h0, hm, get_app hd, hb, fun r a' b' hr hb' => ?_⟩
  rw [set_app (get_lt hd)]
  exact h r a' b' hr hb'
theorem same_call {S : Sto} {d e : D} {k : KD} {x : XD} (h : sameD S 8 d e) (hk : k (.bl true) S) : sp__law_same [d, e] S k x := ⟨d, e, rfl, h, hk⟩
theorem same_flat {S : Sto} {n : Nat} (xs : List D) (h : xs.all flatD = true) : Paired (sameD S n) xs xs := paired_same (f := fun _ => True) xs fun d hd => sameD_flat (List.all_eq_true.mp h d hd) n
theorem cl_deck (m a b : Nat) : clO m (deckO a b) := ⟨trivial, trivial, trivial⟩
end Q
open Q
local macro_rules | `(tactic| walk_at "dx") => `(tactic| try simp only [dSeq, dDrop, kDrop, dRet, dRetN, dIf, kIf, dNever, dNext, dBreak, dCont, dSet, kSet, dPar, kPar, dPar3, kPar3, dAug, kAug, dAsg, kAsg, gNm, gsNil, gsCons, gTp, gUl, gSb, kGs1, kGs2, rSet, dFor, kFor, dLc, dYes, wipeD, dRaise, kRaise, dTry, wTry, clrM, clrD, putD', dXv, kXv,
  dC, dVar, dUn, dOp, kOp1, kOp2, dTst, kB, dAnd, kAnd, dOr, kOr, dNot, kNot, dAndV, kAndV, dOrV, kOrV, dNotV, kNotV, dIfE, kIfE, dNil, dCons, kCons1, kCons2, dTup, kTup, dLst, kLst, dCall, kCall, spN, dCallK, kCK1, kCK2, pick, dMet, kM1, kM2, isLst, rApp, dSl, kSl1, kSl2, kSl3, rSl, dNoP, dPart, kPart,
  rAdd, rSub, rMul, rMulT, rMulN, rInP, rFdiv, rMod, rPow, rShl, rShr, rAnd, rXor, rNeg, rEq, rNe, rLt, rLe, rGt, rGe, rIs, rIsNot, isNon, rIx, rIsi, rIsi2, isTy, spLen, spInt, spTuple, spAll, spAny, spMax, spMin, spAbs, spList, rIn, rNotIn, rIns, dRevL, kRev, dBack, kBack, dLc2, iEn, kEn, dSrtSet, kSrtSet, dChain, kCh1, kCh2, kCh3, iZp, kZp, dLenNew, dLenSet, kLenSet, kLenNew, dDicE, dDisp, isDic, rDset, dDget, kDg1, kDg2, dDget2, kDh1, kDh2, kDh3, rDget, gDb, kGd1, kGd2, dStp, kSt0, kSt1, kSt2, spSumB, rDin, dBits, kBits, rDnin, spLenD, dAugS, kAs1, kAs2, kAs3, kAs4, rRem, rIdx, spStr, dJoin, kJoin1, kJoin2, rPop1, rPop0, rRev, dDc, dTupRg, kTupRg, dLstRg, kLstRg, iSq, iRg1, kRg1, iRg2, kRg2, rIAdd, endsD,
  isL_iff, atI0, atI1, atI2, get_at0, get_at, List.set_set, List.length_set, lget_at0, lget_at, lget_hd, lget_tl, set_at0, set_at, app1, List.nil_append, List.cons_append, List.length_cons, List.length_nil, List.length_append,
  List.getElem?_cons_zero, List.getElem?_cons_succ, List.set_cons_zero, List.set_cons_succ, List.getElem?_nil, List.filterMap_cons, List.filterMap_nil, List.append_nil,
  Option.some.injEq, O.lst.injEq, exists_eq_left', exists_eq_left, exists_eq', List.cons.injEq, D.int.injEq, D.bl.injEq, D.tup.injEq, D.ref.injEq, D.str.injEq, Int.natCast_inj, true_and, and_true, and_self, Nat.reduceAdd, Nat.zero_add, Bool.not_true, Bool.not_false, reduceCtorEq, forall_const, imp_self, not_true_eq_false, not_false_eq_true, false_implies, true_implies, implies_true, Bool.true_eq_false, Bool.false_eq_true, Bool.true_or, Bool.or_true, Bool.false_or, Bool.or_false, Bool.and_true, Bool.true_and, decide_eq_true_eq, decide_eq_false_iff_not, Bool.not_eq_true', Bool.not_eq_false', decide_true, decide_false, or_false, false_or, exists_false, exists_and_left, and_assoc])
local macro_rules | `(tactic| walk_at "dz") => `(tactic| try simp only [dDrop, kDrop, dRet, dRetN, dIf, kIf, dNever, dNext, dBreak, dCont, dSet, kSet, dPar, kPar, dPar3, kPar3, dAug, kAug, dAsg, kAsg, gNm, gsNil, gsCons, gTp, gUl, gSb, kGs1, kGs2, rSet, dFor, kFor, dLc, dYes, wipeD, dRaise, kRaise, dTry, wTry, clrM, clrD, putD', dXv, kXv,
  dC, dVar, dUn, dOp, kOp1, kOp2, dTst, kB, dAnd, kAnd, dOr, kOr, dNot, kNot, dAndV, kAndV, dOrV, kOrV, dNotV, kNotV, dIfE, kIfE, dNil, dCons, kCons1, kCons2, dTup, kTup, dLst, kLst, dCall, kCall, spN, dCallK, kCK1, kCK2, pick, dMet, kM1, kM2, isLst, rApp, dSl, kSl1, kSl2, kSl3, rSl, dNoP, dPart, kPart,
  rAdd, rSub, rMul, rMulT, rMulN, rInP, rFdiv, rMod, rPow, rShl, rShr, rAnd, rXor, rNeg, rEq, rNe, rLt, rLe, rGt, rGe, rIs, rIsNot, isNon, rIx, rIsi, rIsi2, isTy, spLen, spInt, spTuple, spAll, spAny, spMax, spMin, spAbs, spList, rIn, rNotIn, rIns, dRevL, kRev, dBack, kBack, dLc2, iEn, kEn, dSrtSet, kSrtSet, dChain, kCh1, kCh2, kCh3, iZp, kZp, dLenNew, dLenSet, kLenSet, kLenNew, dDicE, dDisp, isDic, rDset, dDget, kDg1, kDg2, dDget2, kDh1, kDh2, kDh3, rDget, gDb, kGd1, kGd2, dStp, kSt0, kSt1, kSt2, spSumB, rDin, dBits, kBits, rDnin, spLenD, dAugS, kAs1, kAs2, kAs3, kAs4, rRem, rIdx, spStr, dJoin, kJoin1, kJoin2, rPop1, rPop0, rRev, dDc, dTupRg, kTupRg, dLstRg, kLstRg, iSq, iRg1, kRg1, iRg2, kRg2, rIAdd, endsD,
  isL_iff, atI0, atI1, atI2, get_at0, get_at, List.set_set, List.length_set, lget_at0, lget_at, lget_hd, lget_tl, set_at0, set_at, app1, List.nil_append, List.cons_append, List.length_cons, List.length_nil, List.length_append,
  List.getElem?_cons_zero, List.getElem?_cons_succ, List.set_cons_zero, List.set_cons_succ, List.getElem?_nil, List.filterMap_cons, List.filterMap_nil, List.append_nil,
  Option.some.injEq, O.lst.injEq, exists_eq_left', exists_eq_left, exists_eq', List.cons.injEq, D.int.injEq, D.bl.injEq, D.tup.injEq, D.ref.injEq, D.str.injEq, Int.natCast_inj, true_and, and_true, and_self, Nat.reduceAdd, Nat.zero_add, Bool.not_true, Bool.not_false, reduceCtorEq, forall_const, imp_self, not_true_eq_false, not_false_eq_true, false_implies, true_implies, implies_true, Bool.true_eq_false, Bool.false_eq_true, Bool.true_or, Bool.or_true, Bool.false_or, Bool.or_false, Bool.and_true, Bool.true_and, decide_eq_true_eq, decide_eq_false_iff_not, Bool.not_eq_true', Bool.not_eq_false', decide_true, decide_false, or_false, false_or, exists_false, exists_and_left, and_assoc])
namespace Q
open PySem
open Spec PyProof.Rows L2
/-! ### pages: the laws' drawn books -/
theorem lcf_ind {it : ItD} {i : Nat} {tt : TTD} {sg : Sl} {k : KD} {S : Sto} (hi : i < sg.length) (I : List D → List D → Sto → Prop) (h0 : I it.items [] (S ++ [.lst []])) (hend : ∀ acc T, I [] acc T → it.grd T ∧ k (.ref S.length) T)
    (hs : ∀ d r acc T (kt : Bool → Sto → Prop), I (d :: r) acc T → (∀ b T2, T2[S.length]? = some (.lst acc) → acc.length < sizeLine → (b = true → I r (acc ++ [d]) (T2.set S.length (.lst (acc ++ [d])))) → (b = false → I r acc T2) → kt b T2) → it.grd T ∧ tt (sg.set i (some d)) T kt XF) : kLc (gNm i) tt (dVar i) sg k it S := by
  have go : ∀ (items acc : List D) (T : Sto), I items acc T → wLc it.grd (gNm i) tt (dVar i) sg S.length (fun S' => k (.ref S.length) S') items T := by
    intro items
    induction items with
    | nil => exact fun acc T h => hend acc T h
    | cons d r ih =>
      intro acc T h
      have q := hs d r acc T (fun b S2 => (b = true → dVar i (sg.set i (some d)) S2 (kLc3 S.length (wLc it.grd (gNm i) tt (dVar i) sg S.length (fun S' => k (.ref S.length) S') r)) XF) ∧ (b = false → wLc it.grd (gNm i) tt (dVar i) sg S.length (fun S' => k (.ref S.length) S') r S2)) h fun b T2 h1 h2 h3 h4 => ⟨fun e => by
        simp only [dVar, List.getElem?_set_self hi]
        exact ⟨acc, h1, h2, ih _ _ (h3 e)⟩, fun e => ih _ _ (h4 e)⟩
      exact ⟨q.1, q.2⟩
  exact go _ _ _ h0
def sp__law_cells : SpD := fun ds S k _ => ∃ n a b many : Nat, ds = [.ref n, .int many] ∧ 0 < many ∧ many ≤ 1000 ∧ S[n]? = some (deckO a b) ∧ b < 2 ^ 64 ∧ ∀ (r : List Nat) (a' b' : Nat), RowOk many r → b' < 2 ^ 64 → k (rowD r) (S.set n (deckO a' b'))
def sp__law_page : SpD := fun ds S k _ => ∃ n a b most : Nat, ds = [.ref n, .int most] ∧ 0 < most ∧ most ≤ 999 ∧ S[n]? = some (deckO a b) ∧ b < 2 ^ 64 ∧ ∀ (m : Nat) (rows : List (List Nat)) (a' b' : Nat), BookOk m rows → m ≤ most → rows.length ≤ most → b' < 2 ^ 64 → k (bookD m rows) (S.set n (deckO a' b'))
def sp__law_lot : SpD := fun ds S k _ => ∃ (n a b m : Nat) (rows : List (List Nat)), ds = [.ref n, bookD m rows] ∧ rows.length ≤ 1000 ∧ S[n]? = some (deckO a b) ∧ b < 2 ^ 64 ∧ ∀ (l : List Nat) (a' b' : Nat), LotOk rows l → b' < 2 ^ 64 → k (.tup (natsD l)) (S.set n (deckO a' b'))
/-- _law_cells(deck, many); slots: 0 deck, 1 many, 2 found, 3 way, 4 cell -/
def t__law_cells : TSD := (dSeq (dPar 2 3 (dCons (dLst dNil) (dCons (dCall (spN 2 sp__law_take) (dCons (dVar 0) (dCons (dC (.int 4)) dNil))) dNil))) (dSeq (dIf (dTst (dOp rEq (dVar 3) (dC (.int 0)))) (dRet (dTup (dCons (dCall (spN 2 sp__law_take) (dCons (dVar 0) (dCons (dVar 1) dNil))) dNil))) dNext) (dSeq (dFor (iRg1 (dCons (dVar 1) dNil)) (gNm 4) (dIf (dTst (dOp rEq (dCall (spN 2 sp__law_take) (dCons (dVar 0) (dCons (dOp rIx (dLst (dCons (dC (.int 2)) (dCons (dC (.int 3)) (dCons (dVar 1) dNil)))) (dOp rSub (dVar 3) (dC (.int 1)))) dNil))) (dC (.int 0)))) (dDrop (dMet rApp (dVar 2) (dCons (dVar 4) dNil))) dNext)) (dRet (dIfE (dTst (dOp rNe (dVar 2) (dLst dNil))) (dCall spTuple (dCons (dVar 2) dNil)) (dTup (dCons (dCall (spN 2 sp__law_take) (dCons (dVar 0) (dCons (dVar 1) dNil))) dNil)))))))
/-- _law_page(deck, most); slots: 0 deck, 1 most, 2 many, 3 rows, 4 key, 5 way -/
def t__law_page : TSD := (dSeq (dPar 2 3 (dCons (dOp rAdd (dC (.int 1)) (dCall (spN 2 sp__law_take) (dCons (dVar 0) (dCons (dVar 1) dNil)))) (dCons (dLst dNil) dNil))) (dSeq (dFor (iRg1 (dCons (dCall (spN 2 sp__law_take) (dCons (dVar 0) (dCons (dOp rAdd (dVar 1) (dC (.int 1))) dNil))) dNil)) (gNm 4) (dSeq (dSet 5 (dCall (spN 2 sp__law_take) (dCons (dVar 0) (dCons (dC (.int 8)) dNil)))) (dIf (dAnd (dTst (dOp rEq (dVar 5) (dC (.int 0)))) (dTst (dOp rNe (dVar 3) (dLst dNil)))) (dDrop (dMet rApp (dVar 3) (dCons (dOp rIx (dVar 3) (dCall (spN 2 sp__law_take) (dCons (dVar 0) (dCons (dCall spLen (dCons (dVar 3) dNil)) dNil)))) dNil))) (dIf (dTst (dOp rEq (dVar 5) (dC (.int 1)))) (dDrop (dMet rApp (dVar 3) (dCons (dTupRg (dVar 2)) dNil))) (dDrop (dMet rApp (dVar 3) (dCons (dCall (spN 2 sp__law_cells) (dCons (dVar 0) (dCons (dVar 2) dNil))) dNil))))))) (dRet (dTup (dCons (dVar 2) (dCons (dCall spTuple (dCons (dVar 3) dNil)) dNil))))))
/-- _law_lot(deck, page); slots: 0 deck, 1 page, 2 way, 3 key -/
def t__law_lot : TSD := (dSeq (dSet 2 (dCall (spN 2 sp__law_take) (dCons (dVar 0) (dCons (dC (.int 4)) dNil)))) (dSeq (dIf (dTst (dOp rEq (dVar 2) (dC (.int 0)))) (dRet (dTupRg (dCall spLen (dCons (dOp rIx (dVar 1) (dC (.int 1))) dNil)))) dNext) (dRet (dCall spTuple (dCons (dLc (iRg1 (dCons (dCall spLen (dCons (dOp rIx (dVar 1) (dC (.int 1))) dNil)) dNil)) (gNm 3) (dTst (dOp rEq (dCall (spN 2 sp__law_take) (dCons (dVar 0) (dCons (dOp rIx (dLst (dCons (dC (.int 2)) (dCons (dC (.int 2)) (dCons (dC (.int 4)) dNil)))) (dOp rSub (dVar 2) (dC (.int 1)))) dNil))) (dC (.int 0)))) (dVar 3) [3]) dNil)))))

theorem natsD_app (l m : List Nat) : natsD (l ++ m) = natsD l ++ natsD m := List.map_append
theorem set_hd {A G : Sto} {o u : O} {m : Nat} (h : A.length = m) : (A ++ o :: G).set m u = A ++ u :: G := by
  subst h
  exact set_at0
theorem get_hd {A G : Sto} {o : O} {m : Nat} (h : A.length = m) : (A ++ o :: G)[m]? = some o := by
  subst h
  exact get_at0
theorem pds_nats (n : Nat) : ∀ l : List Nat, pds n (natsD l) = true
  | [] => rfl
  | a :: l => by
    show (pd n (.int (a : Int)) && pds n (natsD l)) = true
    rw [pds_nats n l]
    cases n <;> rfl
theorem cells_add {fs : List Nat} {c : Nat} (h : fs.Pairwise (· < ·)) (hc : ∀ y ∈ fs, y < c) : (fs ++ [c]).Pairwise (· < ·) :=
  List.pairwise_append.mpr ⟨h, List.pairwise_singleton _ _, fun a ha b hb => by
    cases List.mem_singleton.mp hb
    exact hc a ha⟩
theorem row_one {m c : Nat} (h : c < m) : RowOk m [c] := ⟨by simp, List.pairwise_singleton _ _, fun y hy => by cases List.mem_singleton.mp hy; exact h⟩
theorem row_range {m : Nat} (h : 0 < m) : RowOk m (List.range m) := ⟨by
  intro e
  have := congrArg List.length e
  simp at this
  omega, List.pairwise_lt_range, fun c hc => List.mem_range.mp hc⟩
theorem rgD_nats (m : Nat) : rgD 0 (m : Int) = natsD (List.range m) := by
  unfold rgD
  rw [Int.sub_zero, Int.toNat_natCast]
  refine List.map_congr_left fun c _ => ?_
  rw [Int.zero_add]
theorem k__law_cells : Keeps 2 5 t__law_cells sp__law_cells := by
  intro ds S k x hl cS cd h
  obtain ⟨n, a, b, many, rfl, h0, hm, hd, hb, h⟩ := h
  show t__law_cells (endsD S.length k x) [some (.ref n), some (.int many), none, none, none] S
  simp only [t__law_cells]
  refine dSeq_go ?_
  walk_at "dz"
  refine ⟨Nat.zero_le _, take_app hd (many := 4) (by decide) (by decide) hb fun way a1 b1 hway hb1 => ?_⟩
  walk_at "dz"
  have one : ∀ (r a' b' : Nat) (G : Sto), r < many → b' < 2 ^ 64 → wk S.length k (.tup [.int (r : Int)]) (S.set n (deckO a' b') ++ G) := fun r a' b' G hr hb' =>
    wk_drop (by simp) (clS_set cS (cl_deck _ _ _)) ⟨trivial, trivial⟩ (h [r] a' b' (row_one hr) hb')
  refine dSeq_cut (fun sg S' => 0 < way ∧ sg = [some (.ref n), some (.int many), some (.ref S.length), some (.int (way : Int)), none] ∧ S' = S.set n (deckO a1 b1) ++ [.lst []]) (fun nx hnx => ?_) ?_
  · walk_at "dz"
    refine ⟨fun _ => take_set hd h0 (by omega) hb1 fun r2 a2 b2 hr2 hb2 => ?_, fun hz => hnx _ _ ⟨by omega, rfl, rfl⟩⟩
    walk_at "dz"
    exact ⟨by decide, one r2 a2 b2 _ hr2 hb2⟩
  · rintro sg S' ⟨hw0, rfl, rfl⟩
    refine dSeq_cut (fun sg S' => ∃ (fs : List Nat) (a b : Nat) (G : Sto) (t4 : Option D), sg = [some (.ref n), some (.int many), some (.ref S.length), some (.int (way : Int)), t4] ∧ S' = S.set n (deckO a b) ++ .lst (natsD fs) :: G ∧ b < 2 ^ 64 ∧ fs.Pairwise (· < ·) ∧ ∀ y ∈ fs, y < many) (fun nx hnx => ?_) ?_
    · walk_at "dz"
      refine ⟨by omega, by omega, wFor_rng _ (fun i sg S' => ∃ (fs : List Nat) (a b : Nat) (G : Sto) (t4 : Option D), sg = [some (.ref n), some (.int many), some (.ref S.length), some (.int (way : Int)), t4] ∧ S' = S.set n (deckO a b) ++ .lst (natsD fs) :: G ∧ b < 2 ^ 64 ∧ fs.Pairwise (· < ·) ∧ ∀ y ∈ fs, y < i) ⟨[], a1, b1, [], none, rfl, rfl, hb1, List.Pairwise.nil, fun _ h => (nomatch h)⟩ ?_ ?_⟩
      · rintro sg S' ⟨fs, a, b, G, t4, rfl, rfl, hb, hf, hy⟩
        exact ⟨trivial, hnx _ _ ⟨fs, a, b, G, t4, rfl, rfl, hb, hf, by simpa using hy⟩⟩
      · rintro i sg S' nx2 hi ⟨fs, a, b, G, t4, rfl, rfl, hb, hf, hy⟩ hnx2
        refine ⟨trivial, ?_⟩
        walk_at "dz"
        refine ⟨by decide, _, lget_k (G.length + 1) (by simp) (lget_k (A := O.lst (natsD fs) :: G) 0 (by simp) rfl), ?_⟩
        rw [show (way : Int) - 1 = ((way - 1 : Nat) : Int) by omega]
        obtain ⟨d, hd1, hd2⟩ := atI_in [D.int 2, D.int 3, D.int (many : Nat)] (way - 1) (by simp; omega)
        obtain ⟨mo, rfl, hmo, hmo2⟩ : ∃ mo : Nat, d = .int (mo : Int) ∧ 0 < mo ∧ mo ≤ 1000 := by
          simp only [List.mem_cons, List.not_mem_nil, or_false] at hd2
          rcases hd2 with rfl | rfl | rfl
          · exact ⟨2, rfl, by decide, by decide⟩
          · exact ⟨3, rfl, by decide, by decide⟩
          · exact ⟨many, rfl, h0, hm⟩
        refine ⟨_, hd1, take_set hd hmo (by omega) hb fun q a2 b2 hq hb2 => ?_⟩
        have e0 : (0 : Int) + (i : Int) = (i : Int) := by omega
        have hL : lget (S.set n (deckO a2 b2) ++ O.lst (natsD fs) :: (G ++ [O.lst [D.int 2, D.int 3, D.int (many : Nat)]])) S.length = some (natsD fs) := lget_end (by simp)
        have hlen : (natsD fs).length < sizeLine := by
          have := asc_len (lo := 0) (m := i) hf fun c hc => ⟨Nat.zero_le _, hy c hc⟩
          rw [List.length_map, sl16]
          omega
        walk_at "dx"
        simp only [e0]
        refine ⟨fun _ => ⟨⟨_, hL⟩, _, get_hd (by simp), hlen, ?_⟩, fun _ => hnx2 _ _ ⟨fs, a2, b2, _, _, rfl, rfl, hb2, hf, fun y hyy => Nat.lt_succ_of_lt (hy y hyy)⟩⟩
        rw [set_hd (by simp)]
        refine hnx2 _ _ ⟨fs ++ [i], a2, b2, _, _, rfl, by rw [natsD_app]; rfl, hb2, cells_add hf hy, fun y hyy => ?_⟩
        rcases List.mem_append.mp hyy with hyy | hyy
        · exact Nat.lt_succ_of_lt (hy y hyy)
        · cases List.mem_singleton.mp hyy
          exact Nat.lt_succ_self _
    · rintro sg S' ⟨fs, a, b, G, t4, rfl, rfl, hb, hf, hy⟩
      walk_at "dz"
      have hL : lget (S.set n (deckO a b) ++ O.lst (natsD fs) :: (G ++ [O.lst []])) S.length = some (natsD fs) := lget_end (by simp)
      refine ⟨Nat.zero_le _, eqG_lst (xs := natsD fs) (ys := []) 0 0 hL (lget_k (G.length + 1) (by simp) (lget_k (A := O.lst (natsD fs) :: G) 0 (by simp) rfl)) (pds_nats 0 fs) rfl ?_⟩
      rw [eqDs_nil]
      refine ⟨fun he => ⟨_, hL, ?_⟩, fun _ => take_set hd h0 (by omega) hb fun r2 a2 b2 hr2 hb2 => ?_⟩
      · refine wk_drop (by simp) (clS_set cS (cl_deck _ _ _)) (cl_cells _ fs) (h fs a b ⟨fun e => ?_, hf, hy⟩ hb)
        subst e
        cases he
      · walk_at "dz"
        exact ⟨by decide, one r2 a2 b2 _ hr2 hb2⟩
theorem pds_rows : ∀ rows : List (List Nat), pds 1 (rows.map rowD) = true
  | [] => rfl
  | r :: rows => by
    show (pds 0 (natsD r) && pds 1 (rows.map rowD)) = true
    rw [pds_nats, pds_rows rows]
    rfl
theorem cells_set {S G : Sto} {n a b many : Nat} {o : O} {k : KD} {x : XD} (hd : S[n]? = some o) (h0 : 0 < many) (hm : many ≤ 1000) (hb : b < 2 ^ 64) (h : ∀ (r : List Nat) (a' b' : Nat), RowOk many r → b' < 2 ^ 64 → k (rowD r) (S.set n (deckO a' b') ++ G)) :
    sp__law_cells [.ref n, .int many] (S.set n (deckO a b) ++ G) k x := by
  have hl : n < (S.set n (deckO a b)).length := by rw [List.length_set]; exact get_lt hd
  refine ⟨n, a, b, many, rfl, h0, hm, get_app (get_set_self hd), hb, fun r a' b' hr hb' => ?_⟩
  rw [set_app hl, List.set_set]
  exact h r a' b' hr hb'
theorem k__law_page : Keeps 2 6 t__law_page sp__law_page := by
  intro ds S k x hl cS cd h
  obtain ⟨n, a, b, most, rfl, h0, hm, hd, hb, h⟩ := h
  show t__law_page (endsD S.length k x) [some (.ref n), some (.int most), none, none, none, none] S
  simp only [t__law_page]
  refine dSeq_go ?_
  walk_at "dz"
  refine ⟨n, a, b, most, rfl, h0, by omega, hd, hb, fun m1 a1 b1 hm1 hb1 => ?_⟩
  walk_at "dz"
  refine ⟨Nat.zero_le _, ?_⟩
  have em : (1 : Int) + (m1 : Int) = ((m1 + 1 : Nat) : Int) := by omega
  simp only [em]
  refine dSeq_cut (fun sg S' => ∃ (rows : List (List Nat)) (a b : Nat) (G : Sto) (t4 t5 : Option D), sg = [some (.ref n), some (.int most), some (.int (m1 + 1 : Nat)), some (.ref S.length), t4, t5] ∧ S' = S.set n (deckO a b) ++ .lst (rows.map rowD) :: G ∧ b < 2 ^ 64 ∧ rows.length ≤ most ∧ ∀ r ∈ rows, RowOk (m1 + 1) r) (fun nx hnx => ?_) ?_
  · walk_at "dz"
    rw [show (most : Int) + 1 = ((most + 1 : Nat) : Int) by omega]
    refine take_set hd (Nat.succ_pos _) (by omega) hb1 fun cnt a2 b2 hcnt hb2 => ?_
    walk_at "dz"
    refine ⟨by omega, by omega, wFor_rng _ (fun i sg S' => ∃ (rows : List (List Nat)) (a b : Nat) (G : Sto) (t4 t5 : Option D), sg = [some (.ref n), some (.int most), some (.int (m1 + 1 : Nat)), some (.ref S.length), t4, t5] ∧ S' = S.set n (deckO a b) ++ .lst (rows.map rowD) :: G ∧ b < 2 ^ 64 ∧ rows.length = i ∧ ∀ r ∈ rows, RowOk (m1 + 1) r) ⟨[], a2, b2, [], none, none, rfl, rfl, hb2, rfl, fun _ h => (nomatch h)⟩ ?_ ?_⟩
    · rintro sg S' ⟨rows, a, b, G, t4, t5, rfl, rfl, hb, hz, hr⟩
      exact ⟨trivial, hnx _ _ ⟨rows, a, b, G, t4, t5, rfl, rfl, hb, by omega, hr⟩⟩
    · rintro i sg S' nx2 hi ⟨rows, a, b, G, t4, t5, rfl, rfl, hb, hz, hr⟩ hnx2
      have hi : i < most := by omega
      refine ⟨trivial, ?_⟩
      walk_at "dz"
      refine dSeq_go ?_
      walk_at "dz"
      refine take_set hd (many := 8) (by decide) (by decide) hb fun way a3 b3 hway hb3 => ?_
      have put : ∀ (r : List Nat) (a b : Nat) (G : Sto) (t4 t5 : Option D), RowOk (m1 + 1) r → b < 2 ^ 64 → nx2 [some (.ref n), some (.int most), some (.int (m1 + 1 : Nat)), some (.ref S.length), t4, t5] (S.set n (deckO a b) ++ .lst (rows.map rowD ++ [rowD r]) :: G) := fun r a b G t4 t5 h1 h2 =>
        hnx2 _ _ ⟨rows ++ [r], a, b, G, t4, t5, rfl, by rw [List.map_append]; rfl, h2, by simp; omega, fun y hy => by
          rcases List.mem_append.mp hy with hy | hy
          · exact hr y hy
          · cases List.mem_singleton.mp hy
            exact h1⟩
      have hL : ∀ (a b : Nat) (G : Sto), lget (S.set n (deckO a b) ++ O.lst (rows.map rowD) :: G) S.length = some (rows.map rowD) := fun a b G => lget_end (by simp)
      have hlen : (rows.map rowD).length < sizeLine := by rw [List.length_map, sl16]; omega
      walk_at "dx"
      refine ⟨fun _ => ⟨Nat.zero_le _, eqG_lst (xs := rows.map rowD) (ys := []) 1 0 (hL _ _ _) (lget_k (G.length + 1) (by simp) (lget_k (A := O.lst (rows.map rowD) :: G) 0 (by simp) rfl)) (pds_rows rows) rfl ?_⟩, fun _ => ?_⟩
      · rw [eqDs_nil]
        refine ⟨fun he => ⟨⟨_, hL _ _ _⟩, _, hL _ _ _, ?_⟩, fun _ => ?_⟩
        · have hne : 0 < rows.length := by
            cases rows with
            | nil => cases he
            | cons y l => exact Nat.succ_pos _
          rw [List.length_map]
          refine take_set hd hne (by omega) hb3 fun q a4 b4 hq hb4 => ?_
          walk_at "dx"
          refine ⟨_, hL _ _ _, rowD rows[q], atI_nat (by rw [List.getElem?_map, List.getElem?_eq_getElem hq]; rfl), _, get_hd (by simp), hlen, ?_⟩
          rw [set_hd (by simp)]
          exact put _ _ _ _ _ _ (hr _ (List.getElem_mem hq)) hb4
        refine ⟨fun _ => ⟨⟨_, hL _ _ _⟩, RgOk.of_le (by omega) (by omega) (by omega) (by omega), _, get_hd (by simp), hlen, ?_⟩, fun _ => ⟨⟨_, hL _ _ _⟩, ?_⟩⟩
        · rw [set_hd (by simp), rgD_nats]
          exact put _ _ _ _ _ _ (row_range (Nat.succ_pos _)) hb3
        · refine cells_set hd (Nat.succ_pos _) (by omega) hb3 fun r4 a4 b4 hr4 hb4 => ?_
          walk_at "dx"
          refine ⟨_, get_hd (by simp), hlen, ?_⟩
          rw [set_hd (by simp)]
          exact put _ _ _ _ _ _ hr4 hb4
      refine ⟨fun _ => ⟨⟨_, hL _ _ _⟩, RgOk.of_le (by omega) (by omega) (by omega) (by omega), _, get_hd (by simp), hlen, ?_⟩, fun _ => ⟨⟨_, hL _ _ _⟩, ?_⟩⟩
      · rw [set_hd (by simp), rgD_nats]
        exact put _ _ _ _ _ _ (row_range (Nat.succ_pos _)) hb3
      · refine cells_set hd (Nat.succ_pos _) (by omega) hb3 fun r4 a4 b4 hr4 hb4 => ?_
        walk_at "dx"
        refine ⟨_, get_hd (by simp), hlen, ?_⟩
        rw [set_hd (by simp)]
        exact put _ _ _ _ _ _ hr4 hb4
  · rintro sg S' ⟨rows, a, b, G, t4, t5, rfl, rfl, hb, hz, hr⟩
    walk_at "dx"
    refine ⟨_, lget_end (by simp), by decide, wk_drop (by simp) (clS_set cS (cl_deck _ _ _)) (cl_book _ _ rows) (h (m1 + 1) rows a b ⟨by omega, by omega, by omega, hr⟩ (by omega) hz hb)⟩
theorem k__law_lot : Keeps 2 4 t__law_lot sp__law_lot := by
  intro ds S k x hl cS cd h
  obtain ⟨n, a, b, m, rows, rfl, hz, hd, hb, h⟩ := h
  show t__law_lot (endsD S.length k x) [some (.ref n), some (bookD m rows), none, none] S
  simp only [t__law_lot, bookD]
  walk_at "dx"
  refine ⟨n, a, b, 4, rfl, by decide, by decide, hd, hb, fun way a1 b1 hway hb1 => ?_⟩
  walk_at "dx"
  rw [List.length_map]
  refine ⟨fun _ => ⟨.of_le (by omega) (by omega) (by omega) (by omega), ?_⟩, fun hw => ⟨by omega, by omega, ?_⟩⟩
  · rw [rgD_nats]
    exact wk_now (h (List.range rows.length) a1 b1 ⟨List.pairwise_lt_range, fun c hc => List.mem_range.mp hc⟩ hb1)
  · refine lcf_ind (by simp) (fun items acc T => ∃ (done : List Nat) (j r a b : Nat) (G : Sto), items = (List.range' j r).map (fun i : Nat => D.int (0 + (i : Int))) ∧ j + r = rows.length ∧ acc = natsD done ∧ done.Pairwise (· < ·) ∧ (∀ y ∈ done, y < j) ∧ b < 2 ^ 64 ∧ T = S.set n (deckO a b) ++ .lst acc :: G)
      ⟨[], 0, rows.length, a1, b1, [], by rw [← List.range_eq_range', Int.toNat_natCast], by omega, rfl, List.Pairwise.nil, fun _ h => (nomatch h), hb1, rfl⟩ ?_ ?_
    · rintro acc T ⟨done, j, r, a2, b2, G, hit, hjr, rfl, hp, hy, hb2, rfl⟩
      have hr0 : r = 0 := by
        have := congrArg List.length hit
        simpa using this.symm
      refine ⟨trivial, ?_⟩
      walk_at "dx"
      refine ⟨_, lget_end (by simp), wk_drop (by simp) (clS_set cS (cl_deck _ _ _)) (cl_cells _ done) (h done a2 b2 ⟨hp, fun c hc => ?_⟩ hb2)⟩
      have := hy c hc
      omega
    · rintro d rest acc T kt ⟨done, j, r, a2, b2, G, hit, hjr, rfl, hp, hy, hb2, rfl⟩ hkt
      refine ⟨trivial, ?_⟩
      cases r with
      | zero => cases hit
      | succ r =>
        rw [List.range'_succ, List.map_cons] at hit
        obtain ⟨rfl, rfl⟩ := List.cons.inj hit
        walk_at "dx"
        refine ⟨by decide, _, lget_k (G.length + 1) (by simp) (lget_k (A := O.lst (natsD done) :: G) 0 (by simp) rfl), ?_⟩
        rw [show (way : Int) - 1 = ((way - 1 : Nat) : Int) by omega]
        obtain ⟨d, hd1, hd2⟩ := atI_in [D.int 2, D.int 2, D.int 4] (way - 1) (by simp; omega)
        obtain ⟨mo, rfl, hmo, hmo2⟩ : ∃ mo : Nat, d = .int (mo : Int) ∧ 0 < mo ∧ mo ≤ 1000 := by
          simp only [List.mem_cons, List.not_mem_nil, or_false] at hd2
          rcases hd2 with rfl | rfl | rfl
          · exact ⟨2, rfl, by decide, by decide⟩
          · exact ⟨2, rfl, by decide, by decide⟩
          · exact ⟨4, rfl, by decide, by decide⟩
        refine ⟨_, hd1, take_set hd hmo (by omega) hb2 fun q a3 b3 hq hb3 => ?_⟩
        walk_at "dx"
        have hlen : (natsD done).length < sizeLine := by
          have := asc_len (lo := 0) (m := j) hp fun c hc => ⟨Nat.zero_le _, hy c hc⟩
          rw [List.length_map, sl16]
          omega
        have e0 : (0 : Int) + (j : Int) = (j : Int) := by omega
        refine hkt _ _ (get_hd (by simp)) hlen (fun _ => ⟨done ++ [j], j + 1, r, a3, b3, _, rfl, by omega, by rw [natsD_app, e0]; rfl, cells_add hp hy, fun y hyy => ?_, hb3, by rw [set_hd (by simp)]⟩) (fun _ => ⟨done, j + 1, r, a3, b3, _, rfl, by omega, rfl, hp, fun y hyy => Nat.lt_succ_of_lt (hy y hyy), hb3, rfl⟩)
        rcases List.mem_append.mp hyy with hyy | hyy
        · exact Nat.lt_succ_of_lt (hy y hyy)
        · cases List.mem_singleton.mp hyy
          exact Nat.lt_succ_self _
end Q
open Q
local macro_rules | `(tactic| walk_at "dx") => `(tactic| try simp only [dSeq, dDrop, kDrop, dRet, dRetN, dIf, kIf, dNever, dNext, dBreak, dCont, dSet, kSet, dPar, kPar, dPar3, kPar3, dAug, kAug, dAsg, kAsg, gNm, gsNil, gsCons, gTp, gUl, gSb, kGs1, kGs2, rSet, dFor, kFor, dLc, dYes, wipeD, dRaise, kRaise, dTry, wTry, clrM, clrD, putD', dXv, kXv,
  dC, dVar, dUn, dOp, kOp1, kOp2, dTst, kB, dAnd, kAnd, dOr, kOr, dNot, kNot, dAndV, kAndV, dOrV, kOrV, dNotV, kNotV, dIfE, kIfE, dNil, dCons, kCons1, kCons2, dTup, kTup, dLst, kLst, dCall, kCall, spN, dCallK, kCK1, kCK2, pick, dMet, kM1, kM2, isLst, rApp, dSl, kSl1, kSl2, kSl3, rSl, dNoP, dPart, kPart,
  rAdd, rSub, rMul, rMulT, rMulN, rInP, rFdiv, rMod, rPow, rShl, rShr, rAnd, rXor, rNeg, rEq, rNe, rLt, rLe, rGt, rGe, rIs, rIsNot, isNon, rIx, rIsi, rIsi2, isTy, spLen, spInt, spTuple, spAll, spAny, spMax, spMin, spAbs, spList, rIn, rNotIn, rIns, dRevL, kRev, dBack, kBack, dLc2, iEn, kEn, dSrtSet, kSrtSet, dChain, kCh1, kCh2, kCh3, iZp, kZp, dLenNew, dLenSet, kLenSet, kLenNew, dDicE, dDisp, isDic, rDset, dDget, kDg1, kDg2, dDget2, kDh1, kDh2, kDh3, rDget, gDb, kGd1, kGd2, dStp, kSt0, kSt1, kSt2, spSumB, rDin, dBits, kBits, rDnin, spLenD, dAugS, kAs1, kAs2, kAs3, kAs4, rRem, rIdx, spStr, dJoin, kJoin1, kJoin2, rPop1, rPop0, rRev, dDc, dTupRg, kTupRg, dLstRg, kLstRg, iSq, iRg1, kRg1, iRg2, kRg2, rIAdd, endsD,
  isL_iff, atI0, atI1, atI2, get_at0, get_at, List.set_set, List.length_set, lget_at0, lget_at, lget_hd, lget_tl, set_at0, set_at, app1, List.nil_append, List.cons_append, List.length_cons, List.length_nil, List.length_append,
  List.getElem?_cons_zero, List.getElem?_cons_succ, List.set_cons_zero, List.set_cons_succ, List.getElem?_nil, List.filterMap_cons, List.filterMap_nil, List.append_nil,
  Option.some.injEq, O.lst.injEq, exists_eq_left', exists_eq_left, exists_eq', List.cons.injEq, D.int.injEq, D.bl.injEq, D.tup.injEq, D.ref.injEq, D.str.injEq, Int.natCast_inj, true_and, and_true, and_self, Nat.reduceAdd, Nat.zero_add, Bool.not_true, Bool.not_false, reduceCtorEq, forall_const, imp_self, not_true_eq_false, not_false_eq_true, false_implies, true_implies, implies_true, Bool.true_eq_false, Bool.false_eq_true, Bool.true_or, Bool.or_true, Bool.false_or, Bool.or_false, Bool.and_true, Bool.true_and, decide_eq_true_eq, decide_eq_false_iff_not, Bool.not_eq_true', Bool.not_eq_false', decide_true, decide_false, or_false, false_or, exists_false, exists_and_left, and_assoc])
local macro_rules | `(tactic| walk_at "dz") => `(tactic| try simp only [dDrop, kDrop, dRet, dRetN, dIf, kIf, dNever, dNext, dBreak, dCont, dSet, kSet, dPar, kPar, dPar3, kPar3, dAug, kAug, dAsg, kAsg, gNm, gsNil, gsCons, gTp, gUl, gSb, kGs1, kGs2, rSet, dFor, kFor, dLc, dYes, wipeD, dRaise, kRaise, dTry, wTry, clrM, clrD, putD', dXv, kXv,
  dC, dVar, dUn, dOp, kOp1, kOp2, dTst, kB, dAnd, kAnd, dOr, kOr, dNot, kNot, dAndV, kAndV, dOrV, kOrV, dNotV, kNotV, dIfE, kIfE, dNil, dCons, kCons1, kCons2, dTup, kTup, dLst, kLst, dCall, kCall, spN, dCallK, kCK1, kCK2, pick, dMet, kM1, kM2, isLst, rApp, dSl, kSl1, kSl2, kSl3, rSl, dNoP, dPart, kPart,
  rAdd, rSub, rMul, rMulT, rMulN, rInP, rFdiv, rMod, rPow, rShl, rShr, rAnd, rXor, rNeg, rEq, rNe, rLt, rLe, rGt, rGe, rIs, rIsNot, isNon, rIx, rIsi, rIsi2, isTy, spLen, spInt, spTuple, spAll, spAny, spMax, spMin, spAbs, spList, rIn, rNotIn, rIns, dRevL, kRev, dBack, kBack, dLc2, iEn, kEn, dSrtSet, kSrtSet, dChain, kCh1, kCh2, kCh3, iZp, kZp, dLenNew, dLenSet, kLenSet, kLenNew, dDicE, dDisp, isDic, rDset, dDget, kDg1, kDg2, dDget2, kDh1, kDh2, kDh3, rDget, gDb, kGd1, kGd2, dStp, kSt0, kSt1, kSt2, spSumB, rDin, dBits, kBits, rDnin, spLenD, dAugS, kAs1, kAs2, kAs3, kAs4, rRem, rIdx, spStr, dJoin, kJoin1, kJoin2, rPop1, rPop0, rRev, dDc, dTupRg, kTupRg, dLstRg, kLstRg, iSq, iRg1, kRg1, iRg2, kRg2, rIAdd, endsD,
  isL_iff, atI0, atI1, atI2, get_at0, get_at, List.set_set, List.length_set, lget_at0, lget_at, lget_hd, lget_tl, set_at0, set_at, app1, List.nil_append, List.cons_append, List.length_cons, List.length_nil, List.length_append,
  List.getElem?_cons_zero, List.getElem?_cons_succ, List.set_cons_zero, List.set_cons_succ, List.getElem?_nil, List.filterMap_cons, List.filterMap_nil, List.append_nil,
  Option.some.injEq, O.lst.injEq, exists_eq_left', exists_eq_left, exists_eq', List.cons.injEq, D.int.injEq, D.bl.injEq, D.tup.injEq, D.ref.injEq, D.str.injEq, Int.natCast_inj, true_and, and_true, and_self, Nat.reduceAdd, Nat.zero_add, Bool.not_true, Bool.not_false, reduceCtorEq, forall_const, imp_self, not_true_eq_false, not_false_eq_true, false_implies, true_implies, implies_true, Bool.true_eq_false, Bool.false_eq_true, Bool.true_or, Bool.or_true, Bool.false_or, Bool.or_false, Bool.and_true, Bool.true_and, decide_eq_true_eq, decide_eq_false_iff_not, Bool.not_eq_true', Bool.not_eq_false', decide_true, decide_false, or_false, false_or, exists_false, exists_and_left, and_assoc])
namespace Q
open PySem
open Spec PyProof.Rows L2
/-! ### books.py: book -/
/-- a row as it is given, and as it is told -/
def givenR (S : Sto) (m : Nat) (d : D) (r : List Nat) : Prop := ∃ cs, rowL S d (natsD cs) ∧ cs ≠ [] ∧ cs.length ≤ 1000000 ∧ (∀ c ∈ cs, c < m) ∧ IsRowOf r cs
theorem givenR_app {S : Sto} {m : Nat} {d : D} {r : List Nat} (G : Sto) (h : givenR S m d r) : givenR (S ++ G) m d r := by
  obtain ⟨cs, h1, h2⟩ := h
  exact ⟨cs, rowL_app G h1, h2⟩
theorem givenR_row {S : Sto} {m : Nat} {r : List Nat} (hm : m ≤ 1000000) (h : RowOk m r) : givenR S m (rowD r) r := ⟨r, .inl rfl, h.1, Nat.le_trans h.len hm, h.2.2, h.2.1, fun _ => Iff.rfl⟩
theorem givenR_rows {S : Sto} {m : Nat} (hm : m ≤ 1000000) : ∀ {rows : List (List Nat)}, (∀ r ∈ rows, RowOk m r) → Paired (givenR S m) (rows.map rowD) rows
  | [], _ => .nil
  | r :: rows, h => .cons (givenR_row hm (h r List.mem_cons_self)) (givenR_rows hm fun y hy => h y (List.mem_cons_of_mem _ hy))
theorem it_rowL {S : Sto} {d : D} {items : List D} {sg : Sl} {x : XD} {K : ItD → Sto → Prop} {i : Nat} (hi : sg[i]? = some (some d)) (h : rowL S d items) (hK : ∀ grd : Sto → Prop, (∀ G, grd (S ++ G)) → K ⟨items, grd⟩ S) : iSq (dVar i) sg S K x := by
  simp only [iSq, dVar, hi]
  rcases h with rfl | ⟨n, rfl, hn⟩
  · exact hK _ fun _ => trivial
  · exact ⟨items, isL_iff.mpr hn, hK _ fun G => isL_iff.mpr (lget_app hn)⟩
def sp_book : SpD := fun ds S k x => (∃ (m : Nat) (d : D) (items : List D) (rs : List (List Nat)), ds = [.int m, d] ∧ 1 ≤ m ∧ m ≤ 63 ∧ rowL S d items ∧ items.length ≤ 1000000 ∧ Paired (givenR S m) items rs ∧ k (bookD m rs) S) ∨ ∃ (m : Nat) (d : D) (pre post : List D) (rs : List (List Nat)) (e : D) (xs : List D), ds = [.int m, d] ∧ 1 ≤ m ∧ rowL S d (pre ++ e :: post) ∧ Paired (givenR S m) pre rs ∧ itemsX S e xs ∧ goodC m xs = false ∧ x ("InvalidRow", e) S
/-- book(m, rows); slots: 0 m, 1 rows, 2 row -/
def t_book : TSD := (dSeq (dIf (dOr (dNot (dTst (dCall (spN 1 sp_is_integer) (dCons (dVar 0) dNil)))) (dTst (dOp rLt (dVar 0) (dC (.int 1))))) (dRaise "InvalidBook" (dCons (dVar 0) dNil)) dNext) (dSeq (dFor (iSq (dVar 1)) (gNm 2) (dDrop (dCall (spN 2 sp_check_cells) (dCons (dVar 0) (dCons (dVar 2) dNil))))) (dRet (dTup (dCons (dVar 0) (dCons (dCall spTuple (dCons (dLc (iSq (dVar 1)) (gNm 2) dYes (dCall (spN 1 sp_row_of_cells) (dCons (dVar 2) dNil)) [2]) dNil)) dNil))))))

local macro_rules | `(tactic| walk_at "dzs") => `(tactic| try simp only [sp_is_integer, isIntD, dDrop, kDrop, dRet, dRetN, dIf, kIf, dNever, dNext, dBreak, dCont, dSet, kSet, dPar, kPar, dPar3, kPar3, dAug, kAug, dAsg, kAsg, gNm, gsNil, gsCons, gTp, gUl, gSb, kGs1, kGs2, rSet, dFor, kFor, dLc, dYes, wipeD, dRaise, kRaise, dTry, wTry, clrM, clrD, putD', dXv, kXv,
  dC, dVar, dUn, dOp, kOp1, kOp2, dTst, kB, dAnd, kAnd, dOr, kOr, dNot, kNot, dAndV, kAndV, dOrV, kOrV, dNotV, kNotV, dIfE, kIfE, dNil, dCons, kCons1, kCons2, dTup, kTup, dLst, kLst, dCall, kCall, spN, dCallK, kCK1, kCK2, pick, dMet, kM1, kM2, isLst, rApp, dSl, kSl1, kSl2, kSl3, rSl, dNoP, dPart, kPart,
  rAdd, rSub, rMul, rMulT, rMulN, rInP, rFdiv, rMod, rPow, rShl, rShr, rAnd, rXor, rNeg, rEq, rNe, rLt, rLe, rGt, rGe, rIs, rIsNot, isNon, rIx, rIsi, rIsi2, isTy, spLen, spInt, spTuple, spAll, spAny, spMax, spMin, spAbs, spList, rIn, rNotIn, rIns, dRevL, kRev, dBack, kBack, dLc2, iEn, kEn, dSrtSet, kSrtSet, dChain, kCh1, kCh2, kCh3, iZp, kZp, dLenNew, dLenSet, kLenSet, kLenNew, dDicE, dDisp, isDic, rDset, dDget, kDg1, kDg2, dDget2, kDh1, kDh2, kDh3, rDget, gDb, kGd1, kGd2, dStp, kSt0, kSt1, kSt2, spSumB, rDin, dBits, kBits, rDnin, spLenD, dAugS, kAs1, kAs2, kAs3, kAs4, rRem, rIdx, spStr, dJoin, kJoin1, kJoin2, rPop1, rPop0, rRev, dDc, dTupRg, kTupRg, dLstRg, kLstRg, iSq, iRg1, kRg1, iRg2, kRg2, rIAdd, endsD,
  isL_iff, atI0, atI1, atI2, get_at0, get_at, List.set_set, List.length_set, lget_at0, lget_at, lget_hd, lget_tl, set_at0, set_at, app1, List.nil_append, List.cons_append, List.length_cons, List.length_nil, List.length_append,
  List.getElem?_cons_zero, List.getElem?_cons_succ, List.set_cons_zero, List.set_cons_succ, List.getElem?_nil, List.filterMap_cons, List.filterMap_nil, List.append_nil,
  Option.some.injEq, O.lst.injEq, exists_eq_left', exists_eq_left, exists_eq', List.cons.injEq, D.int.injEq, D.bl.injEq, D.tup.injEq, D.ref.injEq, D.str.injEq, Int.natCast_inj, true_and, and_true, and_self, Nat.reduceAdd, Nat.zero_add, Bool.not_true, Bool.not_false, reduceCtorEq, forall_const, imp_self, not_true_eq_false, not_false_eq_true, false_implies, true_implies, implies_true, Bool.true_eq_false, Bool.false_eq_true, Bool.true_or, Bool.or_true, Bool.false_or, Bool.or_false, Bool.and_true, Bool.true_and, decide_eq_true_eq, decide_eq_false_iff_not, Bool.not_eq_true', Bool.not_eq_false', decide_true, decide_false, or_false, false_or, exists_false, exists_and_left, and_assoc])
local macro_rules | `(tactic| walk_at "ds") => `(tactic| try simp only [sp_is_integer, isIntD, dSeq, dDrop, kDrop, dRet, dRetN, dIf, kIf, dNever, dNext, dBreak, dCont, dSet, kSet, dPar, kPar, dPar3, kPar3, dAug, kAug, dAsg, kAsg, gNm, gsNil, gsCons, gTp, gUl, gSb, kGs1, kGs2, rSet, dFor, kFor, dLc, dYes, wipeD, dRaise, kRaise, dTry, wTry, clrM, clrD, putD', dXv, kXv,
  dC, dVar, dUn, dOp, kOp1, kOp2, dTst, kB, dAnd, kAnd, dOr, kOr, dNot, kNot, dAndV, kAndV, dOrV, kOrV, dNotV, kNotV, dIfE, kIfE, dNil, dCons, kCons1, kCons2, dTup, kTup, dLst, kLst, dCall, kCall, spN, dCallK, kCK1, kCK2, pick, dMet, kM1, kM2, isLst, rApp, dSl, kSl1, kSl2, kSl3, rSl, dNoP, dPart, kPart,
  rAdd, rSub, rMul, rMulT, rMulN, rInP, rFdiv, rMod, rPow, rShl, rShr, rAnd, rXor, rNeg, rEq, rNe, rLt, rLe, rGt, rGe, rIs, rIsNot, isNon, rIx, rIsi, rIsi2, isTy, spLen, spInt, spTuple, spAll, spAny, spMax, spMin, spAbs, spList, rIn, rNotIn, rIns, dRevL, kRev, dBack, kBack, dLc2, iEn, kEn, dSrtSet, kSrtSet, dChain, kCh1, kCh2, kCh3, iZp, kZp, dLenNew, dLenSet, kLenSet, kLenNew, dDicE, dDisp, isDic, rDset, dDget, kDg1, kDg2, dDget2, kDh1, kDh2, kDh3, rDget, gDb, kGd1, kGd2, dStp, kSt0, kSt1, kSt2, spSumB, rDin, dBits, kBits, rDnin, spLenD, dAugS, kAs1, kAs2, kAs3, kAs4, rRem, rIdx, spStr, dJoin, kJoin1, kJoin2, rPop1, rPop0, rRev, dDc, dTupRg, kTupRg, dLstRg, kLstRg, iSq, iRg1, kRg1, iRg2, kRg2, rIAdd, endsD,
  isL_iff, atI0, atI1, atI2, get_at0, get_at, List.set_set, List.length_set, lget_at0, lget_at, lget_hd, lget_tl, set_at0, set_at, app1, List.nil_append, List.cons_append, List.length_cons, List.length_nil, List.length_append,
  List.getElem?_cons_zero, List.getElem?_cons_succ, List.set_cons_zero, List.set_cons_succ, List.getElem?_nil, List.filterMap_cons, List.filterMap_nil, List.append_nil,
  Option.some.injEq, O.lst.injEq, exists_eq_left', exists_eq_left, exists_eq', List.cons.injEq, D.int.injEq, D.bl.injEq, D.tup.injEq, D.ref.injEq, D.str.injEq, Int.natCast_inj, true_and, and_true, and_self, Nat.reduceAdd, Nat.zero_add, Bool.not_true, Bool.not_false, reduceCtorEq, forall_const, imp_self, not_true_eq_false, not_false_eq_true, false_implies, true_implies, implies_true, Bool.true_eq_false, Bool.false_eq_true, Bool.true_or, Bool.or_true, Bool.false_or, Bool.or_false, Bool.and_true, Bool.true_and, decide_eq_true_eq, decide_eq_false_iff_not, Bool.not_eq_true', Bool.not_eq_false', decide_true, decide_false, or_false, false_or, exists_false, exists_and_left, and_assoc])
theorem book_lc {S : Sto} {m : Nat} {sg : Sl} {k : KD} (hs : 2 < sg.length) : ∀ {items : List D} {rs : List (List Nat)} (grd : Sto → Prop), (∀ G, grd (S ++ G)) → Paired (givenR S m) items rs → m ≤ 63 → items.length ≤ 1000000 → k (.ref S.length) (S ++ [.lst (rs.map rowD)]) →
    kLc (gNm 2) dYes (dCall (spN 1 sp_row_of_cells) (dCons (dVar 2) dNil)) sg k ⟨items, grd⟩ S := by
  intro items rs grd hg hp hm hz hk
  refine lc_ind (fun rest acc T => ∃ ri rr, acc = ri.map rowD ∧ ri ++ rr = rs ∧ Paired (givenR S m) rest rr ∧ acc.length + rest.length = items.length ∧ T = S ++ [.lst acc]) ⟨[], rs, rfl, rfl, hp, by simp, rfl⟩ ?_ ?_
  · rintro acc T ⟨ri, rr, rfl, e, hp, _, rfl⟩
    cases hp with
    | nil =>
      rw [List.append_nil] at e
      subst e
      exact ⟨hg _, hk⟩
  · rintro d rest acc T kk ⟨ri, rr, rfl, e, hp, hl, rfl⟩ hkk
    cases hp with
    | @cons _ r _ rr hr hp =>
      obtain ⟨cs, h1, h2, h3, h4, h5⟩ := hr
      refine ⟨hg _, ?_⟩
      simp only [dCall, dCons, dNil, kCons1, kCons2, kCall, spN, dVar, List.getElem?_set_self hs]
      refine ⟨rfl, d, cs, rfl, rowL_app _ h1, h3, fun c hc => Nat.lt_of_lt_of_le (h4 c hc) hm, fun r1 q1 q2 => ?_⟩
      have e1 : r1 = r := asc_ext q1 h5.1 fun c => (q2 c).trans (h5.2 c).symm
      subst e1
      refine hkk _ _ (by simp) (by rw [List.length_cons] at hl; rw [sl16]; omega) ⟨ri ++ [r1], rr, by simp, by simp [← e], hp, by rw [List.length_cons] at hl; rw [List.length_append, List.length_singleton]; omega, by rw [set_at0]⟩
theorem k_book : Keeps 2 3 t_book sp_book := by
  intro ds S k x hl cS cd h
  rcases h with ⟨m, d, items, rs, rfl, hm1, hm, hd, hz, hp, h⟩ | ⟨m, d, pre, post, rs, e, xs, rfl, hm1, hd, hp, hX, hg, h⟩
  rotate_left
  · show t_book (endsD S.length k x) [some (.int m), some d, none] S
    simp only [t_book]
    refine dSeq_cut (fun sg S' => sg = [some (.int (m : Int)), some d, none] ∧ S = S') (fun nx hnx => ?_) ?_
    · walk_at "dz"
      refine ⟨_, rfl, okD_int, ?_⟩
      simp only [isIntD]
      walk_at "dz"
      exact ⟨fun z => absurd z (by omega), fun _ => hnx _ _ ⟨rfl, rfl⟩⟩
    · rintro sg S' ⟨rfl, rfl⟩
      refine dSeq_go ?_
      refine it_rowL rfl hd fun grd hgr => ?_
      have hg0 : grd S := by simpa using hgr []
      refine wFor_ind (fun rest sg S' => (∃ pr rr, rest = pr ++ e :: post ∧ Paired (givenR S m) pr rr) ∧ (∃ v, sg = [some (.int (m : Int)), some d, v]) ∧ S = S') ?_ ?_ _ _ _ ⟨⟨pre, rs, rfl, hp⟩, ⟨_, rfl⟩, rfl⟩
      · rintro sg S' ⟨⟨pr, rr, h0, _⟩, _⟩
        cases pr with
        | nil => cases h0
        | cons a b => cases h0
      · rintro e1 rest sg S' nx2 ⟨⟨pr, rr, h0, hp⟩, ⟨v, rfl⟩, rfl⟩ hnx2
        refine ⟨hg0, ?_⟩
        walk_at "dz"
        cases hp with
        | nil =>
          cases h0
          exact ⟨m, e, xs, rfl, hX, fun z => (by rw [hg] at z; cases z), fun _ => .inl h⟩
        | cons hr hp =>
          cases h0
          obtain ⟨cs, h1, h2, h3, h4, h5⟩ := hr
          exact cells_ok h1 h2 h3 h4 (hnx2 _ _ ⟨⟨_, _, rfl, hp⟩, ⟨_, rfl⟩, rfl⟩)
  show t_book (endsD S.length k x) [some (.int m), some d, none] S
  simp only [t_book]
  refine dSeq_cut (fun sg S' => sg = [some (.int (m : Int)), some d, none] ∧ S = S') (fun nx hnx => ?_) ?_
  · walk_at "dz"
    refine ⟨_, rfl, okD_int, ?_⟩
    simp only [isIntD]
    walk_at "dz"
    exact ⟨fun z => absurd z (by omega), fun _ => hnx _ _ ⟨rfl, rfl⟩⟩
  · rintro sg S' ⟨rfl, rfl⟩
    refine dSeq_cut (fun sg S' => (∃ v, sg = [some (.int (m : Int)), some d, v]) ∧ S = S') (fun nx hnx => ?_) ?_
    · refine it_rowL rfl hd fun grd hg => ?_
      have hg0 : grd S := by simpa using hg []
      refine wFor_ind (fun rest sg S' => (∃ rr, Paired (givenR S m) rest rr) ∧ (∃ v, sg = [some (.int (m : Int)), some d, v]) ∧ S = S') ?_ ?_ _ _ _ ⟨⟨rs, hp⟩, ⟨_, rfl⟩, rfl⟩
      · rintro sg S' ⟨_, h2, rfl⟩
        exact ⟨hg0, hnx _ _ ⟨h2, rfl⟩⟩
      · rintro e rest sg S' nx2 ⟨⟨rr, hp⟩, ⟨v, rfl⟩, rfl⟩ hnx2
        cases hp with
        | @cons _ r _ rr hr hp =>
          obtain ⟨cs, h1, h2, h3, h4, h5⟩ := hr
          refine ⟨hg0, ?_⟩
          walk_at "dz"
          exact cells_ok h1 h2 h3 h4 (hnx2 _ _ ⟨⟨rr, hp⟩, ⟨_, rfl⟩, rfl⟩)
    · rintro sg S' ⟨⟨v, rfl⟩, rfl⟩
      generalize hq : iSq (dVar 1) = q
      simp only [dRet, dTup, dCons, dNil, dVar, kCons1, dCall, dLc, wipeD, List.getElem?_cons_zero, List.set_cons_succ, List.set_cons_zero]
      rw [← hq]
      refine it_rowL rfl hd fun grd hg => ?_
      refine book_lc (by simp) grd hg hp hm hz ?_
      walk_at "dz"
      exact ⟨by decide, wk_drop rfl cS (cl_book _ m rs) h⟩
end Q
open Q
local macro_rules | `(tactic| walk_at "dx") => `(tactic| try simp only [dSeq, dDrop, kDrop, dRet, dRetN, dIf, kIf, dNever, dNext, dBreak, dCont, dSet, kSet, dPar, kPar, dPar3, kPar3, dAug, kAug, dAsg, kAsg, gNm, gsNil, gsCons, gTp, gUl, gSb, kGs1, kGs2, rSet, dFor, kFor, dLc, dYes, wipeD, dRaise, kRaise, dTry, wTry, clrM, clrD, putD', dXv, kXv,
  dC, dVar, dUn, dOp, kOp1, kOp2, dTst, kB, dAnd, kAnd, dOr, kOr, dNot, kNot, dAndV, kAndV, dOrV, kOrV, dNotV, kNotV, dIfE, kIfE, dNil, dCons, kCons1, kCons2, dTup, kTup, dLst, kLst, dCall, kCall, spN, dCallK, kCK1, kCK2, pick, dMet, kM1, kM2, isLst, rApp, dSl, kSl1, kSl2, kSl3, rSl, dNoP, dPart, kPart,
  rAdd, rSub, rMul, rMulT, rMulN, rInP, rFdiv, rMod, rPow, rShl, rShr, rAnd, rXor, rNeg, rEq, rNe, rLt, rLe, rGt, rGe, rIs, rIsNot, isNon, rIx, rIsi, rIsi2, isTy, spLen, spInt, spTuple, spAll, spAny, spMax, spMin, spAbs, spList, rIn, rNotIn, rIns, dRevL, kRev, dBack, kBack, dLc2, iEn, kEn, dSrtSet, kSrtSet, dChain, kCh1, kCh2, kCh3, iZp, kZp, dLenNew, dLenSet, kLenSet, kLenNew, dDicE, dDisp, isDic, rDset, dDget, kDg1, kDg2, dDget2, kDh1, kDh2, kDh3, rDget, gDb, kGd1, kGd2, dStp, kSt0, kSt1, kSt2, spSumB, rDin, dBits, kBits, rDnin, spLenD, dAugS, kAs1, kAs2, kAs3, kAs4, rRem, rIdx, spStr, dJoin, kJoin1, kJoin2, rPop1, rPop0, rRev, dDc, dTupRg, kTupRg, dLstRg, kLstRg, iSq, iRg1, kRg1, iRg2, kRg2, rIAdd, endsD,
  isL_iff, atI0, atI1, atI2, get_at0, get_at, List.set_set, List.length_set, lget_at0, lget_at, lget_hd, lget_tl, set_at0, set_at, app1, List.nil_append, List.cons_append, List.length_cons, List.length_nil, List.length_append,
  List.getElem?_cons_zero, List.getElem?_cons_succ, List.set_cons_zero, List.set_cons_succ, List.getElem?_nil, List.filterMap_cons, List.filterMap_nil, List.append_nil,
  Option.some.injEq, O.lst.injEq, exists_eq_left', exists_eq_left, exists_eq', List.cons.injEq, D.int.injEq, D.bl.injEq, D.tup.injEq, D.ref.injEq, D.str.injEq, Int.natCast_inj, true_and, and_true, and_self, Nat.reduceAdd, Nat.zero_add, Bool.not_true, Bool.not_false, reduceCtorEq, forall_const, imp_self, not_true_eq_false, not_false_eq_true, false_implies, true_implies, implies_true, Bool.true_eq_false, Bool.false_eq_true, Bool.true_or, Bool.or_true, Bool.false_or, Bool.or_false, Bool.and_true, Bool.true_and, decide_eq_true_eq, decide_eq_false_iff_not, Bool.not_eq_true', Bool.not_eq_false', decide_true, decide_false, or_false, false_or, exists_false, exists_and_left, and_assoc])
local macro_rules | `(tactic| walk_at "dz") => `(tactic| try simp only [dDrop, kDrop, dRet, dRetN, dIf, kIf, dNever, dNext, dBreak, dCont, dSet, kSet, dPar, kPar, dPar3, kPar3, dAug, kAug, dAsg, kAsg, gNm, gsNil, gsCons, gTp, gUl, gSb, kGs1, kGs2, rSet, dFor, kFor, dLc, dYes, wipeD, dRaise, kRaise, dTry, wTry, clrM, clrD, putD', dXv, kXv,
  dC, dVar, dUn, dOp, kOp1, kOp2, dTst, kB, dAnd, kAnd, dOr, kOr, dNot, kNot, dAndV, kAndV, dOrV, kOrV, dNotV, kNotV, dIfE, kIfE, dNil, dCons, kCons1, kCons2, dTup, kTup, dLst, kLst, dCall, kCall, spN, dCallK, kCK1, kCK2, pick, dMet, kM1, kM2, isLst, rApp, dSl, kSl1, kSl2, kSl3, rSl, dNoP, dPart, kPart,
  rAdd, rSub, rMul, rMulT, rMulN, rInP, rFdiv, rMod, rPow, rShl, rShr, rAnd, rXor, rNeg, rEq, rNe, rLt, rLe, rGt, rGe, rIs, rIsNot, isNon, rIx, rIsi, rIsi2, isTy, spLen, spInt, spTuple, spAll, spAny, spMax, spMin, spAbs, spList, rIn, rNotIn, rIns, dRevL, kRev, dBack, kBack, dLc2, iEn, kEn, dSrtSet, kSrtSet, dChain, kCh1, kCh2, kCh3, iZp, kZp, dLenNew, dLenSet, kLenSet, kLenNew, dDicE, dDisp, isDic, rDset, dDget, kDg1, kDg2, dDget2, kDh1, kDh2, kDh3, rDget, gDb, kGd1, kGd2, dStp, kSt0, kSt1, kSt2, spSumB, rDin, dBits, kBits, rDnin, spLenD, dAugS, kAs1, kAs2, kAs3, kAs4, rRem, rIdx, spStr, dJoin, kJoin1, kJoin2, rPop1, rPop0, rRev, dDc, dTupRg, kTupRg, dLstRg, kLstRg, iSq, iRg1, kRg1, iRg2, kRg2, rIAdd, endsD,
  isL_iff, atI0, atI1, atI2, get_at0, get_at, List.set_set, List.length_set, lget_at0, lget_at, lget_hd, lget_tl, set_at0, set_at, app1, List.nil_append, List.cons_append, List.length_cons, List.length_nil, List.length_append,
  List.getElem?_cons_zero, List.getElem?_cons_succ, List.set_cons_zero, List.set_cons_succ, List.getElem?_nil, List.filterMap_cons, List.filterMap_nil, List.append_nil,
  Option.some.injEq, O.lst.injEq, exists_eq_left', exists_eq_left, exists_eq', List.cons.injEq, D.int.injEq, D.bl.injEq, D.tup.injEq, D.ref.injEq, D.str.injEq, Int.natCast_inj, true_and, and_true, and_self, Nat.reduceAdd, Nat.zero_add, Bool.not_true, Bool.not_false, reduceCtorEq, forall_const, imp_self, not_true_eq_false, not_false_eq_true, false_implies, true_implies, implies_true, Bool.true_eq_false, Bool.false_eq_true, Bool.true_or, Bool.or_true, Bool.false_or, Bool.or_false, Bool.and_true, Bool.true_and, decide_eq_true_eq, decide_eq_false_iff_not, Bool.not_eq_true', Bool.not_eq_false', decide_true, decide_false, or_false, false_or, exists_false, exists_and_left, and_assoc])
namespace Q
open PySem
open Spec PyProof.Rows L2
/-! ### books.py: keys and cells -/
def keysN (rows : List (List Nat)) (c : Nat) : List Nat := (List.range rows.length).filter fun j => decide (c ∈ rows.getD j [])
def cellsN (m : Nat) (rows : List (List Nat)) (lot : List Nat) : List Nat := (List.range m).filter fun c => lot.any fun j => decide (c ∈ rows.getD j [])
theorem keysN_mem {rows : List (List Nat)} {c j : Nat} : j ∈ keysN rows c ↔ j < rows.length ∧ c ∈ rows.getD j [] := by
  unfold keysN
  rw [List.mem_filter, List.mem_range, decide_eq_true_iff]
theorem keysN_lot (rows : List (List Nat)) (c : Nat) : LotOk rows (keysN rows c) := ⟨List.pairwise_lt_range.sublist List.filter_sublist, fun j hj => (keysN_mem.mp hj).1⟩
theorem cellsN_mem {m c : Nat} {rows : List (List Nat)} {lot : List Nat} : c ∈ cellsN m rows lot ↔ c < m ∧ ∃ j ∈ lot, c ∈ rows.getD j [] := by
  unfold cellsN
  rw [List.mem_filter, List.mem_range, List.any_eq_true]
  exact and_congr_right fun _ => exists_congr fun j => and_congr_right fun _ => decide_eq_true_iff
theorem cellsN_asc (m : Nat) (rows : List (List Nat)) (lot : List Nat) : (cellsN m rows lot).Pairwise (· < ·) := List.pairwise_lt_range.sublist List.filter_sublist
theorem cellsN_len (m : Nat) (rows : List (List Nat)) (lot : List Nat) : (cellsN m rows lot).length ≤ m := by
  have := List.length_filter_le (fun c => lot.any fun j => decide (c ∈ rows.getD j [])) (List.range m)
  rwa [List.length_range] at this
theorem cellsN_succ (i : Nat) (rows : List (List Nat)) (l : List Nat) : cellsN (i + 1) rows l = cellsN i rows l ++ if (l.filter fun j => decide (i ∈ rows.getD j [])).isEmpty then [] else [i] := by
  unfold cellsN
  rw [List.range_succ, List.filter_append]
  congr 1
  have e : (l.filter fun j => decide (i ∈ rows.getD j [])).isEmpty = !l.any fun j => decide (i ∈ rows.getD j []) := by
    induction l with
    | nil => rfl
    | cons a l ih =>
      rw [List.any_cons]
      by_cases ha : i ∈ rows.getD a []
      · rw [List.filter_cons_of_pos (p := fun j => decide (i ∈ rows.getD j [])) (decide_eq_true ha), decide_eq_true ha]
        rfl
      · rw [List.filter_cons_of_neg (p := fun j => decide (i ∈ rows.getD j [])) (by simpa using ha), decide_eq_false ha, ih, Bool.false_or]
  rw [e]
  cases h : l.any fun j => decide (i ∈ rows.getD j []) with
  | true =>
    rw [List.filter_cons_of_pos (p := fun c => l.any fun j => decide (c ∈ rows.getD j [])) h]
    rfl
  | false =>
    rw [List.filter_cons_of_neg (p := fun c => l.any fun j => decide (c ∈ rows.getD j [])) (by rw [h]; decide)]
    rfl
theorem getD_row {rows : List (List Nat)} {j : Nat} (h : j < rows.length) : (rows.map rowD)[j]? = some (rowD (rows.getD j [])) := by
  rw [List.getElem?_map, List.getD_eq_getElem?_getD, List.getElem?_eq_getElem h]
  rfl
theorem getD_mem {rows : List (List Nat)} {j : Nat} (h : j < rows.length) : rows.getD j [] ∈ rows := by
  rw [List.getD_eq_getElem?_getD, List.getElem?_eq_getElem h]
  exact List.getElem_mem h
def sp_check_cell : SpD := fun ds S k _ => ∃ (m c : Nat) (rows : List (List Nat)), ds = [bookD m rows, .int c] ∧ c < m ∧ k .non S
def sp_keys_at : SpD := fun ds S k _ => ∃ (m c : Nat) (rows : List (List Nat)), ds = [bookD m rows, .int c] ∧ rows.length ≤ 1000000 ∧ k (.tup (natsD (keysN rows c))) S
def sp_keys_of : SpD := fun ds S k _ => ∃ (m c : Nat) (rows : List (List Nat)), ds = [bookD m rows, .int c] ∧ BookOk m rows ∧ c < m ∧ k (.tup (natsD (keysN rows c))) S
def sp_cells_in : SpD := fun ds S k _ => ∃ (m : Nat) (rows : List (List Nat)) (l : List Nat), ds = [bookD m rows, .tup (natsD l)] ∧ BookOk m rows ∧ m ≤ 63 ∧ rows.length ≤ 1000 ∧ LotOk rows l ∧ k (.tup (natsD (cellsN m rows l))) S
def sp_cells_of : SpD := fun ds S k _ => ∃ (m : Nat) (rows : List (List Nat)) (l : List Nat), ds = [bookD m rows, .tup (natsD l)] ∧ BookOk m rows ∧ m ≤ 63 ∧ rows.length ≤ 1000 ∧ LotOk rows l ∧ k (.tup (natsD (cellsN m rows l))) S
/-- check_cell(book, cell); slots: 0 book, 1 cell -/
def t_check_cell : TSD := (dIf (dNot (dTst (dCall (spN 2 sp_is_below) (dCons (dVar 1) (dCons (dOp rIx (dVar 0) (dC (.int 0))) dNil))))) (dRaise "InvalidCell" (dCons (dVar 1) dNil)) dNext)
/-- keys_at(book, cell); slots: 0 book, 1 cell, 2 key, 3 row -/
def t_keys_at : TSD := (dRet (dCall spTuple (dCons (dLc (iEn (dCons (dOp rIx (dVar 0) (dC (.int 1))) dNil)) (gTp 2 (gsCons (gNm 2) (gsCons (gNm 3) gsNil))) (dTst (dOp rIn (dVar 1) (dVar 3))) (dVar 2) [2, 3]) dNil)))
/-- keys_of(book, cell); slots: 0 book, 1 cell -/
def t_keys_of : TSD := (dSeq (dDrop (dCall (spN 1 sp_check_book) (dCons (dVar 0) dNil))) (dSeq (dDrop (dCall (spN 2 sp_check_cell) (dCons (dVar 0) (dCons (dVar 1) dNil)))) (dRet (dCall (spN 2 sp_keys_at) (dCons (dVar 0) (dCons (dVar 1) dNil))))))
/-- cells_in(book, lot); slots: 0 book, 1 lot, 2 key, 3 cell -/
def t_cells_in : TSD := (dRet (dCall (spN 1 sp_row_of_cells) (dCons (dLc2 (iSq (dVar 1)) (gNm 2) dYes (iSq (dOp rIx (dOp rIx (dVar 0) (dC (.int 1))) (dVar 2))) (gNm 3) dYes (dVar 3) [2, 3] [3]) dNil)))
/-- cells_of(book, lot); slots: 0 book, 1 lot -/
def t_cells_of : TSD := (dSeq (dDrop (dCall (spN 1 sp_check_book) (dCons (dVar 0) dNil))) (dSeq (dDrop (dCall (spN 2 sp_check_lot) (dCons (dVar 0) (dCons (dVar 1) dNil)))) (dRet (dCall (spN 2 sp_cells_in) (dCons (dVar 0) (dCons (dVar 1) dNil))))))

theorem k_check_cell : Keeps 2 2 t_check_cell sp_check_cell := by
  intro ds S k x hl cS cd h
  obtain ⟨m, c, rows, rfl, hc, h⟩ := h
  show t_check_cell (endsD S.length k x) [some (bookD m rows), some (.int c)] S
  simp only [t_check_cell, bookD]
  walk_at "dx"
  refine ⟨_, _, rfl, okD_int, ?_⟩
  have e : isBelowD (m : Int) (.int (c : Int)) = true := by
    show (decide (0 ≤ (c : Int)) && decide ((c : Int) < (m : Int))) = true
    rw [decide_eq_true (by omega), decide_eq_true (by omega)]
    rfl
  rw [e]
  walk_at "dx"
  exact wk_now h
def partD (d : D) (i : Nat) : D := match d with
  | .tup ds => ds.getD i .non
  | _ => .non
theorem enumD_rows (rows : List (List Nat)) : enumD (rows.map rowD) = (List.range rows.length).map fun j : Nat => D.tup [.int (j : Int), rowD (rows.getD j [])] := by
  refine List.ext_getElem? fun j => ?_
  by_cases hj : j < rows.length
  · have h1 : j < (enumD (rows.map rowD)).length := by rw [enumD_len, List.length_map]; exact hj
    obtain ⟨y, hy, e⟩ := enumD_get (List.getElem?_eq_getElem h1)
    rw [getD_row hj] at hy
    cases hy
    rw [List.getElem?_eq_getElem h1, e, List.getElem?_map, List.getElem?_range hj]
    rfl
  · rw [List.getElem?_eq_none (by rw [enumD_len, List.length_map]; omega), List.getElem?_eq_none (by rw [List.length_map, List.length_range]; omega)]
theorem k_keys_at : Keeps 2 4 t_keys_at sp_keys_at := by
  intro ds S k x hl cS cd h
  obtain ⟨m, c, rows, rfl, hz, h⟩ := h
  show t_keys_at (endsD S.length k x) [some (bookD m rows), some (.int c), none, none] S
  simp only [t_keys_at, bookD]
  walk_at "dx"
  rw [enumD_rows]
  refine lc_filterG (fun d => [some (.tup [.int (m : Int), .tup (rows.map rowD)]), some (.int (c : Int)), some (partD d 0), some (partD d 1)]) (fun d => match partD d 1 with | .tup ds => inF (.int (c : Int)) ds | _ => false) (fun d => partD d 0) (fun d hd T K hK => ?_) (fun d hd acc kk hk => ?_) (fun d hd _ acc kk hk => ?_) (fun _ => trivial) (by rw [List.length_map, List.length_range]; exact sl_ok _ hz) ?_
  · obtain ⟨j, hj, rfl⟩ := List.mem_map.mp hd
    walk_at "dx"
    exact hK
  · obtain ⟨j, hj, rfl⟩ := List.mem_map.mp hd
    have hk : kk (inF (.int (c : Int)) (natsD (rows.getD j []))) (S ++ [.lst acc]) := hk
    simp only [partD, rowD]
    walk_at "dx"
    exact ⟨rfl, flat_nats _, hk⟩
  · obtain ⟨j, hj, rfl⟩ := List.mem_map.mp hd
    walk_at "dx"
    exact hk
  · walk_at "dx"
    have e : (((List.range rows.length).map fun j : Nat => D.tup [.int (j : Int), rowD (rows.getD j [])]).filter fun d => match partD d 1 with | .tup ds => inF (.int (c : Int)) ds | _ => false).map (fun d => partD d 0) = natsD (keysN rows c) := by
      rw [List.filter_map, List.map_map]
      unfold keysN natsD
      congr 1
      refine List.filter_congr fun j _ => ?_
      exact inF_nats
    rw [e]
    exact wk_drop rfl cS (cl_cells _ _) h
theorem k_keys_of : Keeps 2 2 t_keys_of sp_keys_of := by
  intro ds S k x hl cS cd h
  obtain ⟨m, c, rows, rfl, hB, hc, h⟩ := h
  show t_keys_of (endsD S.length k x) [some (bookD m rows), some (.int c)] S
  simp only [t_keys_of]
  walk_at "dx"
  refine ⟨_, rfl, okB_of hB, isBook_of hB, ?_⟩
  walk_at "dx"
  refine ⟨m, c, rows, rfl, hc, ?_⟩
  walk_at "dx"
  exact ⟨m, c, rows, rfl, hB.2.2.1, wk_now h⟩
theorem k_cells_in : Keeps 2 4 t_cells_in sp_cells_in := by
  intro ds S k x hl cS cd h
  obtain ⟨m, rows, l, rfl, hB, hm, hz, hL, h⟩ := h
  show t_cells_in (endsD S.length k x) [some (bookD m rows), some (.tup (natsD l)), none, none] S
  simp only [t_cells_in, bookD]
  walk_at "dx"
  have hll := lot_len hL
  have hft : ((natsD l).flatMap fun d => natsD (rows.getD (intD d).toNat [])) = natsD (l.flatMap fun j => rows.getD j []) := by
    unfold natsD
    rw [List.flatMap_map, List.map_flatMap]
    rfl
  have hlen : (l.flatMap fun j => rows.getD j []).length ≤ 1000000 := by
    have key : ∀ l' : List Nat, (∀ j ∈ l', j < rows.length) → (l'.flatMap fun j => rows.getD j []).length ≤ 63 * l'.length := by
      intro l'
      induction l' with
      | nil => exact fun _ => Nat.zero_le _
      | cons j r ih =>
        intro hj
        have h1 := ih fun y hy => hj y (List.mem_cons_of_mem _ hy)
        have h2 := (hB.2.2.2 _ (getD_mem (hj j List.mem_cons_self))).len
        rw [List.flatMap_cons, List.length_append, List.length_cons]
        omega
    have := key l hL.2
    omega
  refine lc2_flat (fun d => natsD (rows.getD (intD d).toNat [])) (by simp) (fun d hd acc K hK => ?_) (fun _ => trivial) ?_ ?_
  · obtain ⟨j, hj, rfl⟩ := List.mem_map.mp hd
    have hlt := hL.2 j hj
    walk_at "dx"
    refine ⟨_, atI_nat (getD_row hlt), ?_⟩
    simp only [rowD]
    exact hK _ fun _ => trivial
  · rw [hft, List.length_map]
    exact sl_ok _ hlen
  · rw [hft]
    walk_at "dx"
    refine ⟨_, _, rfl, .inr ⟨_, rfl, lget_end rfl⟩, hlen, fun c hc => ?_, fun r hr hm2 => ?_⟩
    · obtain ⟨j, hj, hc⟩ := List.mem_flatMap.mp hc
      exact Nat.lt_of_lt_of_le ((hB.2.2.2 _ (getD_mem (hL.2 j hj))).2.2 c hc) hm
    · have e : r = cellsN m rows l := asc_ext hr (cellsN_asc _ _ _) fun c => by
        rw [hm2, cellsN_mem, List.mem_flatMap]
        exact ⟨fun ⟨j, hj, hc⟩ => ⟨(hB.2.2.2 _ (getD_mem (hL.2 j hj))).2.2 c hc, j, hj, hc⟩, fun ⟨_, q⟩ => q⟩
      subst e
      exact wk_drop rfl cS (cl_cells _ _) h
theorem k_cells_of : Keeps 2 2 t_cells_of sp_cells_of := by
  intro ds S k x hl cS cd h
  obtain ⟨m, rows, l, rfl, hB, hm, hz, hL, h⟩ := h
  show t_cells_of (endsD S.length k x) [some (bookD m rows), some (.tup (natsD l))] S
  simp only [t_cells_of]
  walk_at "dx"
  refine ⟨_, rfl, okB_of hB, isBook_of hB, ?_⟩
  walk_at "dx"
  refine lot_ok hL hB.2.2.1 ?_
  walk_at "dx"
  exact ⟨m, rows, l, rfl, hB, hm, hz, hL, wk_now h⟩
/-! ### laws of these -/
theorem keysN_len (rows : List (List Nat)) (c : Nat) : (keysN rows c).length = rows.countP fun r => decide (c ∈ r) := by
  have e : rows.countP (fun r => decide (c ∈ r)) = (((List.range rows.length).map fun j => rows.getD j []).filter fun r => decide (c ∈ r)).length := by
    rw [show ((List.range rows.length).map fun j => rows.getD j []) = rows from by
      refine List.ext_getElem? fun j => ?_
      rw [List.getElem?_map]
      by_cases hj : j < rows.length
      · rw [List.getElem?_range hj, List.getElem?_eq_getElem hj]
        show some (rows.getD j []) = _
        rw [List.getD_eq_getElem?_getD, List.getElem?_eq_getElem hj]
        rfl
      · rw [List.getElem?_eq_none (by simpa using hj), List.getElem?_eq_none (by omega)]
        rfl, List.countP_eq_length_filter]
  rw [e, List.filter_map, List.length_map]
  rfl
theorem keysN_snoc (rows : List (List Nat)) (r : List Nat) (c : Nat) : keysN (rows ++ [r]) c = keysN rows c ++ if c ∈ r then [rows.length] else [] := by
  unfold keysN
  rw [List.length_append, List.length_singleton, List.range_succ, List.filter_append]
  congr 1
  · refine List.filter_congr fun j hj => ?_
    have hj := List.mem_range.mp hj
    rw [List.getD_eq_getElem?_getD, List.getD_eq_getElem?_getD, List.getElem?_append_left hj]
  · have e : (rows ++ [r]).getD rows.length [] = r := by
      rw [List.getD_eq_getElem?_getD, List.getElem?_append_right (Nat.le_refl _), Nat.sub_self]
      rfl
    by_cases hc : c ∈ r
    · rw [List.filter_cons_of_pos (by rw [e]; exact decide_eq_true hc), if_pos hc]
      rfl
    · rw [List.filter_cons_of_neg (by rw [e, decide_eq_false hc]; decide), if_neg hc]
      rfl
theorem sum_range_len {m : Nat} {r : List Nat} (h : RowOk m r) : ((List.range m).map fun c => if c ∈ r then 1 else 0).sum = r.length := by
  have e : (List.range m).filter (fun c => decide (c ∈ r)) = r := asc_ext (List.pairwise_lt_range.sublist List.filter_sublist) h.2.1 fun c => by
    rw [List.mem_filter, List.mem_range, decide_eq_true_iff]
    exact ⟨fun q => q.2, fun q => ⟨h.2.2 c q, q⟩⟩
  conv => rhs; rw [← e]
  generalize List.range m = l
  induction l with
  | nil => rfl
  | cons a l ih =>
    rw [List.map_cons, List.sum_cons, ih]
    by_cases ha : a ∈ r
    · rw [if_pos ha, List.filter_cons_of_pos (p := fun c => decide (c ∈ r)) (decide_eq_true ha), List.length_cons, Nat.add_comm]
    · rw [if_neg ha, List.filter_cons_of_neg (p := fun c => decide (c ∈ r)) (by simpa using ha), Nat.zero_add]
theorem sum_map_add (l : List Nat) (f g : Nat → Nat) : (l.map fun c => f c + g c).sum = (l.map f).sum + (l.map g).sum := by
  induction l with
  | nil => rfl
  | cons a l ih => simp only [List.map_cons, List.sum_cons, ih]; omega
theorem sum_keys {m : Nat} : ∀ {rows : List (List Nat)}, (∀ r ∈ rows, RowOk m r) → ((List.range m).map fun c => (keysN rows c).length).sum = (rows.map List.length).sum
  | [], _ => by
    simp only [keysN_len, List.countP_nil, List.map_nil, List.sum_nil]
    generalize List.range m = l
    induction l with
    | nil => rfl
    | cons a l ih => rw [List.map_cons, List.sum_cons, ih]; rfl
  | r :: rows, h => by
    have ih := sum_keys fun y hy => h y (List.mem_cons_of_mem r hy)
    rw [List.map_cons, List.sum_cons, ← ih, ← sum_range_len (h r List.mem_cons_self), Nat.add_comm, ← sum_map_add]
    congr 1
    refine List.map_congr_left fun c _ => ?_
    rw [keysN_len, keysN_len, List.countP_cons]
    congr 1
    by_cases hc : c ∈ r
    · rw [if_pos hc, if_pos (decide_eq_true hc)]
    · rw [if_neg hc, if_neg (by rw [decide_eq_false hc]; decide)]
theorem cells_part {m : Nat} {rows : List (List Nat)} {l : List Nat} (hL : LotOk rows l) : cellsN m (partR rows l) (List.range l.length) = cellsN m rows l := by
  refine asc_ext (cellsN_asc _ _ _) (cellsN_asc _ _ _) fun c => ?_
  rw [cellsN_mem, cellsN_mem]
  refine and_congr_right fun _ => ?_
  have at_ : ∀ i, (h : i < l.length) → (partR rows l).getD i [] = rows.getD l[i] [] := fun i h => by
    unfold partR
    rw [List.getD_eq_getElem?_getD, List.getElem?_map, List.getElem?_eq_getElem h]
    rfl
  constructor
  · rintro ⟨i, hi, hc⟩
    have hi := List.mem_range.mp hi
    rw [at_ i hi] at hc
    exact ⟨l[i], List.getElem_mem hi, hc⟩
  · rintro ⟨j, hj, hc⟩
    obtain ⟨i, hi, rfl⟩ := List.mem_iff_getElem.mp hj
    exact ⟨i, List.mem_range.mpr hi, by rw [at_ i hi]; exact hc⟩
theorem getD_erase {rows : List (List Nat)} {p j : Nat} (hp : p < rows.length) : (rows.take p ++ rows.drop (p + 1)).getD j [] = rows.getD (if j < p then j else j + 1) [] := by
  rw [List.getD_eq_getElem?_getD, List.getD_eq_getElem?_getD, ← List.eraseIdx_eq_take_drop_succ, List.getElem?_eraseIdx]
  split <;> rfl
theorem keysN_erase {rows : List (List Nat)} {p c : Nat} (hp : p < rows.length) : keysN (rows.take p ++ rows.drop (p + 1)) c = ((keysN rows c).filter fun o => decide (o ≠ p)).map fun o => if o > p then o - 1 else o := by
  refine asc_ext (keysN_lot _ _).1 (List.pairwise_map.mpr (((keysN_lot rows c).1.sublist List.filter_sublist).imp_of_mem fun {a b} ha hb hab => ?_)) fun j => ?_
  · have h1 := of_decide_eq_true (List.mem_filter.mp ha).2
    have h2 := of_decide_eq_true (List.mem_filter.mp hb).2
    split <;> split <;> omega
  · rw [keysN_mem, getD_erase hp, List.mem_map]
    have hlen : (rows.take p ++ rows.drop (p + 1)).length + 1 = rows.length := by
      rw [List.length_append, List.length_take, List.length_drop]
      omega
    constructor
    · rintro ⟨h1, h2⟩
      refine ⟨if j < p then j else j + 1, List.mem_filter.mpr ⟨keysN_mem.mpr ⟨by split <;> omega, h2⟩, decide_eq_true (by split <;> omega)⟩, ?_⟩
      by_cases hj : j < p
      · rw [if_pos hj, if_neg (by omega)]
      · rw [if_neg hj, if_pos (by omega)]
        omega
    · rintro ⟨o, ho, rfl⟩
      obtain ⟨ho, hne⟩ := List.mem_filter.mp ho
      have hne := of_decide_eq_true hne
      obtain ⟨h1, h2⟩ := keysN_mem.mp ho
      by_cases hgt : o > p
      · rw [if_pos hgt, if_neg (by omega), show o - 1 + 1 = o by omega]
        exact ⟨by omega, h2⟩
      · rw [if_neg hgt, if_pos (by omega)]
        exact ⟨by omega, h2⟩
end Q
open Q
local macro_rules | `(tactic| walk_at "dx") => `(tactic| try simp only [dSeq, dDrop, kDrop, dRet, dRetN, dIf, kIf, dNever, dNext, dBreak, dCont, dSet, kSet, dPar, kPar, dPar3, kPar3, dAug, kAug, dAsg, kAsg, gNm, gsNil, gsCons, gTp, gUl, gSb, kGs1, kGs2, rSet, dFor, kFor, dLc, dYes, wipeD, dRaise, kRaise, dTry, wTry, clrM, clrD, putD', dXv, kXv,
  dC, dVar, dUn, dOp, kOp1, kOp2, dTst, kB, dAnd, kAnd, dOr, kOr, dNot, kNot, dAndV, kAndV, dOrV, kOrV, dNotV, kNotV, dIfE, kIfE, dNil, dCons, kCons1, kCons2, dTup, kTup, dLst, kLst, dCall, kCall, spN, dCallK, kCK1, kCK2, pick, dMet, kM1, kM2, isLst, rApp, dSl, kSl1, kSl2, kSl3, rSl, dNoP, dPart, kPart,
  rAdd, rSub, rMul, rMulT, rMulN, rInP, rFdiv, rMod, rPow, rShl, rShr, rAnd, rXor, rNeg, rEq, rNe, rLt, rLe, rGt, rGe, rIs, rIsNot, isNon, rIx, rIsi, rIsi2, isTy, spLen, spInt, spTuple, spAll, spAny, spMax, spMin, spAbs, spList, rIn, rNotIn, rIns, dRevL, kRev, dBack, kBack, dLc2, iEn, kEn, dSrtSet, kSrtSet, dChain, kCh1, kCh2, kCh3, iZp, kZp, dLenNew, dLenSet, kLenSet, kLenNew, dDicE, dDisp, isDic, rDset, dDget, kDg1, kDg2, dDget2, kDh1, kDh2, kDh3, rDget, gDb, kGd1, kGd2, dStp, kSt0, kSt1, kSt2, spSumB, rDin, dBits, kBits, rDnin, spLenD, dAugS, kAs1, kAs2, kAs3, kAs4, rRem, rIdx, spStr, dJoin, kJoin1, kJoin2, rPop1, rPop0, rRev, dDc, dTupRg, kTupRg, dLstRg, kLstRg, iSq, iRg1, kRg1, iRg2, kRg2, rIAdd, endsD,
  isL_iff, atI0, atI1, atI2, get_at0, get_at, List.set_set, List.length_set, lget_at0, lget_at, lget_hd, lget_tl, set_at0, set_at, app1, List.nil_append, List.cons_append, List.length_cons, List.length_nil, List.length_append,
  List.getElem?_cons_zero, List.getElem?_cons_succ, List.set_cons_zero, List.set_cons_succ, List.getElem?_nil, List.filterMap_cons, List.filterMap_nil, List.append_nil,
  Option.some.injEq, O.lst.injEq, exists_eq_left', exists_eq_left, exists_eq', List.cons.injEq, D.int.injEq, D.bl.injEq, D.tup.injEq, D.ref.injEq, D.str.injEq, Int.natCast_inj, true_and, and_true, and_self, Nat.reduceAdd, Nat.zero_add, Bool.not_true, Bool.not_false, reduceCtorEq, forall_const, imp_self, not_true_eq_false, not_false_eq_true, false_implies, true_implies, implies_true, Bool.true_eq_false, Bool.false_eq_true, Bool.true_or, Bool.or_true, Bool.false_or, Bool.or_false, Bool.and_true, Bool.true_and, decide_eq_true_eq, decide_eq_false_iff_not, Bool.not_eq_true', Bool.not_eq_false', decide_true, decide_false, or_false, false_or, exists_false, exists_and_left, and_assoc])
local macro_rules | `(tactic| walk_at "dz") => `(tactic| try simp only [dDrop, kDrop, dRet, dRetN, dIf, kIf, dNever, dNext, dBreak, dCont, dSet, kSet, dPar, kPar, dPar3, kPar3, dAug, kAug, dAsg, kAsg, gNm, gsNil, gsCons, gTp, gUl, gSb, kGs1, kGs2, rSet, dFor, kFor, dLc, dYes, wipeD, dRaise, kRaise, dTry, wTry, clrM, clrD, putD', dXv, kXv,
  dC, dVar, dUn, dOp, kOp1, kOp2, dTst, kB, dAnd, kAnd, dOr, kOr, dNot, kNot, dAndV, kAndV, dOrV, kOrV, dNotV, kNotV, dIfE, kIfE, dNil, dCons, kCons1, kCons2, dTup, kTup, dLst, kLst, dCall, kCall, spN, dCallK, kCK1, kCK2, pick, dMet, kM1, kM2, isLst, rApp, dSl, kSl1, kSl2, kSl3, rSl, dNoP, dPart, kPart,
  rAdd, rSub, rMul, rMulT, rMulN, rInP, rFdiv, rMod, rPow, rShl, rShr, rAnd, rXor, rNeg, rEq, rNe, rLt, rLe, rGt, rGe, rIs, rIsNot, isNon, rIx, rIsi, rIsi2, isTy, spLen, spInt, spTuple, spAll, spAny, spMax, spMin, spAbs, spList, rIn, rNotIn, rIns, dRevL, kRev, dBack, kBack, dLc2, iEn, kEn, dSrtSet, kSrtSet, dChain, kCh1, kCh2, kCh3, iZp, kZp, dLenNew, dLenSet, kLenSet, kLenNew, dDicE, dDisp, isDic, rDset, dDget, kDg1, kDg2, dDget2, kDh1, kDh2, kDh3, rDget, gDb, kGd1, kGd2, dStp, kSt0, kSt1, kSt2, spSumB, rDin, dBits, kBits, rDnin, spLenD, dAugS, kAs1, kAs2, kAs3, kAs4, rRem, rIdx, spStr, dJoin, kJoin1, kJoin2, rPop1, rPop0, rRev, dDc, dTupRg, kTupRg, dLstRg, kLstRg, iSq, iRg1, kRg1, iRg2, kRg2, rIAdd, endsD,
  isL_iff, atI0, atI1, atI2, get_at0, get_at, List.set_set, List.length_set, lget_at0, lget_at, lget_hd, lget_tl, set_at0, set_at, app1, List.nil_append, List.cons_append, List.length_cons, List.length_nil, List.length_append,
  List.getElem?_cons_zero, List.getElem?_cons_succ, List.set_cons_zero, List.set_cons_succ, List.getElem?_nil, List.filterMap_cons, List.filterMap_nil, List.append_nil,
  Option.some.injEq, O.lst.injEq, exists_eq_left', exists_eq_left, exists_eq', List.cons.injEq, D.int.injEq, D.bl.injEq, D.tup.injEq, D.ref.injEq, D.str.injEq, Int.natCast_inj, true_and, and_true, and_self, Nat.reduceAdd, Nat.zero_add, Bool.not_true, Bool.not_false, reduceCtorEq, forall_const, imp_self, not_true_eq_false, not_false_eq_true, false_implies, true_implies, implies_true, Bool.true_eq_false, Bool.false_eq_true, Bool.true_or, Bool.or_true, Bool.false_or, Bool.or_false, Bool.and_true, Bool.true_and, decide_eq_true_eq, decide_eq_false_iff_not, Bool.not_eq_true', Bool.not_eq_false', decide_true, decide_false, or_false, false_or, exists_false, exists_and_left, and_assoc])
namespace Q
open PySem
open Spec PyProof.Rows L2
/-! ### pages, their parts; books compared -/
theorem sdB_row (n m : Nat) {r : List Nat} (hm : m ≤ 1000000) (h : RowOk m r) : sdB (n + 1) (rowD r) = true := by
  show (decide ((natsD r).length ≤ 1000000) && (natsD r).all (sdB n)) = true
  rw [List.length_map, decide_eq_true (Nat.le_trans h.len hm), Bool.true_and, List.all_map]
  exact List.all_eq_true.mpr fun c _ => by cases n <;> rfl
theorem sdB_book (n : Nat) {m : Nat} {rows : List (List Nat)} (h : BookOk m rows) : sdB (n + 3) (bookD m rows) = true := by
  have e : sdB (n + 2) (.tup (rows.map rowD)) = true := by
    show (decide ((rows.map rowD).length ≤ 1000000) && (rows.map rowD).all (sdB (n + 1))) = true
    rw [List.length_map, decide_eq_true h.2.2.1, Bool.true_and, List.all_map]
    exact List.all_eq_true.mpr fun r hr => sdB_row n m h.2.1 (h.2.2.2 r hr)
  show (decide (2 ≤ 1000000) && (sdB (n + 2) (.int (m : Int)) && (sdB (n + 2) (.tup (rows.map rowD)) && true))) = true
  rw [e]
  rfl
theorem page_app {S G : Sto} {n a b most : Nat} {k : KD} {x : XD} (hd : S[n]? = some (deckO a b)) (h0 : 0 < most) (hm : most ≤ 999) (hb : b < 2 ^ 64) (h : ∀ (m : Nat) (rows : List (List Nat)) (a' b' : Nat), BookOk m rows → m ≤ most → rows.length ≤ most → b' < 2 ^ 64 → k (bookD m rows) (S.set n (deckO a' b') ++ G)) :
    sp__law_page [.ref n, .int most] (S ++ G) k x := by
  refine ⟨n, a, b, most, rfl, h0, hm, get_app hd, hb, fun m rows a' b' hB h1 h2 hb' => ?_⟩
  rw [set_app (get_lt hd)]
  exact h m rows a' b' hB h1 h2 hb'
theorem page_set {S G : Sto} {n a b most : Nat} {o : O} {k : KD} {x : XD} (hd : S[n]? = some o) (h0 : 0 < most) (hm : most ≤ 999) (hb : b < 2 ^ 64) (h : ∀ (m : Nat) (rows : List (List Nat)) (a' b' : Nat), BookOk m rows → m ≤ most → rows.length ≤ most → b' < 2 ^ 64 → k (bookD m rows) (S.set n (deckO a' b') ++ G)) :
    sp__law_page [.ref n, .int most] (S.set n (deckO a b) ++ G) k x := by
  have hl : n < (S.set n (deckO a b)).length := by rw [List.length_set]; exact get_lt hd
  refine ⟨n, a, b, most, rfl, h0, hm, get_app (get_set_self hd), hb, fun m rows a' b' hB h1 h2 hb' => ?_⟩
  rw [set_app hl, List.set_set]
  exact h m rows a' b' hB h1 h2 hb'
theorem part_ok {m : Nat} {rows : List (List Nat)} {l : List Nat} (hB : BookOk m rows) (hL : LotOk rows l) : BookOk m (partR rows l) := by
  refine ⟨hB.1, hB.2.1, ?_, fun r hr => ?_⟩
  · unfold partR
    rw [List.length_map]
    exact Nat.le_trans (lot_len hL) hB.2.2.1
  · obtain ⟨c, hc, rfl⟩ := List.mem_map.mp hr
    have hlt := hL.2 c hc
    rw [List.getD_eq_getElem?_getD, List.getElem?_eq_getElem hlt]
    exact hB.2.2.2 _ (List.getElem_mem hlt)
theorem part_all (rows : List (List Nat)) : partR rows (List.range rows.length) = rows := by
  unfold partR
  refine List.ext_getElem? fun j => ?_
  rw [List.getElem?_map]
  by_cases hj : j < rows.length
  · rw [List.getElem?_range hj, List.getElem?_eq_getElem hj]
    show some (rows.getD j []) = _
    rw [List.getD_eq_getElem?_getD, List.getElem?_eq_getElem hj]
    rfl
  · rw [List.getElem?_eq_none (by simpa using hj), List.getElem?_eq_none (by omega)]
    rfl
theorem cut_lot {rows : List (List Nat)} (k : Nat) : LotOk rows ((List.range rows.length).take k ++ (List.range rows.length).drop (k + 1)) ∧ partR rows ((List.range rows.length).take k ++ (List.range rows.length).drop (k + 1)) = rows.take k ++ rows.drop (k + 1) := by
  have hs : ((List.range rows.length).take k ++ (List.range rows.length).drop (k + 1)).Sublist (List.range rows.length) := by
    rw [← List.eraseIdx_eq_take_drop_succ]
    exact List.eraseIdx_sublist _ _
  refine ⟨⟨List.pairwise_lt_range.sublist hs, fun c hc => List.mem_range.mp (hs.subset hc)⟩, ?_⟩
  have e := part_all rows
  unfold partR at e ⊢
  rw [List.map_append, List.map_take, List.map_drop, e]
theorem lot_set {S G : Sto} {n a b m : Nat} {rows : List (List Nat)} {o : O} {k : KD} {x : XD} (hd : S[n]? = some o) (hz : rows.length ≤ 1000) (hb : b < 2 ^ 64) (h : ∀ (l : List Nat) (a' b' : Nat), LotOk rows l → b' < 2 ^ 64 → k (.tup (natsD l)) (S.set n (deckO a' b') ++ G)) :
    sp__law_lot [.ref n, bookD m rows] (S.set n (deckO a b) ++ G) k x := by
  have hl : n < (S.set n (deckO a b)).length := by rw [List.length_set]; exact get_lt hd
  refine ⟨n, a, b, m, rows, rfl, hz, get_app (get_set_self hd), hb, fun l a' b' hL hb' => ?_⟩
  rw [set_app hl, List.set_set]
  exact h l a' b' hL hb'
end Q
open Q
local macro_rules | `(tactic| walk_at "dx") => `(tactic| try simp only [dSeq, dDrop, kDrop, dRet, dRetN, dIf, kIf, dNever, dNext, dBreak, dCont, dSet, kSet, dPar, kPar, dPar3, kPar3, dAug, kAug, dAsg, kAsg, gNm, gsNil, gsCons, gTp, gUl, gSb, kGs1, kGs2, rSet, dFor, kFor, dLc, dYes, wipeD, dRaise, kRaise, dTry, wTry, clrM, clrD, putD', dXv, kXv,
  dC, dVar, dUn, dOp, kOp1, kOp2, dTst, kB, dAnd, kAnd, dOr, kOr, dNot, kNot, dAndV, kAndV, dOrV, kOrV, dNotV, kNotV, dIfE, kIfE, dNil, dCons, kCons1, kCons2, dTup, kTup, dLst, kLst, dCall, kCall, spN, dCallK, kCK1, kCK2, pick, dMet, kM1, kM2, isLst, rApp, dSl, kSl1, kSl2, kSl3, rSl, dNoP, dPart, kPart,
  rAdd, rSub, rMul, rMulT, rMulN, rInP, rFdiv, rMod, rPow, rShl, rShr, rAnd, rXor, rNeg, rEq, rNe, rLt, rLe, rGt, rGe, rIs, rIsNot, isNon, rIx, rIsi, rIsi2, isTy, spLen, spInt, spTuple, spAll, spAny, spMax, spMin, spAbs, spList, rIn, rNotIn, rIns, dRevL, kRev, dBack, kBack, dLc2, iEn, kEn, dSrtSet, kSrtSet, dChain, kCh1, kCh2, kCh3, iZp, kZp, dLenNew, dLenSet, kLenSet, kLenNew, dDicE, dDisp, isDic, rDset, dDget, kDg1, kDg2, dDget2, kDh1, kDh2, kDh3, rDget, gDb, kGd1, kGd2, dStp, kSt0, kSt1, kSt2, spSumB, rDin, dBits, kBits, rDnin, spLenD, dAugS, kAs1, kAs2, kAs3, kAs4, rRem, rIdx, spStr, dJoin, kJoin1, kJoin2, rPop1, rPop0, rRev, dDc, dTupRg, kTupRg, dLstRg, kLstRg, iSq, iRg1, kRg1, iRg2, kRg2, rIAdd, endsD,
  isL_iff, atI0, atI1, atI2, get_at0, get_at, List.set_set, List.length_set, lget_at0, lget_at, lget_hd, lget_tl, set_at0, set_at, app1, List.nil_append, List.cons_append, List.length_cons, List.length_nil, List.length_append,
  List.getElem?_cons_zero, List.getElem?_cons_succ, List.set_cons_zero, List.set_cons_succ, List.getElem?_nil, List.filterMap_cons, List.filterMap_nil, List.append_nil,
  Option.some.injEq, O.lst.injEq, exists_eq_left', exists_eq_left, exists_eq', List.cons.injEq, D.int.injEq, D.bl.injEq, D.tup.injEq, D.ref.injEq, D.str.injEq, Int.natCast_inj, true_and, and_true, and_self, Nat.reduceAdd, Nat.zero_add, Bool.not_true, Bool.not_false, reduceCtorEq, forall_const, imp_self, not_true_eq_false, not_false_eq_true, false_implies, true_implies, implies_true, Bool.true_eq_false, Bool.false_eq_true, Bool.true_or, Bool.or_true, Bool.false_or, Bool.or_false, Bool.and_true, Bool.true_and, decide_eq_true_eq, decide_eq_false_iff_not, Bool.not_eq_true', Bool.not_eq_false', decide_true, decide_false, or_false, false_or, exists_false, exists_and_left, and_assoc])
local macro_rules | `(tactic| walk_at "dz") => `(tactic| try simp only [dDrop, kDrop, dRet, dRetN, dIf, kIf, dNever, dNext, dBreak, dCont, dSet, kSet, dPar, kPar, dPar3, kPar3, dAug, kAug, dAsg, kAsg, gNm, gsNil, gsCons, gTp, gUl, gSb, kGs1, kGs2, rSet, dFor, kFor, dLc, dYes, wipeD, dRaise, kRaise, dTry, wTry, clrM, clrD, putD', dXv, kXv,
  dC, dVar, dUn, dOp, kOp1, kOp2, dTst, kB, dAnd, kAnd, dOr, kOr, dNot, kNot, dAndV, kAndV, dOrV, kOrV, dNotV, kNotV, dIfE, kIfE, dNil, dCons, kCons1, kCons2, dTup, kTup, dLst, kLst, dCall, kCall, spN, dCallK, kCK1, kCK2, pick, dMet, kM1, kM2, isLst, rApp, dSl, kSl1, kSl2, kSl3, rSl, dNoP, dPart, kPart,
  rAdd, rSub, rMul, rMulT, rMulN, rInP, rFdiv, rMod, rPow, rShl, rShr, rAnd, rXor, rNeg, rEq, rNe, rLt, rLe, rGt, rGe, rIs, rIsNot, isNon, rIx, rIsi, rIsi2, isTy, spLen, spInt, spTuple, spAll, spAny, spMax, spMin, spAbs, spList, rIn, rNotIn, rIns, dRevL, kRev, dBack, kBack, dLc2, iEn, kEn, dSrtSet, kSrtSet, dChain, kCh1, kCh2, kCh3, iZp, kZp, dLenNew, dLenSet, kLenSet, kLenNew, dDicE, dDisp, isDic, rDset, dDget, kDg1, kDg2, dDget2, kDh1, kDh2, kDh3, rDget, gDb, kGd1, kGd2, dStp, kSt0, kSt1, kSt2, spSumB, rDin, dBits, kBits, rDnin, spLenD, dAugS, kAs1, kAs2, kAs3, kAs4, rRem, rIdx, spStr, dJoin, kJoin1, kJoin2, rPop1, rPop0, rRev, dDc, dTupRg, kTupRg, dLstRg, kLstRg, iSq, iRg1, kRg1, iRg2, kRg2, rIAdd, endsD,
  isL_iff, atI0, atI1, atI2, get_at0, get_at, List.set_set, List.length_set, lget_at0, lget_at, lget_hd, lget_tl, set_at0, set_at, app1, List.nil_append, List.cons_append, List.length_cons, List.length_nil, List.length_append,
  List.getElem?_cons_zero, List.getElem?_cons_succ, List.set_cons_zero, List.set_cons_succ, List.getElem?_nil, List.filterMap_cons, List.filterMap_nil, List.append_nil,
  Option.some.injEq, O.lst.injEq, exists_eq_left', exists_eq_left, exists_eq', List.cons.injEq, D.int.injEq, D.bl.injEq, D.tup.injEq, D.ref.injEq, D.str.injEq, Int.natCast_inj, true_and, and_true, and_self, Nat.reduceAdd, Nat.zero_add, Bool.not_true, Bool.not_false, reduceCtorEq, forall_const, imp_self, not_true_eq_false, not_false_eq_true, false_implies, true_implies, implies_true, Bool.true_eq_false, Bool.false_eq_true, Bool.true_or, Bool.or_true, Bool.false_or, Bool.or_false, Bool.and_true, Bool.true_and, decide_eq_true_eq, decide_eq_false_iff_not, Bool.not_eq_true', Bool.not_eq_false', decide_true, decide_false, or_false, false_or, exists_false, exists_and_left, and_assoc])
namespace Q
open PySem
open Spec PyProof.Rows L2
/-! ### words: sums of them, drawn ones (k06, k07) -/
def xorA (l : List Nat) : Nat := l.foldr (· ^^^ ·) 0
theorem xorA_app (l m : List Nat) : xorA (l ++ m) = xorA l ^^^ xorA m := by
  induction l with
  | nil => show xorA m = 0 ^^^ xorA m; rw [Nat.zero_xor]
  | cons a l ih => show a ^^^ xorA (l ++ m) = (a ^^^ xorA l) ^^^ xorA m; rw [ih, Nat.xor_assoc]
theorem xorA_perm {l m : List Nat} (h : l.Perm m) : xorA l = xorA m := by
  induction h with
  | nil => rfl
  | cons a _ ih => show a ^^^ xorA _ = a ^^^ xorA _; rw [ih]
  | swap a b l => show b ^^^ (a ^^^ xorA l) = a ^^^ (b ^^^ xorA l); rw [← Nat.xor_assoc, ← Nat.xor_assoc, Nat.xor_comm b a]
  | trans _ _ h1 h2 => exact h1.trans h2
theorem xorA_lt {e : Nat} : ∀ {l : List Nat}, (∀ a ∈ l, a < 2 ^ e) → xorA l < 2 ^ e
  | [], _ => Nat.two_pow_pos e
  | a :: l, h => Nat.xor_lt_two_pow (h a List.mem_cons_self) (xorA_lt fun b hb => h b (List.mem_cons_of_mem _ hb))
theorem bits_zero (p f : Nat) : bitsFrom p f 0 = [] := by cases f <;> rfl
theorem bits_range : ∀ (k p r : Nat), r < 2 ^ k → bitsFrom p r r = ((List.range k).filter fun j => r.testBit j).map (p + ·)
  | 0, p, r, h => by
    have : r = 0 := by simpa using h
    subst this
    rfl
  | k + 1, p, r, h => by
    by_cases h0 : r = 0
    · subst h0
      rw [bits_zero]
      simp
    · rw [bits_step p r (by omega), bits_range k (p + 1) (r / 2) (by rw [Nat.pow_succ] at h; omega), List.range_succ_eq_map, List.filter_cons, List.filter_map]
      have e1 : ((fun j => r.testBit j) ∘ Nat.succ) = fun j => (r / 2).testBit j := funext fun j => Nat.testBit_succ r j
      have e2 : r.testBit 0 = decide (r % 2 = 1) := Nat.testBit_zero r
      rw [e1, e2]
      by_cases h2 : r % 2 = 1
      · simp [h2, List.map_map, Function.comp_def, Nat.add_assoc, Nat.add_comm 1]
      · simp [h2, List.map_map, Function.comp_def, Nat.add_assoc, Nat.add_comm 1]
theorem bitsN_range {n k : Nat} (h : n < 2 ^ k) : bitsN n = (List.range k).filter fun j => n.testBit j := by
  unfold bitsN
  rw [bits_range k 0 n h]
  simp
theorem par_bit (at_ : Nat) : ∀ ws : List Nat, (ws.map fun w => w / 2 ^ at_ % 2).sum % 2 = if (xorA ws).testBit at_ then 1 else 0
  | [] => by simp [xorA]
  | a :: ws => by
    have ih := par_bit at_ ws
    rw [List.map_cons, List.sum_cons, show xorA (a :: ws) = a ^^^ xorA ws from rfl, Nat.testBit_xor, Nat.add_mod, ih, Nat.testBit_eq_decide_div_mod_eq (x := a)]
    have : a / 2 ^ at_ % 2 = 0 ∨ a / 2 ^ at_ % 2 = 1 := by omega
    cases hx : (xorA ws).testBit at_ <;> rcases this with h | h <;> simp [h]
theorem sum_cast (l : List Nat) : (l.map fun n : Nat => (n : Int)).sum = ((l.sum : Nat) : Int) := by
  induction l with
  | nil => rfl
  | cons a l ih => rw [List.map_cons, List.sum_cons, List.sum_cons, ih]; push_cast; rfl
theorem nats_of_all : ∀ {xs : List D}, xs.all isNatD = true → ∃ ws : List Nat, xs = natsD ws
  | [], _ => ⟨[], rfl⟩
  | d :: xs, h => by
    rw [List.all_cons, Bool.and_eq_true] at h
    obtain ⟨ws, rfl⟩ := nats_of_all h.2
    cases d with
    | int i =>
      have h0 : 0 ≤ i := of_decide_eq_true h.1
      refine ⟨i.toNat :: ws, ?_⟩
      show _ = D.int ((i.toNat : Nat) : Int) :: _
      rw [Int.toNat_of_nonneg h0]
    | _ => exact absurd h.1 (by simp [isNatD])
def sp_sum_of_words : SpD := fun ds S k _ => ∃ (d : D) (ws : List Nat), ds = [d] ∧ rowL S d (natsD ws) ∧ ws.length ≤ 1000000 ∧ k (.int (xorA ws : Nat)) S
def sp_added_all : SpD := fun ds S k x => ∃ (d : D) (xs : List D), ds = [d] ∧ itemsX S d xs ∧ (∀ ws, xs = natsD ws → k (.int (xorA ws : Nat)) S) ∧ (xs.all isNatD = false → x ("InvalidWord", d) S)
/-- sum_of_words(words); slots: 0 words, 1 total, 2 word -/
def t_sum_of_words : TSD := (dSeq (dSet 1 (dC (.int 0))) (dSeq (dFor (iSq (dVar 0)) (gNm 2) (dSet 1 (dOp rXor (dVar 1) (dVar 2)))) (dRet (dVar 1))))
/-- added_all(some); slots: 0 some, 1 a -/
def t_added_all : TSD := (dSeq (dIf (dOr (dNot (dTst (dCall (spN 1 sp_is_row_or_list) (dCons (dVar 0) dNil)))) (dNot (dTst (dCall spAll (dCons (dLc (iSq (dVar 0)) (gNm 1) dYes (dCall (spN 1 sp_is_natural) (dCons (dVar 1) dNil)) [1]) dNil))))) (dRaise "InvalidWord" (dCons (dVar 0) dNil)) dNext) (dRet (dCall (spN 1 sp_sum_of_words) (dCons (dVar 0) dNil))))

local macro_rules | `(tactic| walk_at "dzs") => `(tactic| try simp only [sp_is_integer, sp_is_natural, sp_bits_of, sp_check_word, sp_added, sp_bits, sp_is_row_or_list, sp_sum_of_words, isIntD, isNatD, dDrop, kDrop, dRet, dRetN, dIf, kIf, dNever, dNext, dBreak, dCont, dSet, kSet, dPar, kPar, dPar3, kPar3, dAug, kAug, dAsg, kAsg, gNm, gsNil, gsCons, gTp, gUl, gSb, kGs1, kGs2, rSet, dFor, kFor, dLc, dYes, wipeD, dRaise, kRaise, dTry, wTry, clrM, clrD, putD', dXv, kXv,
  dC, dVar, dUn, dOp, kOp1, kOp2, dTst, kB, dAnd, kAnd, dOr, kOr, dNot, kNot, dAndV, kAndV, dOrV, kOrV, dNotV, kNotV, dIfE, kIfE, dNil, dCons, kCons1, kCons2, dTup, kTup, dLst, kLst, dCall, kCall, spN, dCallK, kCK1, kCK2, pick, dMet, kM1, kM2, isLst, rApp, dSl, kSl1, kSl2, kSl3, rSl, dNoP, dPart, kPart,
  rAdd, rSub, rMul, rMulT, rMulN, rInP, rFdiv, rMod, rPow, rShl, rShr, rAnd, rXor, rNeg, rEq, rNe, rLt, rLe, rGt, rGe, rIs, rIsNot, isNon, rIx, rIsi, rIsi2, isTy, spLen, spInt, spTuple, spAll, spAny, spMax, spMin, spAbs, spList, rIn, rNotIn, rIns, dRevL, kRev, dBack, kBack, dLc2, iEn, kEn, dSrtSet, kSrtSet, dChain, kCh1, kCh2, kCh3, iZp, kZp, dLenNew, dLenSet, kLenSet, kLenNew, dDicE, dDisp, isDic, rDset, dDget, kDg1, kDg2, dDget2, kDh1, kDh2, kDh3, rDget, gDb, kGd1, kGd2, dStp, kSt0, kSt1, kSt2, spSumB, rDin, dBits, kBits, rDnin, spLenD, dAugS, kAs1, kAs2, kAs3, kAs4, rRem, rIdx, spStr, dJoin, kJoin1, kJoin2, rPop1, rPop0, rRev, dDc, dTupRg, kTupRg, dLstRg, kLstRg, iSq, iRg1, kRg1, iRg2, kRg2, rIAdd, endsD,
  isL_iff, atI0, atI1, atI2, get_at0, get_at, List.set_set, List.length_set, lget_at0, lget_at, lget_hd, lget_tl, set_at0, set_at, app1, List.nil_append, List.cons_append, List.length_cons, List.length_nil, List.length_append,
  List.getElem?_cons_zero, List.getElem?_cons_succ, List.set_cons_zero, List.set_cons_succ, List.getElem?_nil, List.filterMap_cons, List.filterMap_nil, List.append_nil,
  Option.some.injEq, O.lst.injEq, exists_eq_left', exists_eq_left, exists_eq', List.cons.injEq, D.int.injEq, D.bl.injEq, D.tup.injEq, D.ref.injEq, D.str.injEq, Int.natCast_inj, true_and, and_true, and_self, Nat.reduceAdd, Nat.zero_add, Bool.not_true, Bool.not_false, reduceCtorEq, forall_const, imp_self, not_true_eq_false, not_false_eq_true, false_implies, true_implies, implies_true, Bool.true_eq_false, Bool.false_eq_true, Bool.true_or, Bool.or_true, Bool.false_or, Bool.or_false, Bool.and_true, Bool.true_and, decide_eq_true_eq, decide_eq_false_iff_not, Bool.not_eq_true', Bool.not_eq_false', decide_true, decide_false, or_false, false_or, exists_false, exists_and_left, and_assoc])
local macro_rules | `(tactic| walk_at "ds") => `(tactic| try simp only [sp_is_integer, sp_is_natural, sp_bits_of, sp_check_word, sp_added, sp_bits, sp_is_row_or_list, sp_sum_of_words, isIntD, isNatD, dSeq, dDrop, kDrop, dRet, dRetN, dIf, kIf, dNever, dNext, dBreak, dCont, dSet, kSet, dPar, kPar, dPar3, kPar3, dAug, kAug, dAsg, kAsg, gNm, gsNil, gsCons, gTp, gUl, gSb, kGs1, kGs2, rSet, dFor, kFor, dLc, dYes, wipeD, dRaise, kRaise, dTry, wTry, clrM, clrD, putD', dXv, kXv,
  dC, dVar, dUn, dOp, kOp1, kOp2, dTst, kB, dAnd, kAnd, dOr, kOr, dNot, kNot, dAndV, kAndV, dOrV, kOrV, dNotV, kNotV, dIfE, kIfE, dNil, dCons, kCons1, kCons2, dTup, kTup, dLst, kLst, dCall, kCall, spN, dCallK, kCK1, kCK2, pick, dMet, kM1, kM2, isLst, rApp, dSl, kSl1, kSl2, kSl3, rSl, dNoP, dPart, kPart,
  rAdd, rSub, rMul, rMulT, rMulN, rInP, rFdiv, rMod, rPow, rShl, rShr, rAnd, rXor, rNeg, rEq, rNe, rLt, rLe, rGt, rGe, rIs, rIsNot, isNon, rIx, rIsi, rIsi2, isTy, spLen, spInt, spTuple, spAll, spAny, spMax, spMin, spAbs, spList, rIn, rNotIn, rIns, dRevL, kRev, dBack, kBack, dLc2, iEn, kEn, dSrtSet, kSrtSet, dChain, kCh1, kCh2, kCh3, iZp, kZp, dLenNew, dLenSet, kLenSet, kLenNew, dDicE, dDisp, isDic, rDset, dDget, kDg1, kDg2, dDget2, kDh1, kDh2, kDh3, rDget, gDb, kGd1, kGd2, dStp, kSt0, kSt1, kSt2, spSumB, rDin, dBits, kBits, rDnin, spLenD, dAugS, kAs1, kAs2, kAs3, kAs4, rRem, rIdx, spStr, dJoin, kJoin1, kJoin2, rPop1, rPop0, rRev, dDc, dTupRg, kTupRg, dLstRg, kLstRg, iSq, iRg1, kRg1, iRg2, kRg2, rIAdd, endsD,
  isL_iff, atI0, atI1, atI2, get_at0, get_at, List.set_set, List.length_set, lget_at0, lget_at, lget_hd, lget_tl, set_at0, set_at, app1, List.nil_append, List.cons_append, List.length_cons, List.length_nil, List.length_append,
  List.getElem?_cons_zero, List.getElem?_cons_succ, List.set_cons_zero, List.set_cons_succ, List.getElem?_nil, List.filterMap_cons, List.filterMap_nil, List.append_nil,
  Option.some.injEq, O.lst.injEq, exists_eq_left', exists_eq_left, exists_eq', List.cons.injEq, D.int.injEq, D.bl.injEq, D.tup.injEq, D.ref.injEq, D.str.injEq, Int.natCast_inj, true_and, and_true, and_self, Nat.reduceAdd, Nat.zero_add, Bool.not_true, Bool.not_false, reduceCtorEq, forall_const, imp_self, not_true_eq_false, not_false_eq_true, false_implies, true_implies, implies_true, Bool.true_eq_false, Bool.false_eq_true, Bool.true_or, Bool.or_true, Bool.false_or, Bool.or_false, Bool.and_true, Bool.true_and, decide_eq_true_eq, decide_eq_false_iff_not, Bool.not_eq_true', Bool.not_eq_false', decide_true, decide_false, or_false, false_or, exists_false, exists_and_left, and_assoc])
theorem k_sum_of_words : Keeps 1 3 t_sum_of_words sp_sum_of_words := by
  intro ds S k x hl cS cd h
  obtain ⟨d, ws, rfl, hd, hz, h⟩ := h
  show t_sum_of_words (endsD S.length k x) [some d, none, none] S
  simp only [t_sum_of_words]
  have fin : ∀ (grd : Sto → Prop), grd S → wFor grd (gNm 2) (dSet 1 (dOp rXor (dVar 1) (dVar 2))) { nx := dRet (dVar 1) (endsD S.length k x), rt := (endsD S.length k x).rt, bk := (endsD S.length k x).bk, ct := (endsD S.length k x).ct, ex := (endsD S.length k x).ex } (natsD ws) [some d, some (.int 0), none] S := by
    intro grd hg
    refine wFor_ind (fun r sg S' => ∃ (rest : List Nat) (tot : Nat) (t : Option D), r = natsD rest ∧ sg = [some d, some (.int tot), t] ∧ S' = S ∧ tot ^^^ xorA rest = xorA ws) ?_ ?_ _ _ _ ⟨ws, 0, none, rfl, rfl, rfl, Nat.zero_xor _⟩
    · rintro sg S' ⟨rest, tot, t, hr, rfl, rfl, hx⟩
      cases rest with
      | cons a l => cases hr
      | nil =>
        refine ⟨hg, ?_⟩
        walk_at "dx"
        rw [show tot = xorA ws by rw [← hx]; exact (Nat.xor_zero tot).symm]
        exact wk_now h
    · rintro d1 r sg S' nx ⟨rest, tot, t, hr, rfl, rfl, hx⟩ hnx
      cases rest with
      | nil => cases hr
      | cons a l =>
        cases hr
        refine ⟨hg, ?_⟩
        walk_at "dx"
        rw [xor_nat]
        exact hnx _ _ ⟨l, tot ^^^ a, _, rfl, rfl, rfl, by rw [Nat.xor_assoc]; exact hx⟩
  rcases hd with rfl | ⟨n, rfl, hn⟩
  · walk_at "dx"
    exact fin _ trivial
  · walk_at "dx"
    exact ⟨_, hn, fin _ hn⟩
theorem all_nat (ws : List Nat) : (natsD ws).all isNatD = true := by
  refine List.all_eq_true.mpr fun d hd => ?_
  obtain ⟨j, _, rfl⟩ := List.mem_map.mp hd
  show decide (0 ≤ (j : Int)) = true
  exact decide_eq_true (by omega)
theorem k_added_all : Keeps 1 2 t_added_all sp_added_all := by
  intro ds S k x hl cS cd h
  obtain ⟨d, xs, rfl, ⟨hd, hz, hk⟩, h1, h2⟩ := h
  show t_added_all (endsD S.length k x) [some d, none] S
  simp only [t_added_all]
  have hlen : xs.length ≤ sizeLine := sl_ok _ hz
  have c1 : clD S.length d := cd.1
  have el : ∀ (d1 : D), d1 ∈ xs → ∀ (acc : List D) (kk : KD), kk (.bl (isNatD d1)) (S ++ [.lst acc]) → dCall (spN 1 sp_is_natural) (dCons (dVar 1) dNil) [some d, some d1] (S ++ [.lst acc]) kk XF := fun d1 h1 acc kk hk2 => by
    walk_at "dx"
    exact ⟨_, rfl, okD_app _ (hk d1 h1), hk2⟩
  have e1 : (xs.map isNatD).all id = xs.all isNatD := by rw [List.all_map]; rfl
  rcases hd with rfl | ⟨n, rfl, hn⟩
  · walk_at "dx"
    refine ⟨_, _, rfl, .inl rfl, ?_⟩
    walk_at "dx"
    refine lc_map (fun d => .bl (isNatD d)) el (fun _ => trivial) hlen ?_
    walk_at "dx"
    refine ⟨xs.map isNatD, by rw [List.map_map]; rfl, ?_⟩
    rw [e1]
    cases e : xs.all isNatD with
    | true =>
      obtain ⟨ws, rfl⟩ := nats_of_all e
      walk_at "dx"
      exact ⟨_, ws, rfl, .inl rfl, by rw [List.length_map] at hz; exact hz, wk_drop rfl cS trivial (h1 ws rfl)⟩
    | false =>
      walk_at "dx"
      exact wkX_drop rfl cS c1 (h2 e)
  · walk_at "dx"
    refine ⟨_, _, rfl, .inr ⟨n, rfl, hn⟩, ?_⟩
    walk_at "dx"
    refine ⟨_, hn, lc_map (fun d => .bl (isNatD d)) el (fun _ => lget_app hn) hlen ?_⟩
    walk_at "dx"
    refine ⟨xs.map isNatD, by rw [List.map_map]; rfl, ?_⟩
    rw [e1]
    cases e : xs.all isNatD with
    | true =>
      obtain ⟨ws, rfl⟩ := nats_of_all e
      walk_at "dx"
      exact ⟨_, ws, rfl, .inr ⟨n, rfl, lget_app hn⟩, by rw [List.length_map] at hz; exact hz, wk_drop rfl cS trivial (h1 ws rfl)⟩
    | false =>
      walk_at "dx"
      exact wkX_drop rfl cS c1 (h2 e)
def sp__law_word : SpD := fun ds S k _ => ∃ (n a b most : Nat), ds = [.ref n, .int most] ∧ most ≤ 1000 ∧ S[n]? = some (deckO a b) ∧ b < 2 ^ 64 ∧ ∀ w a' b' : Nat, w ≤ 2 ^ most + 1 → b' < 2 ^ 64 → k (.int w) (S.set n (deckO a' b'))
def sp__law_sum : SpD := fun ds S k _ => ∃ a b : Nat, ds = [.int a, .int b] ∧ a < 2 ^ 2000 ∧ b < 2 ^ 2000 ∧ k (.int ((a ^^^ b : Nat) : Int)) S
/-- _law_word(deck, most); slots: 0 deck, 1 most, 2 wide, 3 found, 4 power, 5 turn -/
def t__law_word : TSD := (dSeq (dPar3 2 3 4 (dCons (dCall (spN 2 sp__law_take) (dCons (dVar 0) (dCons (dOp rAdd (dVar 1) (dC (.int 1))) dNil))) (dCons (dC (.int 0)) (dCons (dC (.int 1)) dNil)))) (dSeq (dFor (iRg1 (dCons (dVar 2) dNil)) (gNm 5) (dSeq (dSet 3 (dOp rAdd (dVar 3) (dOp rMul (dVar 4) (dCall (spN 2 sp__law_take) (dCons (dVar 0) (dCons (dC (.int 2)) dNil)))))) (dSet 4 (dOp rMul (dC (.int 2)) (dVar 4))))) (dRet (dOp rIx (dLst (dCons (dVar 3) (dCons (dVar 3) (dCons (dVar 4) (dCons (dOp rSub (dVar 4) (dC (.int 1))) (dCons (dOp rAdd (dVar 4) (dC (.int 1))) dNil)))))) (dCall (spN 2 sp__law_take) (dCons (dVar 0) (dCons (dC (.int 5)) dNil)))))))
/-- _law_sum(a_word, b_word); slots: 0 a_word, 1 b_word, 2 found, 3 power -/
def t__law_sum : TSD := (dSeq (dAsg (dTup (dCons (dC (.int 0)) (dCons (dC (.int 1)) dNil))) (gTp 2 (gsCons (gNm 2) (gsCons (gNm 3) gsNil)))) (dSeq (dWhile (dOr (dTst (dOp rGt (dVar 0) (dC (.int 0)))) (dTst (dOp rGt (dVar 1) (dC (.int 0))))) (dSeq (dSet 2 (dOp rAdd (dVar 2) (dOp rMul (dVar 3) (dCall spInt (dCons (dOp rNe (dOp rMod (dCall spInt (dCons (dVar 0) dNil)) (dC (.int 2))) (dOp rMod (dCall spInt (dCons (dVar 1) dNil)) (dC (.int 2)))) dNil))))) (dPar3 0 1 3 (dCons (dOp rFdiv (dVar 0) (dC (.int 2))) (dCons (dOp rFdiv (dVar 1) (dC (.int 2))) (dCons (dOp rMul (dC (.int 2)) (dVar 3)) dNil)))))) (dRet (dVar 2))))

theorem k__law_word : Keeps 2 6 t__law_word sp__law_word := by
  intro ds S k x hl cS cd h
  obtain ⟨n, a, b, most, rfl, hm, hd, hb, h⟩ := h
  show t__law_word (endsD S.length k x) [some (.ref n), some (.int most), none, none, none, none] S
  have hlt := get_lt hd
  simp only [t__law_word]
  walk_at "dx"
  refine ⟨n, a, b, most + 1, rfl, by omega, by omega, hd, hb, fun wide a1 b1 hw hb1 => ?_⟩
  walk_at "dx"
  refine ⟨by omega, by omega, ?_⟩
  refine wFor_rng wide (fun i sg S' => ∃ (a b f : Nat) (t : Option D), sg = [some (.ref n), some (.int most), some (.int wide), some (.int f), some (.int ((2 ^ i : Nat) : Int)), t] ∧ S' = S.set n (deckO a b) ∧ b < 2 ^ 64 ∧ f < 2 ^ i)
    ⟨a1, b1, 0, none, rfl, rfl, hb1, by decide⟩ ?_ ?_
  · rintro sg S' ⟨a2, b2, f, t, rfl, rfl, hb2, hf⟩
    refine ⟨trivial, ?_⟩
    walk_at "dx"
    refine ⟨by decide, take_set hd (many := 5) (by decide) (by decide) hb2 fun r a3 b3 hr hb3 => ?_⟩
    have hp : 2 ^ wide ≤ 2 ^ 1000 := Nat.pow_le_pow_right (by decide) (by omega)
    have hpm : 2 ^ wide ≤ 2 ^ most := Nat.pow_le_pow_right (by decide) (by omega)
    have hpos : 0 < 2 ^ wide := Nat.two_pow_pos _
    have big : ∀ w : Nat, w ≤ 2 ^ wide + 1 → wk S.length k (.int (w : Int)) (S.set n (deckO a3 b3) ++ [.lst [.int (f : Int), .int (f : Int), .int ((2 ^ wide : Nat) : Int), .int (((2 ^ wide : Nat) : Int) - 1), .int (((2 ^ wide : Nat) : Int) + 1)]]) := fun w hw =>
      wk_drop (by simp) (clS_set cS (cl_deck _ _ _)) trivial (h w a3 b3 (by omega) hb3)
    walk_at "dx"
    obtain ⟨d, hd1, hd2⟩ := atI_in [D.int (f : Int), .int (f : Int), .int ((2 ^ wide : Nat) : Int), .int (((2 ^ wide : Nat) : Int) - 1), .int (((2 ^ wide : Nat) : Int) + 1)] r hr
    refine ⟨_, lget_end (by simp), d, hd1, ?_⟩
    simp only [List.mem_cons, List.not_mem_nil, or_false] at hd2
    have e1 : ((2 ^ wide : Nat) : Int) - 1 = ((2 ^ wide - 1 : Nat) : Int) := by omega
    have e2 : ((2 ^ wide : Nat) : Int) + 1 = ((2 ^ wide + 1 : Nat) : Int) := by omega
    rcases hd2 with rfl | rfl | rfl | rfl | rfl
    · exact big f (by omega)
    · exact big f (by omega)
    · exact big _ (by omega)
    · have q := big (2 ^ wide - 1) (by omega)
      rw [← e1] at q
      exact q
    · have q := big (2 ^ wide + 1) (by omega)
      rw [← e2] at q
      exact q
  · rintro i sg S' nx hi ⟨a2, b2, f, t, rfl, rfl, hb2, hf⟩ hnx
    refine ⟨trivial, ?_⟩
    walk_at "dx"
    refine take_set0 hd (many := 2) (by decide) (by decide) hb2 fun r a3 b3 hr hb3 => ?_
    walk_at "dx"
    have hi2 : 2 ^ i ≤ 2 ^ 1000 := Nat.pow_le_pow_right (by decide) (by omega)
    refine ⟨.inl (.inr ⟨by omega, by omega⟩), .inl (.inl ⟨by decide, by decide⟩), hnx _ _ ⟨a3, b3, f + 2 ^ i * r, some (.int (0 + (i : Int))), ?_, rfl, hb3, ?_⟩⟩
    · have e1 : (f : Int) + ((2 ^ i : Nat) : Int) * (r : Int) = ((f + 2 ^ i * r : Nat) : Int) := by push_cast; rfl
      have e2 : (2 : Int) * ((2 ^ i : Nat) : Int) = ((2 ^ (i + 1) : Nat) : Int) := by rw [Nat.pow_succ]; push_cast; omega
      rw [e1, e2]
    · rw [Nat.pow_succ]
      have : r = 0 ∨ r = 1 := by omega
      rcases this with rfl | rfl <;> omega
theorem xor_step (a b : Nat) : a ^^^ b = 2 * ((a / 2) ^^^ (b / 2)) + (if a % 2 = b % 2 then 0 else 1) := by
  have c := Nat.xor_div_two (a := a) (b := b)
  have f := @Nat.xor_mod_two_eq_one a b
  split <;> omega
theorem k__law_sum : Keeps 2 4 t__law_sum sp__law_sum := by
  intro ds S k x hl cS cd h
  obtain ⟨a, b, rfl, ha, hb, h⟩ := h
  show t__law_sum (endsD S.length k x) [some (.int a), some (.int b), none, none] S
  simp only [t__law_sum]
  walk_at "dx"
  refine ⟨by decide, dWhile_by (fun m sg S' => ∃ (p q f i : Nat), sg = [some (.int p), some (.int q), some (.int f), some (.int ((2 ^ i : Nat) : Int))] ∧ S' = S ∧ m = p + q ∧ f + 2 ^ i * (p ^^^ q) = a ^^^ b) (a + b) ⟨a, b, 0, 0, rfl, rfl, rfl, by omega⟩ ?_⟩
  rintro m sg S' nx ⟨p, q, f, i, rfl, rfl, rfl, hf⟩ hnx
  walk_at "dx"
  have mo : MulOk ((2 ^ i : Nat) : Int) (if ¬ (p : Int) % 2 = (q : Int) % 2 then 1 else 0) := by
    refine .inl (.inr ?_)
    split <;> exact ⟨by decide, by decide⟩
  have mo2 : MulOk 2 ((2 ^ i : Nat) : Int) := .inl (.inl ⟨by decide, by decide⟩)
  have d2 : ∀ z : Nat, CDivW (z : Int) 2 := fun z => ⟨by decide, by decide⟩
  have step : 0 < p + q → nx [some (D.int ((p : Int) / 2)), some (D.int ((q : Int) / 2)), some (D.int ((f : Int) + ((2 ^ i : Nat) : Int) * if ¬(p : Int) % 2 = (q : Int) % 2 then 1 else 0)), some (D.int (2 * ((2 ^ i : Nat) : Int)))] S' := by
    intro h0
    refine hnx (p / 2 + q / 2) _ _ (by omega) ⟨p / 2, q / 2, f + 2 ^ i * (if p % 2 = q % 2 then 0 else 1), i + 1, ?_, rfl, rfl, ?_⟩
    · have e2 : (2 : Int) * ((2 ^ i : Nat) : Int) = ((2 ^ (i + 1) : Nat) : Int) := by rw [Nat.pow_succ]; push_cast; omega
      have e1 : (f : Int) + ((2 ^ i : Nat) : Int) * (if ¬(p : Int) % 2 = (q : Int) % 2 then 1 else 0) = ((f + 2 ^ i * (if p % 2 = q % 2 then 0 else 1) : Nat) : Int) := by
        by_cases hh : p % 2 = q % 2
        · rw [if_pos hh, if_neg (by omega)]; simp
        · rw [if_neg hh, if_pos (by omega)]; push_cast; omega
      rw [e1, e2]
      rfl
    · rw [← hf, xor_step p q, Nat.pow_succ, Nat.mul_add, Nat.add_assoc, Nat.mul_assoc]
      congr 1
      omega
  refine ⟨fun h0 => ⟨by decide, by decide, mo, d2 p, d2 q, mo2, step (by omega)⟩, fun h0 => ⟨fun h1 => ⟨by decide, by decide, mo, d2 p, d2 q, mo2, step (by omega)⟩, fun h1 => ?_⟩⟩
  have hp : p = 0 := by omega
  have hq : q = 0 := by omega
  subst hp hq
  have : f = a ^^^ b := by simpa using hf
  subst this
  exact wk_now h
theorem word_set {S G : Sto} {n a b most : Nat} {o : O} {k : KD} {x : XD} (hd : S[n]? = some o) (hm : most ≤ 1000) (hb : b < 2 ^ 64) (h : ∀ w a' b' : Nat, w ≤ 2 ^ most + 1 → b' < 2 ^ 64 → k (.int w) (S.set n (deckO a' b') ++ G)) :
    sp__law_word [.ref n, .int most] (S.set n (deckO a b) ++ G) k x := by
  have hl : n < (S.set n (deckO a b)).length := by rw [List.length_set]; exact get_lt hd
  refine ⟨n, a, b, most, rfl, hm, get_app (get_set_self hd), hb, fun r a' b' hr hb' => ?_⟩
  rw [set_app hl, List.set_set]
  exact h r a' b' hr hb'
end Q
open Q
local macro_rules | `(tactic| walk_at "dx") => `(tactic| try simp only [dSeq, dDrop, kDrop, dRet, dRetN, dIf, kIf, dNever, dNext, dBreak, dCont, dSet, kSet, dPar, kPar, dPar3, kPar3, dAug, kAug, dAsg, kAsg, gNm, gsNil, gsCons, gTp, gUl, gSb, kGs1, kGs2, rSet, dFor, kFor, dLc, dYes, wipeD, dRaise, kRaise, dTry, wTry, clrM, clrD, putD', dXv, kXv,
  dC, dVar, dUn, dOp, kOp1, kOp2, dTst, kB, dAnd, kAnd, dOr, kOr, dNot, kNot, dAndV, kAndV, dOrV, kOrV, dNotV, kNotV, dIfE, kIfE, dNil, dCons, kCons1, kCons2, dTup, kTup, dLst, kLst, dCall, kCall, spN, dCallK, kCK1, kCK2, pick, dMet, kM1, kM2, isLst, rApp, dSl, kSl1, kSl2, kSl3, rSl, dNoP, dPart, kPart,
  rAdd, rSub, rMul, rMulT, rMulN, rInP, rFdiv, rMod, rPow, rShl, rShr, rAnd, rXor, rNeg, rEq, rNe, rLt, rLe, rGt, rGe, rIs, rIsNot, isNon, rIx, rIsi, rIsi2, isTy, spLen, spInt, spTuple, spAll, spAny, spMax, spMin, spAbs, spList, rIn, rNotIn, rIns, dRevL, kRev, dBack, kBack, dLc2, iEn, kEn, dSrtSet, kSrtSet, dChain, kCh1, kCh2, kCh3, iZp, kZp, dLenNew, dLenSet, kLenSet, kLenNew, dDicE, dDisp, isDic, rDset, dDget, kDg1, kDg2, dDget2, kDh1, kDh2, kDh3, rDget, gDb, kGd1, kGd2, dStp, kSt0, kSt1, kSt2, spSumB, rDin, dBits, kBits, rDnin, spLenD, dAugS, kAs1, kAs2, kAs3, kAs4, rRem, rIdx, spStr, dJoin, kJoin1, kJoin2, rPop1, rPop0, rRev, dDc, dTupRg, kTupRg, dLstRg, kLstRg, iSq, iRg1, kRg1, iRg2, kRg2, rIAdd, endsD,
  isL_iff, atI0, atI1, atI2, get_at0, get_at, List.set_set, List.length_set, lget_at0, lget_at, lget_hd, lget_tl, set_at0, set_at, app1, List.nil_append, List.cons_append, List.length_cons, List.length_nil, List.length_append,
  List.getElem?_cons_zero, List.getElem?_cons_succ, List.set_cons_zero, List.set_cons_succ, List.getElem?_nil, List.filterMap_cons, List.filterMap_nil, List.append_nil,
  Option.some.injEq, O.lst.injEq, exists_eq_left', exists_eq_left, exists_eq', List.cons.injEq, D.int.injEq, D.bl.injEq, D.tup.injEq, D.ref.injEq, D.str.injEq, Int.natCast_inj, true_and, and_true, and_self, Nat.reduceAdd, Nat.zero_add, Bool.not_true, Bool.not_false, reduceCtorEq, forall_const, imp_self, not_true_eq_false, not_false_eq_true, false_implies, true_implies, implies_true, Bool.true_eq_false, Bool.false_eq_true, Bool.true_or, Bool.or_true, Bool.false_or, Bool.or_false, Bool.and_true, Bool.true_and, decide_eq_true_eq, decide_eq_false_iff_not, Bool.not_eq_true', Bool.not_eq_false', decide_true, decide_false, or_false, false_or, exists_false, exists_and_left, and_assoc])
local macro_rules | `(tactic| walk_at "dz") => `(tactic| try simp only [dDrop, kDrop, dRet, dRetN, dIf, kIf, dNever, dNext, dBreak, dCont, dSet, kSet, dPar, kPar, dPar3, kPar3, dAug, kAug, dAsg, kAsg, gNm, gsNil, gsCons, gTp, gUl, gSb, kGs1, kGs2, rSet, dFor, kFor, dLc, dYes, wipeD, dRaise, kRaise, dTry, wTry, clrM, clrD, putD', dXv, kXv,
  dC, dVar, dUn, dOp, kOp1, kOp2, dTst, kB, dAnd, kAnd, dOr, kOr, dNot, kNot, dAndV, kAndV, dOrV, kOrV, dNotV, kNotV, dIfE, kIfE, dNil, dCons, kCons1, kCons2, dTup, kTup, dLst, kLst, dCall, kCall, spN, dCallK, kCK1, kCK2, pick, dMet, kM1, kM2, isLst, rApp, dSl, kSl1, kSl2, kSl3, rSl, dNoP, dPart, kPart,
  rAdd, rSub, rMul, rMulT, rMulN, rInP, rFdiv, rMod, rPow, rShl, rShr, rAnd, rXor, rNeg, rEq, rNe, rLt, rLe, rGt, rGe, rIs, rIsNot, isNon, rIx, rIsi, rIsi2, isTy, spLen, spInt, spTuple, spAll, spAny, spMax, spMin, spAbs, spList, rIn, rNotIn, rIns, dRevL, kRev, dBack, kBack, dLc2, iEn, kEn, dSrtSet, kSrtSet, dChain, kCh1, kCh2, kCh3, iZp, kZp, dLenNew, dLenSet, kLenSet, kLenNew, dDicE, dDisp, isDic, rDset, dDget, kDg1, kDg2, dDget2, kDh1, kDh2, kDh3, rDget, gDb, kGd1, kGd2, dStp, kSt0, kSt1, kSt2, spSumB, rDin, dBits, kBits, rDnin, spLenD, dAugS, kAs1, kAs2, kAs3, kAs4, rRem, rIdx, spStr, dJoin, kJoin1, kJoin2, rPop1, rPop0, rRev, dDc, dTupRg, kTupRg, dLstRg, kLstRg, iSq, iRg1, kRg1, iRg2, kRg2, rIAdd, endsD,
  isL_iff, atI0, atI1, atI2, get_at0, get_at, List.set_set, List.length_set, lget_at0, lget_at, lget_hd, lget_tl, set_at0, set_at, app1, List.nil_append, List.cons_append, List.length_cons, List.length_nil, List.length_append,
  List.getElem?_cons_zero, List.getElem?_cons_succ, List.set_cons_zero, List.set_cons_succ, List.getElem?_nil, List.filterMap_cons, List.filterMap_nil, List.append_nil,
  Option.some.injEq, O.lst.injEq, exists_eq_left', exists_eq_left, exists_eq', List.cons.injEq, D.int.injEq, D.bl.injEq, D.tup.injEq, D.ref.injEq, D.str.injEq, Int.natCast_inj, true_and, and_true, and_self, Nat.reduceAdd, Nat.zero_add, Bool.not_true, Bool.not_false, reduceCtorEq, forall_const, imp_self, not_true_eq_false, not_false_eq_true, false_implies, true_implies, implies_true, Bool.true_eq_false, Bool.false_eq_true, Bool.true_or, Bool.or_true, Bool.false_or, Bool.or_false, Bool.and_true, Bool.true_and, decide_eq_true_eq, decide_eq_false_iff_not, Bool.not_eq_true', Bool.not_eq_false', decide_true, decide_false, or_false, false_or, exists_false, exists_and_left, and_assoc])
namespace Q
open PySem
open Spec PyProof.Rows L2
/-! ### law k06: what is due of a book's keys and cells -/
def sp__law_keys : SpD := fun ds S k _ => ∃ (m c : Nat) (rows : List (List Nat)), ds = [bookD m rows, .int c] ∧ rows.length ≤ 1000000 ∧ k (.tup (natsD (keysN rows c))) S
def sp__law_cells_of : SpD := fun ds S k _ => ∃ (m : Nat) (rows : List (List Nat)) (l : List Nat), ds = [bookD m rows, .tup (natsD l)] ∧ m ≤ 1000 ∧ l.length ≤ 1000 ∧ LotOk rows l ∧ k (.tup (natsD (cellsN m rows l))) S
/-- _law_keys(page, cell); slots: 0 page, 1 cell, 2 key -/
def t__law_keys : TSD := (dRet (dCall spTuple (dCons (dLc (iRg1 (dCons (dCall spLen (dCons (dOp rIx (dVar 0) (dC (.int 1))) dNil)) dNil)) (gNm 2) (dTst (dOp rIn (dVar 1) (dOp rIx (dOp rIx (dVar 0) (dC (.int 1))) (dVar 2)))) (dVar 2) [2]) dNil)))
/-- _law_cells_of(page, lot); slots: 0 page, 1 lot, 2 found, 3 cell, 4 key -/
def t__law_cells_of : TSD := (dSeq (dSet 2 (dLst dNil)) (dSeq (dFor (iRg1 (dCons (dOp rIx (dVar 0) (dC (.int 0))) dNil)) (gNm 3) (dIf (dTst (dOp rNe (dLc (iSq (dVar 1)) (gNm 4) (dTst (dOp rIn (dVar 3) (dOp rIx (dOp rIx (dVar 0) (dC (.int 1))) (dVar 4)))) (dVar 4) [4]) (dLst dNil))) (dDrop (dMet rApp (dVar 2) (dCons (dVar 3) dNil))) dNext)) (dRet (dCall spTuple (dCons (dVar 2) dNil)))))

theorem item_rng {n : Nat} {d : D} (hd : d ∈ (List.range ((n : Nat) : Int).toNat).map (fun i : Nat => D.int (0 + (i : Int)))) : ∃ j : Nat, j < n ∧ d = .int (j : Int) := by
  obtain ⟨j, hj, e⟩ := List.mem_map.mp hd
  have := List.mem_range.mp hj
  exact ⟨j, by omega, by rw [← e]; simp⟩
theorem rng_nats (n : Nat) : (List.range ((n : Nat) : Int).toNat).map (fun i : Nat => D.int (0 + (i : Int))) = natsD (List.range n) := by
  rw [Int.toNat_natCast]
  refine List.map_congr_left fun i _ => ?_
  rw [Int.zero_add]
theorem k__law_keys : Keeps 2 3 t__law_keys sp__law_keys := by
  intro ds S k x hl cS cd h
  obtain ⟨m, c, rows, rfl, hz, h⟩ := h
  show t__law_keys (endsD S.length k x) [some (bookD m rows), some (.int c), none] S
  simp only [t__law_keys, bookD]
  walk_at "dx"
  rw [List.length_map, rng_nats]
  refine ⟨by omega, by omega, lc_filter (fun d => decide (c ∈ rows.getD (intD d).toNat [])) id (fun d hd acc kk hk => ?_) (fun d hd _ acc kk hk => ?_) (fun _ => trivial) (by rw [List.length_map, List.length_range]; exact sl_ok _ hz) ?_⟩
  · obtain ⟨j, hj, rfl⟩ := List.mem_map.mp hd
    have hj := List.mem_range.mp hj
    walk_at "dx"
    refine ⟨_, atI_nat (getD_row hj), ?_⟩
    simp only [rowD]
    rw [inF_nats]
    exact ⟨rfl, flat_nats _, hk⟩
  · walk_at "dx"
    exact hk
  · walk_at "dx"
    have e : ((natsD (List.range rows.length)).filter fun d => decide (c ∈ rows.getD (intD d).toNat [])).map id = natsD (keysN rows c) := by
      unfold natsD keysN
      rw [List.map_id, List.filter_map]
      rfl
    rw [e]
    exact wk_drop rfl cS (cl_cells _ _) h
theorem k__law_cells_of : Keeps 2 5 t__law_cells_of sp__law_cells_of := by
  intro ds S k x hl cS cd h
  obtain ⟨m, rows, l, rfl, hm, hll, hL, h⟩ := h
  show t__law_cells_of (endsD S.length k x) [some (bookD m rows), some (.tup (natsD l)), none, none, none] S
  simp only [t__law_cells_of, bookD]
  refine dSeq_go ?_
  walk_at "dz"
  refine ⟨Nat.zero_le _, ?_⟩
  refine dSeq_cut (fun sg S' => ∃ (G : Sto) (d3 d4 : Option D), sg = [some (bookD m rows), some (.tup (natsD l)), some (.ref S.length), d3, d4] ∧ S' = S ++ .lst (natsD (cellsN m rows l)) :: G) (fun nx hnx => ?_) ?_
  · walk_at "dz"
    refine ⟨by omega, by omega, wFor_rng _ (fun i sg S' => ∃ (G : Sto) (d3 d4 : Option D), sg = [some (bookD m rows), some (.tup (natsD l)), some (.ref S.length), d3, d4] ∧ S' = S ++ .lst (natsD (cellsN i rows l)) :: G) ⟨[], none, none, rfl, rfl⟩ ?_ ?_⟩
    · rintro sg S' ⟨G, d3, d4, rfl, rfl⟩
      exact ⟨trivial, hnx _ _ ⟨G, d3, d4, rfl, rfl⟩⟩
    · rintro i sg S' nx2 hi ⟨G, d3, d4, rfl, rfl⟩ hnx2
      have e0 : (0 : Int) + (i : Int) = (i : Int) := by omega
      rw [e0]
      refine ⟨trivial, ?_⟩
      simp only [bookD]
      walk_at "dz"
      refine lc_filter (fun d => decide (i ∈ rows.getD (intD d).toNat [])) id (fun d hd acc kk hk => ?_) (fun d hd _ acc kk hk => ?_) (fun _ => trivial) (by rw [List.length_map]; exact sl_ok _ (by omega)) ?_
      · obtain ⟨j, hj, rfl⟩ := List.mem_map.mp hd
        walk_at "dz"
        refine ⟨_, atI_nat (getD_row (hL.2 j hj)), ?_⟩
        simp only [rowD]
        rw [inF_nats]
        rw [List.append_assoc, List.cons_append] at hk
        exact ⟨rfl, flat_nats _, hk⟩
      · walk_at "dz"
        rw [List.append_assoc, List.cons_append] at hk
        exact hk
      · have e : ((natsD l).filter fun d => decide (i ∈ rows.getD (intD d).toNat [])).map id = natsD (l.filter fun j => decide (i ∈ rows.getD j [])) := by
          unfold natsD
          rw [List.map_id, List.filter_map]
          rfl
        rw [e]
        walk_at "dz"
        refine ⟨Nat.zero_le _, eqG_lst (xs := natsD (l.filter fun j => decide (i ∈ rows.getD j []))) 0 0 (lget_k (G.length + 1) (by simp) (lget_tl.trans (lget_end rfl))) (lget_k (G.length + 2) (by simp) (lget_tl.trans (lget_k (A := G) 1 rfl rfl))) (ys := []) (pds_nats 0 _) rfl ?_⟩
        rw [eqDs_nil, List.isEmpty_map]
        have hsu := cellsN_succ i rows l
        have hcl : (natsD (cellsN i rows l)).length < sizeLine := by
          have := cellsN_len i rows l
          rw [List.length_map, sl16]
          omega
        generalize (l.filter fun j => decide (i ∈ rows.getD j [])).isEmpty = em at hsu ⊢
        cases em with
        | true =>
          rw [if_pos rfl, List.append_nil] at hsu
          refine ⟨fun z => (nomatch z), fun _ => hnx2 _ _ ⟨_, _, _, rfl, by rw [hsu]⟩⟩
        | false =>
          rw [if_neg Bool.false_ne_true] at hsu
          refine ⟨fun _ => ?_, fun z => (nomatch z)⟩
          walk_at "dz"
          have e3 : natsD (cellsN i rows l) ++ [D.int (i : Int)] = natsD (cellsN (i + 1) rows l) := by
            rw [hsu, natsD_app]
            rfl
          rw [e3]
          exact ⟨hcl, hnx2 _ _ ⟨_, _, _, rfl, rfl⟩⟩
  · rintro sg S' ⟨G, d3, d4, rfl, rfl⟩
    walk_at "dz"
    exact wk_drop rfl cS (cl_cells _ _) h
end Q
open Q
local macro_rules | `(tactic| walk_at "dx") => `(tactic| try simp only [dSeq, dDrop, kDrop, dRet, dRetN, dIf, kIf, dNever, dNext, dBreak, dCont, dSet, kSet, dPar, kPar, dPar3, kPar3, dAug, kAug, dAsg, kAsg, gNm, gsNil, gsCons, gTp, gUl, gSb, kGs1, kGs2, rSet, dFor, kFor, dLc, dYes, wipeD, dRaise, kRaise, dTry, wTry, clrM, clrD, putD', dXv, kXv,
  dC, dVar, dUn, dOp, kOp1, kOp2, dTst, kB, dAnd, kAnd, dOr, kOr, dNot, kNot, dAndV, kAndV, dOrV, kOrV, dNotV, kNotV, dIfE, kIfE, dNil, dCons, kCons1, kCons2, dTup, kTup, dLst, kLst, dCall, kCall, spN, dCallK, kCK1, kCK2, pick, dMet, kM1, kM2, isLst, rApp, dSl, kSl1, kSl2, kSl3, rSl, dNoP, dPart, kPart,
  rAdd, rSub, rMul, rMulT, rMulN, rInP, rFdiv, rMod, rPow, rShl, rShr, rAnd, rXor, rNeg, rEq, rNe, rLt, rLe, rGt, rGe, rIs, rIsNot, isNon, rIx, rIsi, rIsi2, isTy, spLen, spInt, spTuple, spAll, spAny, spMax, spMin, spAbs, spList, rIn, rNotIn, rIns, dRevL, kRev, dBack, kBack, dLc2, iEn, kEn, dSrtSet, kSrtSet, dChain, kCh1, kCh2, kCh3, iZp, kZp, dLenNew, dLenSet, kLenSet, kLenNew, dDicE, dDisp, isDic, rDset, dDget, kDg1, kDg2, dDget2, kDh1, kDh2, kDh3, rDget, gDb, kGd1, kGd2, dStp, kSt0, kSt1, kSt2, spSumB, rDin, dBits, kBits, rDnin, spLenD, dAugS, kAs1, kAs2, kAs3, kAs4, rRem, rIdx, spStr, dJoin, kJoin1, kJoin2, rPop1, rPop0, rRev, dDc, dTupRg, kTupRg, dLstRg, kLstRg, iSq, iRg1, kRg1, iRg2, kRg2, rIAdd, endsD,
  isL_iff, atI0, atI1, atI2, get_at0, get_at, List.set_set, List.length_set, lget_at0, lget_at, lget_hd, lget_tl, set_at0, set_at, app1, List.nil_append, List.cons_append, List.length_cons, List.length_nil, List.length_append,
  List.getElem?_cons_zero, List.getElem?_cons_succ, List.set_cons_zero, List.set_cons_succ, List.getElem?_nil, List.filterMap_cons, List.filterMap_nil, List.append_nil,
  Option.some.injEq, O.lst.injEq, exists_eq_left', exists_eq_left, exists_eq', List.cons.injEq, D.int.injEq, D.bl.injEq, D.tup.injEq, D.ref.injEq, D.str.injEq, Int.natCast_inj, true_and, and_true, and_self, Nat.reduceAdd, Nat.zero_add, Bool.not_true, Bool.not_false, reduceCtorEq, forall_const, imp_self, not_true_eq_false, not_false_eq_true, false_implies, true_implies, implies_true, Bool.true_eq_false, Bool.false_eq_true, Bool.true_or, Bool.or_true, Bool.false_or, Bool.or_false, Bool.and_true, Bool.true_and, decide_eq_true_eq, decide_eq_false_iff_not, Bool.not_eq_true', Bool.not_eq_false', decide_true, decide_false, or_false, false_or, exists_false, exists_and_left, and_assoc])
local macro_rules | `(tactic| walk_at "dz") => `(tactic| try simp only [dDrop, kDrop, dRet, dRetN, dIf, kIf, dNever, dNext, dBreak, dCont, dSet, kSet, dPar, kPar, dPar3, kPar3, dAug, kAug, dAsg, kAsg, gNm, gsNil, gsCons, gTp, gUl, gSb, kGs1, kGs2, rSet, dFor, kFor, dLc, dYes, wipeD, dRaise, kRaise, dTry, wTry, clrM, clrD, putD', dXv, kXv,
  dC, dVar, dUn, dOp, kOp1, kOp2, dTst, kB, dAnd, kAnd, dOr, kOr, dNot, kNot, dAndV, kAndV, dOrV, kOrV, dNotV, kNotV, dIfE, kIfE, dNil, dCons, kCons1, kCons2, dTup, kTup, dLst, kLst, dCall, kCall, spN, dCallK, kCK1, kCK2, pick, dMet, kM1, kM2, isLst, rApp, dSl, kSl1, kSl2, kSl3, rSl, dNoP, dPart, kPart,
  rAdd, rSub, rMul, rMulT, rMulN, rInP, rFdiv, rMod, rPow, rShl, rShr, rAnd, rXor, rNeg, rEq, rNe, rLt, rLe, rGt, rGe, rIs, rIsNot, isNon, rIx, rIsi, rIsi2, isTy, spLen, spInt, spTuple, spAll, spAny, spMax, spMin, spAbs, spList, rIn, rNotIn, rIns, dRevL, kRev, dBack, kBack, dLc2, iEn, kEn, dSrtSet, kSrtSet, dChain, kCh1, kCh2, kCh3, iZp, kZp, dLenNew, dLenSet, kLenSet, kLenNew, dDicE, dDisp, isDic, rDset, dDget, kDg1, kDg2, dDget2, kDh1, kDh2, kDh3, rDget, gDb, kGd1, kGd2, dStp, kSt0, kSt1, kSt2, spSumB, rDin, dBits, kBits, rDnin, spLenD, dAugS, kAs1, kAs2, kAs3, kAs4, rRem, rIdx, spStr, dJoin, kJoin1, kJoin2, rPop1, rPop0, rRev, dDc, dTupRg, kTupRg, dLstRg, kLstRg, iSq, iRg1, kRg1, iRg2, kRg2, rIAdd, endsD,
  isL_iff, atI0, atI1, atI2, get_at0, get_at, List.set_set, List.length_set, lget_at0, lget_at, lget_hd, lget_tl, set_at0, set_at, app1, List.nil_append, List.cons_append, List.length_cons, List.length_nil, List.length_append,
  List.getElem?_cons_zero, List.getElem?_cons_succ, List.set_cons_zero, List.set_cons_succ, List.getElem?_nil, List.filterMap_cons, List.filterMap_nil, List.append_nil,
  Option.some.injEq, O.lst.injEq, exists_eq_left', exists_eq_left, exists_eq', List.cons.injEq, D.int.injEq, D.bl.injEq, D.tup.injEq, D.ref.injEq, D.str.injEq, Int.natCast_inj, true_and, and_true, and_self, Nat.reduceAdd, Nat.zero_add, Bool.not_true, Bool.not_false, reduceCtorEq, forall_const, imp_self, not_true_eq_false, not_false_eq_true, false_implies, true_implies, implies_true, Bool.true_eq_false, Bool.false_eq_true, Bool.true_or, Bool.or_true, Bool.false_or, Bool.or_false, Bool.and_true, Bool.true_and, decide_eq_true_eq, decide_eq_false_iff_not, Bool.not_eq_true', Bool.not_eq_false', decide_true, decide_false, or_false, false_or, exists_false, exists_and_left, and_assoc])
namespace Q
open PySem
open Spec PyProof.Rows L2
/-! ### law k06: a house, what is asked of it -/
structure Hs where
  m : Nat
  rows : List (List Nat)
  a : Nat
  b : Nat
  row : List Nat
  key : Nat
  cell : Nat
  lot : List Nat
  wide : Nat
def Hs.kv (h : Hs) : List (Key × D) := [(.inr ("page" : Str), bookD h.m h.rows), (.inr ("first" : Str), .int h.a), (.inr ("second" : Str), .int h.b), (.inr ("row" : Str), rowD h.row), (.inr ("key" : Str), .int h.key), (.inr ("cell" : Str), .int h.cell), (.inr ("lot" : Str), .tup (natsD h.lot)), (.inr ("wide" : Str), .int h.wide)]
structure Hs.Ok (h : Hs) : Prop where
  book : BookOk h.m h.rows
  ne : 0 < h.rows.length
  hm : h.m ≤ 10
  hr : h.rows.length ≤ 11
  ha : h.a ≤ 2 ^ 60 + 1
  hb : h.b ≤ 2 ^ 60 + 1
  row : RowOk h.m h.row
  key : h.key < h.rows.length
  cell : h.cell < h.m
  lot : LotOk h.rows h.lot
  w1 : 1 ≤ h.wide
  w2 : h.wide ≤ 60
def Hs.ansA (h : Hs) : D := .int (h.a ^^^ h.b : Nat)
inductive Hs.Ans (h : Hs) : Str → D → Prop
  | added : Hs.Ans h "added" (.int (h.a ^^^ h.b : Nat))
  | all : Hs.Ans h "all" (.int h.a)
  | bits : Hs.Ans h "bits" (.tup (natsD (bitsN h.a)))
  | width : Hs.Ans h "width" (.int (widthN h.b))
  | word : Hs.Ans h "word" (.bl (decide (h.a < 2 ^ h.wide)))
  | made : Hs.Ans h "made" (bookD h.m h.rows.reverse)
  | wth : Hs.Ans h "with" (bookD h.m (h.rows ++ [h.row]))
  | without : Hs.Ans h "without" (bookD h.m (h.rows.take h.key ++ h.rows.drop (h.key + 1)))
  | part : Hs.Ans h "part" (bookD h.m (partR h.rows h.lot))
  | keys : Hs.Ans h "keys" (.tup (natsD (keysN h.rows h.cell)))
  | cells : Hs.Ans h "cells" (.tup (natsD (cellsN h.m h.rows h.lot)))
  | is_ : Hs.Ans h "is" (.bl true)
  | refused : Hs.Ans h "refused" (.str "refused")
def sp__law_house : SpD := fun ds S k _ => ∃ n a b : Nat, ds = [.ref n] ∧ S[n]? = some (deckO a b) ∧ b < 2 ^ 64 ∧ ∀ (h : Hs) (a' b' : Nat), h.Ok → k (.ref S.length) (S.set n (deckO a' b') ++ [.dic h.kv])
def sp__law_places : SpD := fun ds S k _ => ∃ n : Nat, ds = [.int n] ∧ n < 2 ^ 62 ∧ k (.tup (natsD (bitsN n))) S
def sp__law_due : SpD := fun ds S k _ => ∃ (n : Nat) (h : Hs) (w : Str), ds = [.ref n, .str w] ∧ S[n]? = some (.dic h.kv) ∧ h.Ok ∧ ∃ d, h.Ans w d ∧ k d S
def sp__law_told : SpD := fun ds S k _ => ∃ (n : Nat) (h : Hs) (w : Str), ds = [.ref n, .str w] ∧ S[n]? = some (.dic h.kv) ∧ h.Ok ∧ ∃ d, h.Ans w d ∧ k d S
def sp__law_added_all : SpD := fun ds S k _ => ∃ (n : Nat) (ws : List Nat), ds = [.ref n] ∧ S[n]? = some (.lst (natsD ws)) ∧ ws.length ≤ 1000 ∧ k (.int (xorA ws : Nat)) (S.set n (.lst ((natsD ws).reverse ++ [.int (-1)])))
def sp__law_made : SpD := fun ds S k _ => ∃ (m : Nat) (rows : List (List Nat)), ds = [bookD m rows] ∧ BookOk m rows ∧ m ≤ 63 ∧ rows.length ≤ 1000 ∧ k (bookD m rows.reverse) S
def sp__law_refused : SpD := fun ds S k _ => ∃ (n : Nat) (h : Hs), ds = [.ref n] ∧ S[n]? = some (.dic h.kv) ∧ h.Ok ∧ k (.str "refused") S
def sp_law : SpD := fun ds S k _ => ∃ (n : Nat) (ns : List Int), ds = [.ref n] ∧ S[n]? = some (.ro (ns.map D.int)) ∧ ns.length ≤ 63 ∧ k (.bl true) S
/-- _law_house(deck); slots: 0 deck, 1 page, 2 house -/
def t__law_house : TSD := (dSeq (dSet 1 (dCall (spN 2 sp__law_page) (dCons (dVar 0) (dCons (dC (.int 10)) dNil)))) (dSeq (dIf (dTst (dOp rEq (dOp rIx (dVar 1) (dC (.int 1))) (dTup dNil))) (dSet 1 (dTup (dCons (dOp rIx (dVar 1) (dC (.int 0))) (dCons (dTup (dCons (dTup (dCons (dC (.int 0)) dNil)) dNil)) dNil)))) dNext) (dSeq (dIf (dTst (dOp rEq (dCall (spN 2 sp__law_take) (dCons (dVar 0) (dCons (dC (.int 3)) dNil))) (dC (.int 0)))) (dSet 1 (dCall (spN 2 sp_part) (dCons (dCall (spN 2 sp_with_key) (dCons (dVar 1) (dCons (dLst (dCons (dC (.int 0)) dNil)) dNil))) (dCons (dOp rAdd (dCall (spN 2 sp__law_lot) (dCons (dVar 0) (dCons (dVar 1) dNil))) (dTup (dCons (dCall spLen (dCons (dOp rIx (dVar 1) (dC (.int 1))) dNil)) dNil))) dNil)))) dNext) (dSeq (dSet 2 (dDisp (dCons (dC (.str "page")) (dCons (dVar 1) (dCons (dC (.str "first")) (dCons (dCall (spN 2 sp__law_word) (dCons (dVar 0) (dCons (dC (.int 60)) dNil))) (dCons (dC (.str "second")) (dCons (dCall (spN 2 sp__law_word) (dCons (dVar 0) (dCons (dC (.int 60)) dNil))) dNil)))))))) (dSeq (dAsg (dCall (spN 2 sp__law_cells) (dCons (dVar 0) (dCons (dOp rIx (dVar 1) (dC (.int 0))) dNil))) (gDb (dVar 2) (dC (.str "row")))) (dSeq (dAsg (dTup (dCons (dCall (spN 2 sp__law_take) (dCons (dVar 0) (dCons (dCall spLen (dCons (dOp rIx (dVar 1) (dC (.int 1))) dNil)) dNil))) (dCons (dCall (spN 2 sp__law_take) (dCons (dVar 0) (dCons (dOp rIx (dVar 1) (dC (.int 0))) dNil))) dNil))) (gTp 2 (gsCons (gDb (dVar 2) (dC (.str "key"))) (gsCons (gDb (dVar 2) (dC (.str "cell"))) gsNil)))) (dSeq (dAsg (dTup (dCons (dCall (spN 2 sp__law_lot) (dCons (dVar 0) (dCons (dVar 1) dNil))) (dCons (dOp rAdd (dC (.int 1)) (dCall (spN 2 sp__law_take) (dCons (dVar 0) (dCons (dC (.int 60)) dNil)))) dNil))) (gTp 2 (gsCons (gDb (dVar 2) (dC (.str "lot"))) (gsCons (gDb (dVar 2) (dC (.str "wide"))) gsNil)))) (dRet (dVar 2)))))))))
/-- _law_places(word); slots: 0 word, 1 found, 2 at -/
def t__law_places : TSD := (dSeq (dSet 1 (dLst dNil)) (dSeq (dFor (iRg1 (dCons (dC (.int 62)) dNil)) (gNm 2) (dSeq (dIf (dTst (dOp rEq (dOp rMod (dCall spInt (dCons (dVar 0) dNil)) (dC (.int 2))) (dC (.int 1)))) (dDrop (dMet rApp (dVar 1) (dCons (dVar 2) dNil))) dNext) (dSet 0 (dOp rFdiv (dVar 0) (dC (.int 2)))))) (dRet (dCall spTuple (dCons (dVar 1) dNil)))))
/-- _law_due(house, word); slots: 0 house, 1 word, 2 many, 3 rows, 4 first, 5 second, 6 key, 7 lot, 8 at, 9 row, 10 other -/
def t__law_due : TSD := (dSeq (dAsg (dDget (dVar 0) (dC (.str "page"))) (gTp 2 (gsCons (gNm 2) (gsCons (gNm 3) gsNil)))) (dSeq (dAsg (dTup (dCons (dDget (dVar 0) (dC (.str "first"))) (dCons (dDget (dVar 0) (dC (.str "second"))) (dCons (dDget (dVar 0) (dC (.str "key"))) (dCons (dDget (dVar 0) (dC (.str "lot"))) dNil))))) (gTp 4 (gsCons (gNm 4) (gsCons (gNm 5) (gsCons (gNm 6) (gsCons (gNm 7) gsNil)))))) (dSeq (dIf (dTst (dOp rEq (dVar 1) (dC (.str "added")))) (dRet (dCall (spN 2 sp__law_sum) (dCons (dVar 4) (dCons (dVar 5) dNil)))) dNext) (dSeq (dIf (dTst (dOp rEq (dVar 1) (dC (.str "all")))) (dRet (dVar 4)) dNext) (dSeq (dIf (dTst (dOp rEq (dVar 1) (dC (.str "bits")))) (dRet (dCall (spN 1 sp__law_places) (dCons (dVar 4) dNil))) dNext) (dSeq (dIf (dTst (dOp rEq (dVar 1) (dC (.str "width")))) (dRet (dCall spMax (dCons (dOp rAdd (dOp rAdd (dLst (dCons (dC (.int 0)) dNil)) (dLc (iSq (dCall (spN 1 sp__law_places) (dCons (dVar 5) dNil))) (gNm 8) dYes (dOp rAdd (dVar 8) (dC (.int 1))) [8])) (dLst (dCons (dC (.int 1)) dNil))) dNil))) dNext) (dSeq (dIf (dTst (dOp rEq (dVar 1) (dC (.str "word")))) (dRet (dOp rEq (dCall spLen (dCons (dLc (iSq (dCall (spN 1 sp__law_places) (dCons (dVar 4) dNil))) (gNm 8) (dTst (dOp rGe (dVar 8) (dDget (dVar 0) (dC (.str "wide"))))) (dVar 8) [8]) dNil)) (dC (.int 0)))) dNext) (dSeq (dIf (dTst (dOp rEq (dVar 1) (dC (.str "made")))) (dRet (dTup (dCons (dVar 2) (dCons (dCall spTuple (dCons (dLc (iSq (dBack (dVar 3))) (gNm 9) dYes (dVar 9) [9]) dNil)) dNil)))) dNext) (dSeq (dIf (dTst (dOp rEq (dVar 1) (dC (.str "with")))) (dRet (dTup (dCons (dVar 2) (dCons (dOp rAdd (dVar 3) (dTup (dCons (dDget (dVar 0) (dC (.str "row"))) dNil))) dNil)))) dNext) (dSeq (dIf (dTst (dOp rEq (dVar 1) (dC (.str "without")))) (dRet (dTup (dCons (dVar 2) (dCons (dOp rAdd (dSl (dVar 3) dNoP (dPart (dVar 6))) (dSl (dVar 3) (dPart (dOp rAdd (dVar 6) (dC (.int 1)))) dNoP)) dNil)))) dNext) (dSeq (dIf (dTst (dOp rEq (dVar 1) (dC (.str "part")))) (dRet (dTup (dCons (dVar 2) (dCons (dCall spTuple (dCons (dLc (iSq (dVar 7)) (gNm 10) dYes (dOp rIx (dVar 3) (dVar 10)) [10]) dNil)) dNil)))) dNext) (dSeq (dIf (dTst (dOp rEq (dVar 1) (dC (.str "keys")))) (dRet (dCall (spN 2 sp__law_keys) (dCons (dDget (dVar 0) (dC (.str "page"))) (dCons (dDget (dVar 0) (dC (.str "cell"))) dNil)))) dNext) (dSeq (dIf (dTst (dOp rEq (dVar 1) (dC (.str "cells")))) (dRet (dCall (spN 2 sp__law_cells_of) (dCons (dDget (dVar 0) (dC (.str "page"))) (dCons (dVar 7) dNil)))) dNext) (dRet (dIfE (dTst (dOp rEq (dVar 1) (dC (.str "is")))) (dC (.bl true)) (dC (.str "refused")))))))))))))))))
/-- _law_added_all(words); slots: 0 words, 1 answer -/
def t__law_added_all : TSD := (dSeq (dSet 1 (dCall (spN 1 sp_added_all) (dCons (dVar 0) dNil))) (dSeq (dDrop (dMet rRev (dVar 0) dNil)) (dSeq (dDrop (dMet rApp (dVar 0) (dCons (dUn rNeg (dC (.int 1))) dNil))) (dRet (dVar 1)))))
/-- _law_made(page); slots: 0 page, 1 given, 2 row, 3 answer, 4 cells -/
def t__law_made : TSD := (dSeq (dSet 1 (dLc (iSq (dBack (dOp rIx (dVar 0) (dC (.int 1))))) (gNm 2) dYes (dCall spList (dCons (dVar 2) dNil)) [2])) (dSeq (dSet 3 (dCall (spN 2 sp_book) (dCons (dOp rIx (dVar 0) (dC (.int 0))) (dCons (dVar 1) dNil)))) (dSeq (dFor (iSq (dVar 1)) (gNm 4) (dDrop (dMet rApp (dVar 4) (dCons (dUn rNeg (dC (.int 1))) dNil)))) (dSeq (dDrop (dMet rApp (dVar 1) (dCons (dLst dNil) dNil))) (dRet (dVar 3))))))
/-- _law_refused(house); slots: 0 house, 1 answer -/
def t__law_refused : TSD := (dSeq (dSet 1 (dC (.str "let by"))) (dSeq (dTry (dIf (dTst (dOp rEq (dDget (dVar 0) (dC (.str "key"))) (dC (.int 0)))) (dDrop (dCall (spN 2 sp_with_key) (dCons (dDget (dVar 0) (dC (.str "page"))) (dCons (dLst dNil) dNil)))) (dIf (dTst (dOp rEq (dDget (dVar 0) (dC (.str "key"))) (dC (.int 1)))) (dDrop (dCall (spN 1 sp_added_all) (dCons (dLst (dCons (dC (.int 1)) (dCons (dUn rNeg (dC (.int 1))) dNil))) dNil))) (dIf (dTst (dOp rEq (dDget (dVar 0) (dC (.str "key"))) (dC (.int 2)))) (dDrop (dCall (spN 2 sp_book) (dCons (dOp rIx (dDget (dVar 0) (dC (.str "page"))) (dC (.int 0))) (dCons (dLst (dCons (dLst (dCons (dC (.int 0)) dNil)) (dCons (dLst (dCons (dOp rIx (dDget (dVar 0) (dC (.str "page"))) (dC (.int 0))) dNil)) dNil))) dNil)))) (dDrop (dCall (spN 2 sp_part) (dCons (dDget (dVar 0) (dC (.str "page"))) (dCons (dTup (dCons (dC (.int 1)) (dCons (dC (.int 0)) dNil))) dNil))))))) (⟨"TellError", none, (dSet 1 (dC (.str "refused")))⟩ :: [])) (dRet (dVar 1))))
/-- _law_told(house, word); slots: 0 house, 1 word, 2 page, 3 first, 4 second -/
def t__law_told : TSD := (dSeq (dPar3 2 3 4 (dCons (dDget (dVar 0) (dC (.str "page"))) (dCons (dDget (dVar 0) (dC (.str "first"))) (dCons (dDget (dVar 0) (dC (.str "second"))) dNil)))) (dSeq (dIf (dTst (dOp rEq (dVar 1) (dC (.str "added")))) (dRet (dCall (spN 2 sp_added) (dCons (dVar 3) (dCons (dVar 4) dNil)))) dNext) (dSeq (dIf (dTst (dOp rEq (dVar 1) (dC (.str "all")))) (dRet (dCall (spN 1 sp__law_added_all) (dCons (dLst (dCons (dVar 4) (dCons (dVar 3) (dCons (dVar 4) dNil)))) dNil))) dNext) (dSeq (dIf (dTst (dOp rEq (dVar 1) (dC (.str "bits")))) (dRet (dCall (spN 1 sp_bits) (dCons (dVar 3) dNil))) dNext) (dSeq (dIf (dTst (dOp rEq (dVar 1) (dC (.str "width")))) (dRet (dCall (spN 1 sp_width) (dCons (dVar 4) dNil))) dNext) (dSeq (dIf (dTst (dOp rEq (dVar 1) (dC (.str "word")))) (dRet (dCall (spN 2 sp_is_word) (dCons (dDget (dVar 0) (dC (.str "wide"))) (dCons (dVar 3) dNil)))) dNext) (dSeq (dIf (dTst (dOp rEq (dVar 1) (dC (.str "made")))) (dRet (dCall (spN 1 sp__law_made) (dCons (dVar 2) dNil))) dNext) (dSeq (dIf (dTst (dOp rEq (dVar 1) (dC (.str "with")))) (dRet (dCall (spN 2 sp_with_key) (dCons (dVar 2) (dCons (dOp rAdd (dCall spList (dCons (dDget (dVar 0) (dC (.str "row"))) dNil)) (dLst (dCons (dOp rIx (dDget (dVar 0) (dC (.str "row"))) (dC (.int 0))) dNil))) dNil)))) dNext) (dSeq (dIf (dTst (dOp rEq (dVar 1) (dC (.str "without")))) (dRet (dCall (spN 2 sp_without_key) (dCons (dVar 2) (dCons (dDget (dVar 0) (dC (.str "key"))) dNil)))) dNext) (dSeq (dIf (dTst (dOp rEq (dVar 1) (dC (.str "part")))) (dRet (dCall (spN 2 sp_part) (dCons (dVar 2) (dCons (dDget (dVar 0) (dC (.str "lot"))) dNil)))) dNext) (dSeq (dIf (dTst (dOp rEq (dVar 1) (dC (.str "keys")))) (dRet (dCall (spN 2 sp_keys_of) (dCons (dVar 2) (dCons (dDget (dVar 0) (dC (.str "cell"))) dNil)))) dNext) (dSeq (dIf (dTst (dOp rEq (dVar 1) (dC (.str "cells")))) (dRet (dCall (spN 2 sp_cells_of) (dCons (dVar 2) (dCons (dDget (dVar 0) (dC (.str "lot"))) dNil)))) dNext) (dRet (dIfE (dTst (dOp rEq (dVar 1) (dC (.str "is")))) (dCall (spN 1 sp_is_book) (dCons (dVar 2) dNil)) (dCall (spN 1 sp__law_refused) (dCons (dVar 0) dNil))))))))))))))))
/-- law(script); slots: 0 script, 1 houses, 2 asked, 3 words, 4 kept, 5 at, 6 deck, 7 turn, 8 where, 9 word -/
def t_law : TSD := (dSeq (dPar 1 2 (dCons (dLst (dCons (dCall (spN 1 sp__law_house) (dCons (dCall (spN 2 sp__law_deck) (dCons (dVar 0) (dCons (dC (.int 0)) dNil))) dNil)) (dCons (dCall (spN 1 sp__law_house) (dCons (dCall (spN 2 sp__law_deck) (dCons (dVar 0) (dCons (dC (.int 1)) dNil))) dNil)) dNil))) (dCons (dLst dNil) dNil))) (dSeq (dSet 3 (dLst (dCons (dC (.str "added")) (dCons (dC (.str "all")) (dCons (dC (.str "bits")) (dCons (dC (.str "width")) (dCons (dC (.str "word")) (dCons (dC (.str "made")) (dCons (dC (.str "with")) (dCons (dC (.str "without")) (dCons (dC (.str "part")) (dCons (dC (.str "keys")) (dCons (dC (.str "cells")) (dCons (dC (.str "is")) dNil)))))))))))))) (dSeq (dPar 3 4 (dCons (dOp rAdd (dVar 3) (dLst (dCons (dC (.str "refused")) dNil))) (dCons (dCall spReprD (dCons (dVar 1) dNil)) dNil))) (dSeq (dFor (iRg2 (dCons (dC (.int 2)) (dCons (dCall spMax (dCons (dC (.int 8)) (dCons (dCall spMin (dCons (dCall spLen (dCons (dVar 0) dNil)) (dCons (dC (.int 20)) dNil))) dNil))) dNil))) (gNm 5) (dSeq (dSet 6 (dCall (spN 2 sp__law_deck) (dCons (dVar 0) (dCons (dVar 5) dNil)))) (dFor (iRg1 (dCons (dC (.int 3)) dNil)) (gNm 7) (dSeq (dPar 8 9 (dCons (dCall (spN 2 sp__law_take) (dCons (dVar 6) (dCons (dC (.int 2)) dNil))) (dCons (dOp rIx (dVar 3) (dCall (spN 2 sp__law_take) (dCons (dVar 6) (dCons (dC (.int 13)) dNil)))) dNil))) (dSeq (dDrop (dMet rApp (dVar 2) (dCons (dTup (dCons (dVar 8) (dCons (dVar 9) dNil))) dNil))) (dIf (dNot (dTst (dCall (spN 2 sp__law_same) (dCons (dCall (spN 2 sp__law_told) (dCons (dOp rIx (dVar 1) (dVar 8)) (dCons (dVar 9) dNil))) (dCons (dCall (spN 2 sp__law_due) (dCons (dOp rIx (dVar 1) (dVar 8)) (dCons (dVar 9) dNil))) dNil))))) (dRet (dC (.bl false))) dNext)))))) (dSeq (dFor (iSq (dSl (dVar 2) dNoP (dPart (dC (.int 5))))) (gTp 2 (gsCons (gNm 8) (gsCons (gNm 9) gsNil))) (dIf (dNot (dTst (dCall (spN 2 sp__law_same) (dCons (dCall (spN 2 sp__law_told) (dCons (dOp rIx (dVar 1) (dVar 8)) (dCons (dVar 9) dNil))) (dCons (dCall (spN 2 sp__law_due) (dCons (dOp rIx (dVar 1) (dVar 8)) (dCons (dVar 9) dNil))) dNil))))) (dRet (dC (.bl false))) dNext)) (dRet (dOp rEq (dCall spReprD (dCons (dVar 1) dNil)) (dVar 4))))))))

theorem hs_page (h : Hs) : valD h.kv (.inr ("page" : Str)) = some (bookD h.m h.rows) := rfl
theorem hs_wide (h : Hs) : valD h.kv (.inr ("wide" : Str)) = some (.int h.wide) := rfl
theorem k__law_places : Keeps 1 3 t__law_places sp__law_places := by
  intro ds S k x hl cS cd h
  obtain ⟨n, rfl, hn, h⟩ := h
  show t__law_places (endsD S.length k x) [some (.int n), none, none] S
  simp only [t__law_places]
  walk_at "dx"
  refine ⟨Nat.zero_le _, by decide, by decide, wFor_rng 62 (fun i sg S' => ∃ t, sg = [some (.int ((n / 2 ^ i : Nat) : Int)), some (.ref S.length), t] ∧ S' = S ++ [.lst (natsD ((List.range i).filter fun j => n.testBit j))]) ⟨none, by simp, rfl⟩ ?_ ?_⟩
  · rintro sg S' ⟨t, rfl, rfl⟩
    refine ⟨trivial, ?_⟩
    walk_at "dx"
    rw [← bitsN_range hn]
    exact wk_drop rfl cS (cl_cells _ _) h
  · rintro i sg S' nx hi ⟨t, rfl, rfl⟩ hnx
    refine ⟨trivial, ?_⟩
    walk_at "dx"
    have e0 : (0 : Int) + (i : Int) = (i : Int) := by omega
    have e1 : ((n / 2 ^ i : Nat) : Int) / 2 = ((n / 2 ^ (i + 1) : Nat) : Int) := by rw [Nat.pow_succ, ← Nat.div_div_eq_div_mul]; rfl
    have e2 : n.testBit i = decide (n / 2 ^ i % 2 = 1) := Nat.testBit_eq_decide_div_mod_eq
    rw [e0, e1]
    refine ⟨by decide, fun z => ⟨?_, ⟨by decide, by decide⟩, hnx _ _ ⟨_, rfl, ?_⟩⟩, fun z => ⟨⟨by decide, by decide⟩, hnx _ _ ⟨_, rfl, ?_⟩⟩⟩
    · rw [List.length_map]
      exact Nat.lt_of_le_of_lt (Nat.le_trans (List.length_filter_le _ _) (by rw [List.length_range]; omega : _ ≤ 100)) (by decide)
    · have hb : n.testBit i = true := by rw [e2]; exact decide_eq_true (by omega)
      rw [List.range_succ, List.filter_append, natsD_app]
      simp [hb, natsD]
    · have hb : n.testBit i = false := by rw [e2]; exact decide_eq_false (by omega)
      rw [List.range_succ, List.filter_append]
      simp [hb]
theorem k__law_added_all : Keeps 1 2 t__law_added_all sp__law_added_all := by
  intro ds S k x hl cS cd h
  obtain ⟨n, ws, rfl, hn, hz, h⟩ := h
  show t__law_added_all (endsD S.length k x) [some (.ref n), none] S
  simp only [t__law_added_all]
  walk_at "dx"
  refine ⟨_, natsD ws, rfl, itemsX_nats (.inr ⟨n, rfl, lget_lst hn⟩) (by omega), fun ws' e => ?_, fun z => (by rw [all_nat] at z; cases z)⟩
  have e : ws' = ws := by
    have := congrArg (List.map intD) e
    simp only [natsD, List.map_map] at this
    refine (List.map_inj_right (f := fun c : Nat => (c : Int)) fun a b h => (by omega)).mp ?_
    exact this.symm
  subst e
  walk_at "dx"
  refine ⟨⟨_, lget_lst hn⟩, natsD ws', hn, ⟨_, lget_lst (get_set_self hn)⟩, _, get_set_self hn, ?_, ?_⟩
  · rw [List.length_reverse, List.length_map, sl16]
    omega
  · exact wk_now h
def refsF (p : Nat) : Nat → List D
  | 0 => []
  | n + 1 => .ref p :: refsF (p + 1) n
theorem refsF_snoc : ∀ (n p : Nat), refsF p (n + 1) = refsF p n ++ [.ref (p + n)]
  | 0, p => rfl
  | n + 1, p => by
    show .ref p :: refsF (p + 1) (n + 1) = .ref p :: (refsF (p + 1) n ++ [.ref (p + (n + 1))])
    rw [refsF_snoc n (p + 1), show p + 1 + n = p + (n + 1) by omega]
theorem refsF_len : ∀ (n p : Nat), (refsF p n).length = n
  | 0, _ => rfl
  | n + 1, p => congrArg Nat.succ (refsF_len n (p + 1))
def objsF (rs : List (List Nat)) : Sto := rs.map fun r => O.lst (natsD r)
theorem refs_given {m : Nat} : ∀ {rs : List (List Nat)} {A G : Sto} {p : Nat}, A.length = p → (∀ r ∈ rs, RowOk m r) → m ≤ 1000000 → Paired (givenR (A ++ (objsF rs ++ G)) m) (refsF p rs.length) rs
  | [], _, _, _, _, _, _ => .nil
  | r :: rs, A, G, p, hA, h, hm => by
    refine .cons ?_ ?_
    · have hr := h r List.mem_cons_self
      exact ⟨r, .inr ⟨p, rfl, lget_end hA⟩, hr.1, Nat.le_trans hr.len hm, hr.2.2, hr.2.1, fun _ => Iff.rfl⟩
    · have q := refs_given (m := m) (rs := rs) (A := A ++ [.lst (natsD r)]) (G := G) (p := p + 1) (by simp [hA]) (fun y hy => h y (List.mem_cons_of_mem _ hy)) hm
      rw [List.append_assoc] at q
      exact q
theorem k__law_made : Keeps 1 5 t__law_made sp__law_made := by
  intro ds S k x hl cS cd h
  obtain ⟨m, rows, rfl, hB, hm, hz, h⟩ := h
  show t__law_made (endsD S.length k x) [some (bookD m rows), none, none, none, none] S
  simp only [t__law_made]
  refine dSeq_go ?_
  simp only [bookD]
  walk_at "dz"
  have hrev : ∀ r ∈ rows.reverse, RowOk m r := fun r hr => hB.2.2.2 r (List.mem_reverse.mp hr)
  refine lc_ind (fun rest acc T => ∃ dn rr : List (List Nat), rest = rr.map rowD ∧ dn ++ rr = rows.reverse ∧ acc = refsF (S.length + 1) dn.length ∧ T = S ++ .lst acc :: objsF dn) ⟨[], rows.reverse, by simp, rfl, rfl, rfl⟩ ?_ ?_
  · rintro acc T ⟨dn, rr, h1, h2, rfl, rfl⟩
    have hrr : rr = [] := by
      cases rr with
      | nil => rfl
      | cons a b => cases h1
    subst hrr
    rw [List.append_nil] at h2
    subst h2
    refine ⟨trivial, ?_⟩
    walk_at "dz"
    have hp := refs_given (m := m) (rs := rows.reverse) (A := S ++ [.lst (refsF (S.length + 1) rows.reverse.length)]) (G := []) (p := S.length + 1) (by simp) hrev (by omega)
    rw [List.append_nil, List.append_assoc] at hp
    refine dSeq_go ?_
    walk_at "dz"
    refine .inl ⟨m, _, _, rows.reverse, rfl, hB.1, hm, .inr ⟨S.length, rfl, lget_at0⟩, by rw [refsF_len, List.length_reverse]; omega, hp, ?_⟩
    walk_at "dz"
    generalize hN : rows.reverse.length = N
    have hN2 : N ≤ 1000 := by rw [← hN, List.length_reverse]; exact hz
    refine dSeq_cut (fun sg S' => ∃ (t : Option D) (G : Sto), sg = [some (D.tup [D.int (m : Int), D.tup (rows.map rowD)]), some (.ref S.length), none, some (bookD m rows.reverse), t] ∧ S' = S ++ .lst (refsF (S.length + 1) N) :: G) (fun nx hnx => ?_) ?_
    · walk_at "dz"
      refine wFor_ind (fun rest sg S' => ∃ (j c : Nat) (t : Option D) (G : Sto), rest = refsF (S.length + 1 + j) c ∧ j + c = N ∧ sg = [some (D.tup [D.int (m : Int), D.tup (rows.map rowD)]), some (.ref S.length), none, some (bookD m rows.reverse), t] ∧ S' = S ++ .lst (refsF (S.length + 1) N) :: G ∧ G.length = N ∧ ∀ o ∈ G, ∃ ds, o = O.lst ds ∧ ds.length ≤ 1000 + j) ?_ ?_ _ _ _ ⟨0, N, none, objsF rows.reverse, rfl, by omega, rfl, rfl, by rw [← hN]; simp [objsF], fun o ho => ?_⟩
      · rintro sg S' ⟨j, c, t, G, h1, h2, rfl, rfl, _, _⟩
        exact ⟨lget_at0, hnx _ _ ⟨t, G, rfl, rfl⟩⟩
      · rintro d r sg S' nx2 ⟨j, c, t, G, h1, h2, rfl, rfl, hG, hO⟩ hnx2
        cases c with
        | zero => cases h1
        | succ c =>
          cases h1
          have hj : j < G.length := by omega
          obtain ⟨ds, e1, e2⟩ := hO G[j] (List.getElem_mem hj)
          have e3 : (S ++ .lst (refsF (S.length + 1) N) :: G)[S.length + 1 + j]? = some (.lst ds) := get_k (j + 1) (by omega) (by rw [List.getElem?_cons_succ, List.getElem?_eq_getElem hj, e1])
          refine ⟨lget_at0, ?_⟩
          walk_at "dz"
          refine ⟨⟨_, lget_lst e3⟩, ds, e3, by rw [sl16]; omega, ?_⟩
          rw [set_in (r := j + 1) (by omega)]
          refine hnx2 _ _ ⟨j + 1, c, _, G.set j (.lst (ds ++ [.int (-1)])), rfl, by omega, rfl, rfl, by rw [List.length_set]; exact hG, fun o ho => ?_⟩
          rcases List.mem_or_eq_of_mem_set ho with ho | rfl
          · obtain ⟨ds2, q1, q2⟩ := hO o ho
            exact ⟨ds2, q1, by omega⟩
          · exact ⟨_, rfl, by rw [List.length_append, List.length_singleton]; omega⟩
      · obtain ⟨r, hr, rfl⟩ := List.mem_map.mp ho
        refine ⟨_, rfl, ?_⟩
        rw [List.length_map]
        have := (hrev r hr).len
        omega
    · rintro sg S' ⟨t, G, rfl, rfl⟩
      walk_at "dx"
      rw [refsF_len, sl16]
      exact ⟨Nat.zero_le _, by omega, wk_drop rfl cS (cl_book _ m rows.reverse) h⟩
  · rintro d rest acc T kk ⟨dn, rr, h1, h2, rfl, rfl⟩ hkk
    refine ⟨trivial, ?_⟩
    cases rr with
    | nil => cases h1
    | cons r rr =>
      cases h1
      have e0 : (dn ++ r :: rr).length = rows.length := by rw [h2, List.length_reverse]
      have e1 : dn.length ≤ 1000 := by rw [List.length_append] at e0; omega
      walk_at "dx"
      show kk (.ref (S.length + ((objsF dn).length + 1))) (S ++ .lst (refsF (S.length + 1) dn.length) :: (objsF dn ++ [.lst (natsD r)]))
      refine hkk _ _ get_at0 (by rw [refsF_len, sl16]; omega) ⟨dn ++ [r], rr, rfl, by rw [List.append_assoc]; exact h2, ?_, ?_⟩
      · rw [List.length_append, List.length_singleton, refsF_snoc, show S.length + ((objsF dn).length + 1) = S.length + 1 + dn.length by simp only [objsF, List.length_map]; omega]
      · rw [set_at0, show objsF (dn ++ [r]) = objsF dn ++ [.lst (natsD r)] by simp [objsF]]
theorem k__law_refused : Keeps 1 2 t__law_refused sp__law_refused := by
  intro ds S k x hl cS cd h
  obtain ⟨n, hh, rfl, hn, ok, h⟩ := h
  show t__law_refused (endsD S.length k x) [some (.ref n), none] S
  simp only [t__law_refused]
  refine dSeq_go ?_
  walk_at "dz"
  refine dSeq_cut (fun sg S' => ∃ G, sg = [some (.ref n), some (.str ("refused" : Str))] ∧ S' = S ++ G) (fun nx hnx => ?_) ?_
  · simp only [dTry]
    generalize hX : wTry _ _ _ = X
    have hx : ∀ (y : Str) (d : D) (G : Sto), exSub y "TellError" = true → X (y, d) (S ++ G) := fun y d G e => by
      rw [← hX]
      refine ⟨fun _ => ?_, fun z => (by rw [show exSub (y, d).1 _ = true from e] at z; cases z)⟩
      walk_at "dx"
      exact hnx _ _ ⟨G ++ [.exo y d], rfl, by simp⟩
    clear hX
    walk_at "dz"
    refine ⟨hh.kv, hn, .inr ("key" : Str), rfl, _, rfl, ?_⟩
    walk_at "dz"
    refine ⟨fun z => ?_, fun z => ⟨hh.kv, hn, .inr ("key" : Str), rfl, _, rfl, ?_⟩⟩
    · exact ⟨_, hn, .inr ("page" : Str), rfl, _, rfl, Nat.zero_le _, .inr ⟨hh.m, hh.rows, _, [], rfl, ok.book, ⟨.inr ⟨_, rfl, lget_at0⟩, Nat.zero_le _, fun e he => nomatch he⟩, rfl, hx _ _ _ rfl⟩⟩
    · walk_at "dz"
      refine ⟨fun z => ?_, fun z => ⟨hh.kv, hn, .inr ("key" : Str), rfl, _, rfl, ?_⟩⟩
      · refine ⟨by decide, _, [.int 1, .int (-1)], rfl, ⟨.inr ⟨_, rfl, lget_at0⟩, by decide, fun e he => ?_⟩, fun ws e => ?_, fun _ => hx _ _ _ rfl⟩
        · simp only [List.mem_cons, List.not_mem_nil, or_false] at he
          rcases he with rfl | rfl <;> exact okD_int
        · have := all_nat ws
          rw [← e] at this
          exact absurd this (by decide)
      · walk_at "dz"
        refine ⟨fun z => ⟨_, hn, .inr ("page" : Str), rfl, .tup [.int (hh.m : Int), .tup (hh.rows.map rowD)], rfl, ?_⟩, fun z => ⟨_, hn, .inr ("page" : Str), rfl, _, rfl, ?_⟩⟩
        · refine ⟨.int (hh.m : Int), atI0 _ _, by decide, _, get_app hn, .inr ("page" : Str), rfl, .tup [.int (hh.m : Int), .tup (hh.rows.map rowD)], rfl, .int (hh.m : Int), atI0 _ _, by decide, by decide, .inr ⟨hh.m, _, [.ref S.length], [], [[0]], .ref (S.length + 1), natsD [hh.m], rfl, ok.book.1, .inr ⟨_, rfl, lget_k 2 rfl rfl⟩, .cons ⟨[0], .inr ⟨_, rfl, lget_at0⟩, by decide, by decide, fun c hc => ?_, ⟨List.pairwise_singleton _ _, fun _ => Iff.rfl⟩⟩ .nil, itemsX_nats (.inr ⟨_, rfl, lget_k 1 rfl rfl⟩) (by show 1 ≤ 1000000; decide), goodC_no (.inr ⟨hh.m, List.mem_singleton.mpr rfl, Nat.le_refl _⟩), hx _ _ _ rfl⟩⟩
          rw [List.mem_singleton.mp hc]
          exact ok.book.1
        · refine ⟨by decide, .inr ⟨hh.m, hh.rows, _, rfl, ok.book, okT_lot (l := [1, 0]) (by decide), ?_, ?_⟩⟩
          · show ((natsD [1, 0]).all (isBelowD (hh.rows.length : Int)) && ascB [1, 0]) = false
            rw [show ascB [1, 0] = false by decide, Bool.and_false]
          · have := hx "InvalidLot" (.tup [.int 1, .int 0]) [] rfl
            rw [List.append_nil] at this
            exact this
  · rintro sg S' ⟨G, rfl, rfl⟩
    walk_at "dx"
    exact wk_drop rfl cS trivial h
theorem k__law_told : Keeps 2 5 t__law_told sp__law_told := by
  intro ds S k x hl cS cd h
  obtain ⟨n, hh, w, rfl, hn, ok, d, ha, h⟩ := h
  show t__law_told (endsD S.length k x) [some (.ref n), some (.str w), none, none, none] S
  simp only [t__law_told]
  refine dSeq_go ?_
  walk_at "dz"
  refine ⟨hh.kv, hn, .inr ("page" : Str), rfl, _, rfl, hh.kv, hn, .inr ("first" : Str), rfl, _, rfl, hh.kv, hn, .inr ("second" : Str), rfl, _, rfl, ?_⟩
  have hm63 : hh.m ≤ 63 := Nat.le_trans ok.hm (by decide)
  have hr1 : hh.rows.length ≤ 1000 := Nat.le_trans ok.hr (by decide)
  have a60 : hh.a < 2 ^ 100000 := Nat.lt_of_le_of_lt ok.ha (Nat.lt_of_lt_of_le (by decide : 2 ^ 60 + 1 < 2 ^ 61) (Nat.pow_le_pow_right (by decide) (by decide)))
  have b60 : hh.b < 2 ^ 100000 := Nat.lt_of_le_of_lt ok.hb (Nat.lt_of_lt_of_le (by decide : 2 ^ 60 + 1 < 2 ^ 61) (Nat.pow_le_pow_right (by decide) (by decide)))
  have hw : wk S.length k d S := wk_now h
  have gp : ∀ {x : Str} {v : D} {K : D → Prop}, valD hh.kv (.inr x) = some v → K v → ∃ kvs, S[n]? = some (.dic kvs) ∧ ∃ key, D.str x = keyD key ∧ ∃ v, valD kvs key = some v ∧ K v := fun h1 h2 => ⟨_, hn, .inr _, rfl, _, h1, h2⟩
  cases ha
  all_goals
    walk_at "dx"
    repeat (refine ⟨fun z => absurd z (by decide), fun _ => ?_⟩)
  · exact ⟨_, _, rfl, hw⟩
  · refine ⟨by decide, _, [hh.b, hh.a, hh.b], rfl, get_at0, (by show 3 ≤ 1000; decide), ?_⟩
    rw [set_at0, show xorA [hh.b, hh.a, hh.b] = hh.a from by
      show hh.b ^^^ (hh.a ^^^ (hh.b ^^^ 0)) = hh.a
      rw [Nat.xor_zero, Nat.xor_comm hh.a, ← Nat.xor_assoc, Nat.xor_self, Nat.zero_xor]]
    exact wk_drop rfl cS trivial h
  · exact ⟨_, rfl, a60, hw⟩
  · exact ⟨_, rfl, b60, hw⟩
  · refine ⟨_, hn, .inr ("wide" : Str), rfl, _, rfl, hh.wide, _, rfl, okD_int, ok.w1, fun i e => (by cases e; exact_mod_cast a60), ?_⟩
    have e : isWordD hh.wide (.int hh.a) = decide (hh.a < 2 ^ hh.wide) := by
      show decide (0 ≤ (hh.a : Int) ∧ (hh.a : Int) < 2 ^ hh.wide) = _
      rw [show (2 : Int) ^ hh.wide = ((2 ^ hh.wide : Nat) : Int) by push_cast; rfl]
      exact decide_eq_decide.mpr ⟨fun z => by omega, fun z => by omega⟩
    rw [e]
    exact hw
  · exact ⟨_, _, rfl, ok.book, hm63, hr1, hw⟩
  · obtain ⟨c, r, hrow⟩ : ∃ c r, hh.row = c :: r := by
      cases e : hh.row with
      | nil => exact absurd e ok.row.1
      | cons c r => exact ⟨c, r, rfl⟩
    have hlen : hh.row.length ≤ 63 := Nat.le_trans ok.row.len hm63
    refine ⟨_, hn, .inr ("row" : Str), rfl, .tup (natsD hh.row), rfl, ?_⟩
    refine ⟨_, get_app hn, .inr ("row" : Str), rfl, .tup (natsD hh.row), rfl, .int (c : Int), by rw [hrow]; simp [natsD, atI0], by decide, by rw [natsD, List.length_map, sl16]; omega, .inl ⟨hh.m, hh.rows, _, hh.row ++ [c], hh.row, rfl, ok.book, hm63, .inr ⟨_, rfl, lget_k 2 rfl ?_⟩, by simp, by rw [List.length_append, List.length_singleton]; omega, fun e he => ?_, ⟨ok.row.2.1, fun e => ?_⟩, wk_drop rfl cS (cl_book _ _ _) h⟩⟩
    · rw [natsD_app]
      rfl
    · rcases List.mem_append.mp he with he | he
      · exact ok.row.2.2 e he
      · rw [List.mem_singleton.mp he]
        exact ok.row.2.2 c (by rw [hrow]; exact List.mem_cons_self)
    · rw [List.mem_append, List.mem_singleton]
      exact ⟨.inl, fun z => z.elim id fun z => (by rw [z, hrow]; exact List.mem_cons_self)⟩
  · exact ⟨_, hn, .inr ("key" : Str), rfl, _, rfl, hh.m, hh.key, hh.rows, rfl, ok.book, ok.key, hw⟩
  · exact ⟨_, hn, .inr ("lot" : Str), rfl, _, rfl, .inl ⟨hh.m, hh.rows, hh.lot, rfl, ok.book, ok.lot, hw⟩⟩
  · exact ⟨_, hn, .inr ("cell" : Str), rfl, _, rfl, hh.m, hh.cell, hh.rows, rfl, ok.book, ok.cell, hw⟩
  · exact ⟨_, hn, .inr ("lot" : Str), rfl, _, rfl, hh.m, hh.rows, hh.lot, rfl, ok.book, hm63, hr1, ok.lot, hw⟩
  · exact ⟨_, rfl, okB_of ok.book, by rw [isBook_of ok.book]; exact hw⟩
  · exact ⟨n, hh, rfl, hn, ok, hw⟩
theorem bits_le {n k : Nat} (h : n < 2 ^ k) (hk : k ≤ 1000000) : (bitsN n).length ≤ 1000000 := by
  rw [bitsN_range h]
  exact Nat.le_trans (List.length_filter_le _ _) (by rw [List.length_range]; exact hk)
theorem width_in (b : Nat) : (widthN b : Int) ∈ 0 :: ((bitsN b).map (fun j : Nat => (j : Int) + 1) ++ [1]) := by
  unfold widthN
  by_cases h0 : b = 0
  · rw [if_pos h0]
    simp
  · rw [if_neg h0]
    obtain ⟨l, e⟩ := bits_last b 0 (by omega)
    unfold bitsN
    rw [e]
    simp
theorem width_top (b : Nat) (y : Int) (h : y ∈ 0 :: ((bitsN b).map (fun j : Nat => (j : Int) + 1) ++ [1])) : y ≤ (widthN b : Int) := by
  have hw1 : 1 ≤ widthN b := by
    unfold widthN
    split <;> omega
  simp only [List.mem_cons, List.mem_append, List.mem_map, List.not_mem_nil, or_false] at h
  rcases h with rfl | ⟨j, hj, rfl⟩ | rfl
  · omega
  · have hb : b < 2 ^ (b.log2 + 1) := Nat.lt_log2_self
    rw [bitsN_range hb] at hj
    have h1 := List.mem_range.mp (List.mem_filter.mp hj).1
    unfold widthN
    by_cases h0 : b = 0
    · subst h0
      have := (List.mem_filter.mp hj).2
      simp at this
    · rw [if_neg h0]
      omega
  · omega
theorem k__law_due : Keeps 2 11 t__law_due sp__law_due := by
  intro ds S k x hl cS cd h
  obtain ⟨n, hh, w, rfl, hn, ok, d, ha, h⟩ := h
  show t__law_due (endsD S.length k x) [some (.ref n), some (.str w), none, none, none, none, none, none, none, none, none] S
  simp only [t__law_due]
  refine dSeq_go ?_
  walk_at "dz"
  refine ⟨hh.kv, hn, .inr ("page" : Str), rfl, .tup [.int (hh.m : Int), .tup (hh.rows.map rowD)], rfl, ?_⟩
  walk_at "dz"
  refine dSeq_go ?_
  walk_at "dz"
  refine ⟨hh.kv, hn, .inr ("first" : Str), rfl, _, rfl, hh.kv, hn, .inr ("second" : Str), rfl, _, rfl, hh.kv, hn, .inr ("key" : Str), rfl, _, rfl, hh.kv, hn, .inr ("lot" : Str), rfl, .tup (natsD hh.lot), rfl, ?_⟩
  walk_at "dz"
  refine ⟨by decide, ?_⟩
  have a62 : hh.a < 2 ^ 62 := Nat.lt_of_le_of_lt ok.ha (by decide)
  have b62 : hh.b < 2 ^ 62 := Nat.lt_of_le_of_lt ok.hb (by decide)
  have a20 : hh.a < 2 ^ 2000 := Nat.lt_of_lt_of_le a62 (Nat.pow_le_pow_right (by decide) (by decide))
  have b20 : hh.b < 2 ^ 2000 := Nat.lt_of_lt_of_le b62 (Nat.pow_le_pow_right (by decide) (by decide))
  have hw : wk S.length k d S := wk_now h
  have hll : hh.lot.length ≤ 11 := Nat.le_trans (lot_len ok.lot) ok.hr
  have hm10 := ok.hm
  have hr11 := ok.hr
  cases ha
  all_goals
    walk_at "dx"
    repeat (refine ⟨fun z => absurd z (by decide), fun _ => ?_⟩)
  · exact ⟨_, _, rfl, a20, b20, hw⟩
  · exact hw
  · exact ⟨_, rfl, a62, hw⟩
  · refine ⟨by decide, hh.b, rfl, b62, ?_⟩
    walk_at "dx"
    refine lc_map (fun d => .int (intD d + 1)) (fun d1 hd acc kk hk => ?_) (fun _ => trivial) (by rw [List.length_map]; exact sl_ok _ (bits_le b62 (by decide))) ?_
    · obtain ⟨c, hc, rfl⟩ := List.mem_map.mp hd
      walk_at "dx"
      rw [List.append_assoc] at hk
      exact hk
    walk_at "dx"
    have hbl := bits_le b62 (by decide)
    refine ⟨?_, by decide, ?_, 0 :: ((bitsN hh.b).map (fun j : Nat => (j : Int) + 1) ++ [1]), ?_, by simp, fun m hm hall => ?_⟩
    · rw [List.length_map, List.length_map, sl16]
      omega
    · rw [List.length_map, List.length_map, sl16]
      omega
    · simp [natsD, intD, List.map_map, Function.comp_def]
    · have e : m = (widthN hh.b : Int) := by
        have h1 : m ≤ (widthN hh.b : Int) := width_top _ m hm
        have h2 := hall _ (width_in hh.b)
        omega
      rw [e]
      exact wk_drop rfl cS trivial h
  · refine ⟨hh.a, rfl, a62, ?_⟩
    walk_at "dx"
    refine lc_filter (fun d => decide ((hh.wide : Int) ≤ intD d)) id (fun d1 hd acc kk hk => ?_) (fun d1 hd _ acc kk hk => ?_) (fun _ => trivial) (by rw [List.length_map]; exact sl_ok _ (bits_le a62 (by decide))) ?_
    · obtain ⟨c, hc, rfl⟩ := List.mem_map.mp hd
      walk_at "dx"
      exact ⟨_, get_app hn, .inr ("wide" : Str), rfl, _, rfl, hk⟩
    · walk_at "dx"
      exact hk
    walk_at "dx"
    have e : decide (((List.map id (List.filter (fun d => decide ((hh.wide : Int) ≤ intD d)) (natsD (bitsN hh.a)))).length : Int) = 0) = decide (hh.a < 2 ^ hh.wide) := by
      refine decide_eq_decide.mpr ?_
      rw [List.map_id, natsD, List.filter_map, List.length_map, bitsN_range a62]
      constructor
      · intro z
        refine Nat.lt_pow_two_of_testBit _ fun i hi => ?_
        cases hb : hh.a.testBit i with
        | false => rfl
        | true =>
          have hi2 : i < 62 := by
            refine Nat.lt_of_not_le fun hle => ?_
            have h1 := Nat.ge_two_pow_of_testBit hb
            have h2 := Nat.pow_le_pow_right (show 0 < 2 by decide) hle
            omega
          have hm : i ∈ List.filter ((fun d => decide ((hh.wide : Int) ≤ intD d)) ∘ fun c : Nat => D.int (c : Int)) (List.filter (fun j => hh.a.testBit j) (List.range 62)) := by
            rw [List.mem_filter, List.mem_filter]
            exact ⟨⟨List.mem_range.mpr hi2, hb⟩, decide_eq_true (show (hh.wide : Int) ≤ (i : Int) by omega)⟩
          rw [List.eq_nil_of_length_eq_zero (Int.natCast_eq_zero.mp z)] at hm
          cases hm
      · intro z
        rw [List.filter_eq_nil_iff.mpr fun j hj => ?_]
        · rfl
        · have hb := (List.mem_filter.mp hj).2
          have h1 := Nat.ge_two_pow_of_testBit hb
          have h3 : j < hh.wide := (Nat.pow_lt_pow_iff_right (a := 2) (by decide)).mp (by omega)
          show ¬ decide ((hh.wide : Int) ≤ (j : Int)) = true
          rw [decide_eq_true_eq]
          omega
    rw [e]
    exact wk_drop rfl cS trivial h
  · refine lc_map id (fun d1 hd acc kk hk => ?_) (fun _ => trivial) (by rw [List.length_reverse, List.length_map, sl16]; omega) ?_
    · walk_at "dx"
      exact hk
    walk_at "dx"
    rw [List.map_id, ← List.map_reverse]
    exact ⟨by decide, wk_drop rfl cS (cl_book _ hh.m hh.rows.reverse) h⟩
  · refine ⟨_, hn, .inr ("row" : Str), rfl, rowD hh.row, rfl, by decide, by rw [List.length_map, sl16]; omega, by decide, ?_⟩
    have e : bookD hh.m (hh.rows ++ [hh.row]) = .tup [.int (hh.m : Int), .tup (hh.rows.map rowD ++ [rowD hh.row])] := by
      unfold bookD
      rw [List.map_append]
      rfl
    rw [e] at hw
    exact hw
  · rw [show (hh.key : Int) + 1 = ((hh.key + 1 : Nat) : Int) by push_cast; rfl, cut_take, cut_drop, ← List.map_take, ← List.map_drop, ← List.map_append]
    exact ⟨by simp only [List.length_map, List.length_take, List.length_drop]; rw [sl16]; omega, by decide, hw⟩
  · refine lc_map (fun d => rowD (hh.rows.getD (intD d).toNat [])) (fun d1 hd acc kk hk => ?_) (fun _ => trivial) (by rw [List.length_map, sl16]; omega) ?_
    · obtain ⟨c, hc, rfl⟩ := List.mem_map.mp hd
      have hlt := ok.lot.2 c hc
      walk_at "dx"
      exact ⟨_, atI_nat (getD_row hlt), hk⟩
    · walk_at "dx"
      have e : (natsD hh.lot).map (fun d => rowD (hh.rows.getD (intD d).toNat [])) = (partR hh.rows hh.lot).map rowD := by
        unfold partR
        rw [List.map_map, List.map_map]
        rfl
      rw [e]
      exact ⟨by decide, wk_drop rfl cS (cl_book _ hh.m (partR hh.rows hh.lot)) h⟩
  · exact ⟨_, hn, .inr ("page" : Str), rfl, bookD hh.m hh.rows, rfl, _, hn, .inr ("cell" : Str), rfl, _, rfl, hh.m, hh.cell, hh.rows, rfl, by omega, hw⟩
  · exact ⟨_, hn, .inr ("page" : Str), rfl, bookD hh.m hh.rows, rfl, hh.m, hh.rows, hh.lot, rfl, by omega, by omega, ok.lot, hw⟩
  · exact hw
  · exact hw
theorem cl_kv (L : Nat) (h : Hs) : clO L (.dic h.kv) :=
  ⟨cl_book L h.m h.rows, trivial, trivial, cl_cells L h.row, trivial, trivial, cl_cells L h.lot, trivial, trivial⟩
theorem k__law_house : Keeps 1 3 t__law_house sp__law_house := by
  intro ds S k x hl cS cd h
  obtain ⟨n, a, b, rfl, hd, hb, h⟩ := h
  show t__law_house (endsD S.length k x) [some (.ref n), none, none] S
  simp only [t__law_house]
  have hlt := get_lt hd
  refine dSeq_go ?_
  walk_at "dz"
  refine ⟨n, a, b, 10, rfl, by decide, by decide, hd, hb, fun m rows a1 b1 hB hm hr hb1 => ?_⟩
  walk_at "dz"
  refine dSeq_cut (fun sg S' => ∃ (rows : List (List Nat)), sg = [some (.ref n), some (bookD m rows), none] ∧ S' = S.set n (deckO a1 b1) ∧ BookOk m rows ∧ 0 < rows.length ∧ rows.length ≤ 10) (fun nx hnx => ?_) ?_
  · simp only [bookD]
    walk_at "dz"
    refine ⟨Nat.zero_le _, eqG_pure (e := .tup []) 2 1 (pds_rows rows) rfl ?_⟩
    rw [eqD_tup, eqDs_nil]
    refine ⟨fun z => ⟨by decide, by decide, by decide, hnx _ _ ⟨[[0]], rfl, rfl, ⟨hB.1, hB.2.1, by decide, fun r hr => ?_⟩, by decide, by decide⟩⟩, fun z => hnx _ _ ⟨rows, rfl, rfl, hB, ?_, hr⟩⟩
    · rw [List.mem_singleton.mp hr]
      exact row_one hB.1
    · cases rows with
      | nil => cases z
      | cons a l => exact Nat.succ_pos _
  · rintro sg S' ⟨rows, rfl, rfl, hB, h0, hr⟩
    refine dSeq_cut (fun sg S' => ∃ (rows : List (List Nat)) (a b : Nat) (G : Sto), sg = [some (.ref n), some (bookD m rows), none] ∧ S' = S.set n (deckO a b) ++ G ∧ b < 2 ^ 64 ∧ BookOk m rows ∧ 0 < rows.length ∧ rows.length ≤ 11) (fun nx hnx => ?_) ?_
    · walk_at "dz"
      refine take_set0 hd (many := 3) (by decide) (by decide) hb1 fun r a3 b3 hr3 hb3 => ?_
      walk_at "dz"
      refine ⟨fun z => ?_, fun z => hnx _ _ ⟨rows, a3, b3, [], rfl, by simp, hb3, hB, h0, by omega⟩⟩
      have hm63 : m ≤ 63 := Nat.le_trans hm (by decide)
      refine ⟨by decide, .inl ⟨m, rows, _, [0], [0], rfl, hB, hm63, .inr ⟨_, rfl, lget_end (by simp)⟩, by decide, by decide, fun c hc => (by rw [List.mem_singleton.mp hc]; exact hB.1), ⟨List.pairwise_singleton _ _, fun _ => Iff.rfl⟩, ?_⟩⟩
      walk_at "dz"
      refine lot_set hd (by omega) hb3 fun l a5 b5 hL hb5 => ?_
      have hB2 : BookOk m (rows ++ [[0]]) := ⟨hB.1, hB.2.1, by rw [List.length_append, List.length_singleton]; omega, fun r hr => by
        rcases List.mem_append.mp hr with hr | hr
        · exact hB.2.2.2 r hr
        · rw [List.mem_singleton.mp hr]
          exact row_one hB.1⟩
      have hll := lot_len hL
      have hL2 : LotOk (rows ++ [[0]]) (l ++ [rows.length]) := ⟨cells_add hL.1 hL.2, fun c hc => by
        rw [List.length_append, List.length_singleton]
        rcases List.mem_append.mp hc with hc | hc
        · have := hL.2 c hc
          omega
        · rw [List.mem_singleton.mp hc]
          omega⟩
      simp only [bookD]
      walk_at "dz"
      have e1 : D.tup (natsD l ++ [D.int ((List.map rowD rows).length : Int)]) = .tup (natsD (l ++ [rows.length])) := by
        rw [natsD_app, List.length_map]
        rfl
      rw [e1]
      refine ⟨by decide, by rw [natsD, List.length_map, sl16]; omega, .inl ⟨m, rows ++ [[0]], l ++ [rows.length], rfl, hB2, hL2, ?_⟩⟩
      walk_at "dz"
      exact hnx _ _ ⟨partR (rows ++ [[0]]) (l ++ [rows.length]), a5, b5, _, rfl, rfl, hb5, part_ok hB2 hL2, by simp [partR], by simp only [partR, List.length_map, List.length_append, List.length_singleton]; omega⟩
    · rintro sg S' ⟨rows, a4, b4, G, rfl, rfl, hb4, hB, h0, hr⟩
      refine dSeq_go ?_
      walk_at "dz"
      refine word_set hd (by decide) hb4 fun wa a5 b5 hwa hb5 => ?_
      walk_at "dz"
      refine word_set hd (by decide) hb5 fun wb a6 b6 hwb hb6 => ?_
      walk_at "dz"
      have hsl : (S.set n (deckO a6 b6)).length + G.length = S.length + G.length := by rw [List.length_set]
      refine ⟨get_mid hsl, [(.inr ("page" : Str), bookD m rows), (.inr ("first" : Str), .int wa), (.inr ("second" : Str), .int wb)], rfl, (by show 3 ≤ 15; decide), ?_⟩
      rw [set_mid hsl]
      walk_at "dz"
      refine dSeq_go ?_
      simp only [bookD]
      walk_at "dz"
      refine cells_set hd hB.1 (by omega) hb6 fun row a7 b7 hrow hb7 => ?_
      walk_at "dz"
      refine ⟨_, get_mid (by rw [List.length_set]), .inr ("row" : Str), rfl, (show 3 < sizeLine by decide), ?_⟩
      rw [set_mid (by rw [List.length_set])]
      generalize hk1 : putD (putAll [] [((.inr ("page" : Str) : Key), D.tup [.int (m : Int), .tup (rows.map rowD)]), (.inr ("first" : Str), .int wa), (.inr ("second" : Str), .int wb)]) (.inr ("row" : Str)) (rowD row) = kv1
      walk_at "dz"
      refine dSeq_go ?_
      walk_at "dz"
      rw [List.length_map]
      refine take_set hd h0 (by omega) hb7 fun key a8 b8 hkey hb8 => ?_
      walk_at "dz"
      refine take_set hd (many := m) hB.1 (by omega) hb8 fun cell a9 b9 hcell hb9 => ?_
      walk_at "dz"
      have l1 : kv1.length = 4 := by rw [← hk1]; rfl
      have l2 : (putD kv1 (.inr ("key" : Str)) (.int (key : Int))).length = 5 := by rw [← hk1]; rfl
      refine ⟨by decide, kv1, get_mid (by rw [List.length_set]), .inr ("key" : Str), rfl, by rw [l1]; decide, putD kv1 (.inr ("key" : Str)) (.int (key : Int)), by rw [set_mid (by rw [List.length_set])]; exact get_mid (by rw [List.length_set]), .inr ("cell" : Str), rfl, by rw [l2]; decide, ?_⟩
      rw [set_mid (by rw [List.length_set])]
      generalize hk2 : putD (putD kv1 (.inr ("key" : Str)) (.int (key : Int))) (.inr ("cell" : Str)) (.int (cell : Int)) = kv2
      have l3 : kv2.length = 6 := by rw [← hk2, ← hk1]; rfl
      refine dSeq_go ?_
      walk_at "dz"
      refine lot_set hd (by omega) hb9 fun lot a10 b10 hlot hb10 => ?_
      walk_at "dz"
      refine take_set hd (many := 60) (by decide) (by decide) hb10 fun wd a11 b11 hwd hb11 => ?_
      walk_at "dx"
      have l4 : (putD kv2 (.inr ("lot" : Str)) (.tup (natsD lot))).length = 7 := by rw [← hk2, ← hk1]; rfl
      refine ⟨by decide, kv2, get_mid (by rw [List.length_set]), .inr ("lot" : Str), rfl, by rw [l3]; decide, putD kv2 (.inr ("lot" : Str)) (.tup (natsD lot)), by rw [set_mid (by rw [List.length_set])]; exact get_mid (by rw [List.length_set]), .inr ("wide" : Str), rfl, by rw [l4]; decide, ?_⟩
      rw [set_mid (by rw [List.length_set])]
      have ek : putD (putD kv2 (.inr ("lot" : Str)) (.tup (natsD lot))) (.inr ("wide" : Str)) (.int (1 + (wd : Int))) = (Hs.mk m rows wa wb row key cell lot (1 + wd)).kv := by
        rw [← hk2, ← hk1, show (1 : Int) + (wd : Int) = ((1 + wd : Nat) : Int) by push_cast; rfl]
        rfl
      rw [ek]
      refine wk_new (by rw [List.length_set]) (clS_set cS (cl_deck _ _ _)) (Nat.le_add_right _ _) (get_mid (by rw [List.length_set])) (cl_kv _ _) ?_
      exact h _ a11 b11 ⟨hB, h0, hm, hr, hwa, hwb, hrow, hkey, hcell, hlot, by show 1 ≤ 1 + wd; omega, by show 1 + wd ≤ 60; omega⟩
/-! ### the text of the houses -/
structure Pg (p : PyData) (n w : Nat) : Prop where
  s : p.showable = true
  l : p.leavesShort 1921 = true
  d : p.depth ≤ n
  w : p.weight ≤ w
theorem pg_nat {c k : Nat} (h : c < 2 ^ k) (hk : k ≤ 62) : Pg (.int (c : Int)) 0 k := by
  have hlog : ((c : Int).natAbs).log2 < 1920 := Nat.lt_of_lt_of_le (log_lt (n := 62) (by simpa using Nat.lt_of_lt_of_le h (Nat.pow_le_pow_right (by decide) hk)) (by decide)) (by decide)
  refine ⟨decide_eq_true hlog, decide_eq_true (int_text_len_1921 hlog), Nat.le_refl _, ?_⟩
  show (if ((c : Int) == 0) = true then 0 else ((c : Int).natAbs).log2 + 1) ≤ k
  by_cases h0 : c = 0
  · subst h0
    exact Nat.zero_le _
  · rw [if_neg (by simp; omega)]
    have := (Nat.log2_lt h0).mpr h
    rw [Int.natAbs_natCast]
    omega
theorem pg_all {n w : Nat} : ∀ ps : List PyData, (∀ p ∈ ps, Pg p n w) → PyData.showableAll ps = true ∧ PyData.leavesShortAll 1921 ps = true ∧ PyData.depthAll ps ≤ n ∧ PyData.weightAll ps ≤ (w + 1) * ps.length
  | [], _ => ⟨rfl, rfl, Nat.zero_le _, Nat.zero_le _⟩
  | p :: ps, h => by
    obtain ⟨h1, h2, h3, h4⟩ := pg_all ps fun q hq => h q (List.mem_cons_of_mem _ hq)
    have hp := h p List.mem_cons_self
    refine ⟨?_, ?_, ?_, ?_⟩
    · show (p.showable && PyData.showableAll ps) = true
      rw [hp.s, h1]
      rfl
    · show (p.leavesShort 1921 && PyData.leavesShortAll 1921 ps) = true
      rw [hp.l, h2]
      rfl
    · show max p.depth (PyData.depthAll ps) ≤ n
      have := hp.d
      omega
    · show p.weight + 1 + PyData.weightAll ps ≤ (w + 1) * (ps.length + 1)
      have := hp.w
      rw [Nat.mul_succ]
      omega
theorem pg_tup {n w L : Nat} {ps : List PyData} (h : ∀ p ∈ ps, Pg p n w) (hL : ps.length ≤ L) : Pg (.tuple ps) (n + 1) ((w + 1) * L) := by
  obtain ⟨h1, h2, h3, h4⟩ := pg_all ps h
  exact ⟨h1, h2, Nat.succ_le_succ h3, Nat.le_trans h4 (Nat.mul_le_mul_left _ hL)⟩
def natsP (l : List Nat) : PyData := .tuple (l.map fun c : Nat => PyData.int (c : Int))
theorem pg_nats {k L : Nat} {l : List Nat} (h : ∀ c ∈ l, c < 2 ^ k) (hk : k ≤ 62) (hL : l.length ≤ L) : Pg (natsP l) 1 ((k + 1) * L) :=
  pg_tup (fun p hp => by
    obtain ⟨c, hc, rfl⟩ := List.mem_map.mp hp
    exact pg_nat (h c hc) hk) (by rw [List.length_map]; exact hL)
theorem dry_nats {S : Sto} (l : List Nat) : DRy S (.tup (natsD l)) (natsP l) := by
  refine .tup ?_
  induction l with
  | nil => exact .nil
  | cons c l ih => exact .cons (.int _) ih
def bookP (m : Nat) (rows : List (List Nat)) : PyData := .tuple [.int (m : Int), .tuple (rows.map natsP)]
theorem dry_book {S : Sto} (m : Nat) (rows : List (List Nat)) : DRy S (bookD m rows) (bookP m rows) := by
  refine .tup (.cons (.int _) (.cons (.tup ?_) .nil))
  induction rows with
  | nil => exact .nil
  | cons r rows ih => exact .cons (dry_nats r) ih
def Hs.py (h : Hs) : List (PyData × PyData) := [(keyPy (.inr ("page" : Str)), bookP h.m h.rows), (keyPy (.inr ("first" : Str)), .int h.a), (keyPy (.inr ("second" : Str)), .int h.b), (keyPy (.inr ("row" : Str)), natsP h.row), (keyPy (.inr ("key" : Str)), .int h.key), (keyPy (.inr ("cell" : Str)), .int h.cell), (keyPy (.inr ("lot" : Str)), natsP h.lot), (keyPy (.inr ("wide" : Str)), .int h.wide)]
theorem dry_house {S : Sto} {n : Nat} {h : Hs} (hn : S[n]? = some (.dic h.kv)) : DRy S (.ref n) (.dict h.py) :=
  .dic hn (.cons (dry_book _ _) (.cons (.int _) (.cons (.int _) (.cons (dry_nats _) (.cons (.int _) (.cons (.int _) (.cons (dry_nats _) (.cons (.int _) .nil))))))))
theorem pg_kv {n w1 w2 : Nat} {k v : PyData} {kvs : List (PyData × PyData)} {w : Nat} (hk : Pg k n w1) (hv : Pg v n w2) (h : Pg (.dict kvs) (n + 1) w) : Pg (.dict ((k, v) :: kvs)) (n + 1) (w1 + w2 + 2 + w) := by
  refine ⟨?_, ?_, ?_, ?_⟩
  · show (k.showable && v.showable && PyData.showableKv kvs) = true
    rw [hk.s, hv.s, show PyData.showableKv kvs = true from h.s]
    rfl
  · show (k.leavesShort 1921 && v.leavesShort 1921 && PyData.leavesShortKv 1921 kvs) = true
    rw [hk.l, hv.l, show PyData.leavesShortKv 1921 kvs = true from h.l]
    rfl
  · show max (max k.depth v.depth) (PyData.depthKv kvs) + 1 ≤ n + 1
    have h1 := hk.d
    have h2 := hv.d
    have h3 : PyData.depthKv kvs + 1 ≤ n + 1 := h.d
    omega
  · show k.weight + v.weight + 2 + PyData.weightKv kvs ≤ _
    have h1 := hk.w
    have h2 := hv.w
    have h3 : PyData.weightKv kvs ≤ w := h.w
    omega
theorem pg_mono {p : PyData} {n n' w w' : Nat} (h : Pg p n w) (hn : n ≤ n') (hw : w ≤ w') : Pg p n' w' := ⟨h.s, h.l, Nat.le_trans h.d hn, Nat.le_trans h.w hw⟩
theorem pg_house {h : Hs} (ok : h.Ok) : Pg (.dict h.py) 4 1700 := by
  have hm := ok.hm
  have hr := ok.hr
  have c4 : ∀ {c : Nat}, c < 11 → c < 2 ^ 4 := fun h => Nat.lt_of_lt_of_le h (by decide)
  have c4' : ∀ {c : Nat}, c < 12 → c < 2 ^ 4 := fun h => Nat.lt_of_lt_of_le h (by decide)
  have str : ∀ x : Str, (x.cps.toList.all fun c => decide (c < 16 ^ 8)) = true → x.cps.size ≤ 6 → Pg (keyPy (.inr x)) 3 6 := fun x h1 h2 => ⟨rfl, h1, Nat.zero_le _, h2⟩
  have row : ∀ r : List Nat, RowOk h.m r → Pg (natsP r) 1 (5 * 10) := fun r q => pg_nats (fun c hc => c4 (by have := q.2.2 c hc; omega)) (by decide) (Nat.le_trans q.len hm)
  have page : Pg (bookP h.m h.rows) 3 ((((5 * 10 + 1) * 11) + 1) * 2) := by
    refine pg_tup (n := 2) (w := (5 * 10 + 1) * 11) (fun p hp => ?_) (Nat.le_refl _)
    simp only [List.mem_cons, List.not_mem_nil, or_false] at hp
    rcases hp with rfl | rfl
    · exact pg_mono (pg_nat (c4 (by omega)) (by decide)) (by decide) (by decide)
    · refine pg_tup (fun p hp => ?_) (by rw [List.length_map]; exact hr)
      obtain ⟨r, hr, rfl⟩ := List.mem_map.mp hp
      exact row r (ok.book.2.2.2 r hr)
  have lot : Pg (natsP h.lot) 1 (5 * 11) := pg_nats (fun c hc => c4' (by have := ok.lot.2 c hc; omega)) (by decide) (Nat.le_trans (lot_len ok.lot) hr)
  have wd : ∀ {c : Nat}, c < 2 ^ 61 → Pg (.int (c : Int)) 3 61 := fun q => pg_mono (pg_nat q (by decide)) (by decide) (Nat.le_refl _)
  have nil : Pg (.dict []) 4 0 := ⟨rfl, rfl, by decide, Nat.zero_le _⟩
  have hk := ok.key
  have hc := ok.cell
  have hw := ok.w2
  have ha := ok.ha
  have hb := ok.hb
  refine pg_mono (pg_kv (str _ (by decide) (by decide)) page (pg_kv (str _ (by decide) (by decide)) (wd (by omega)) (pg_kv (str _ (by decide) (by decide)) (wd (by omega)) (pg_kv (str _ (by decide) (by decide)) (pg_mono (row _ ok.row) (by decide) (Nat.le_refl _)) (pg_kv (str _ (by decide) (by decide)) (wd (by omega)) (pg_kv (str _ (by decide) (by decide)) (wd (by omega)) (pg_kv (str _ (by decide) (by decide)) (pg_mono lot (by decide) (Nat.le_refl _)) (pg_kv (str _ (by decide) (by decide)) (wd (by omega)) nil)))))))) (Nat.le_refl _) (by decide)
def housesT (h0 h1 : Hs) : Str := PyData.shown (.list [.dict h0.py, .dict h1.py])
theorem repr_houses {S : Sto} {j n0 n1 : Nat} {h0 h1 : Hs} {k : KD} {x : XD} (o0 : h0.Ok) (o1 : h1.Ok) (hj : S[j]? = some (.lst [.ref n0, .ref n1])) (e0 : S[n0]? = some (.dic h0.kv)) (e1 : S[n1]? = some (.dic h1.kv)) (hk : k (.str (housesT h0 h1)) S) : spReprD [.ref j] S k x := by
  have p0 := pg_house o0
  have p1 := pg_house o1
  obtain ⟨s1, s2, s3, s4⟩ := pg_all (n := 4) (w := 1700) [.dict h0.py, .dict h1.py] fun p hp => by
    simp only [List.mem_cons, List.not_mem_nil, or_false] at hp
    rcases hp with rfl | rfl
    · exact p0
    · exact p1
  refine ⟨_, .list [.dict h0.py, .dict h1.py], rfl, .ref hj (.cons (dry_house e0) (.cons (dry_house e1) .nil)), rfl, s1, ?_, ?_, hk⟩
  · show PyData.depthAll [.dict h0.py, .dict h1.py] + 1 ≤ 60
    omega
  · refine Nat.le_trans (PyData.shown_le 1921 (by decide) _ s2) ?_
    have : (PyData.list [.dict h0.py, .dict h1.py]).weight ≤ (1700 + 1) * 2 := s4
    rw [sl16]
    omega
def wordsL : List Str := ["added", "all", "bits", "width", "word", "made", "with", "without", "part", "keys", "cells", "is", "refused"]
theorem ans_ex (h : Hs) {w : Str} (hw : w ∈ wordsL) : ∃ d, h.Ans w d := by
  simp only [wordsL, List.mem_cons, List.not_mem_nil, or_false] at hw
  rcases hw with rfl | rfl | rfl | rfl | rfl | rfl | rfl | rfl | rfl | rfl | rfl | rfl | rfl
  · exact ⟨_, .added⟩
  · exact ⟨_, .all⟩
  · exact ⟨_, .bits⟩
  · exact ⟨_, .width⟩
  · exact ⟨_, .word⟩
  · exact ⟨_, .made⟩
  · exact ⟨_, .wth⟩
  · exact ⟨_, .without⟩
  · exact ⟨_, .part⟩
  · exact ⟨_, .keys⟩
  · exact ⟨_, .cells⟩
  · exact ⟨_, .is_⟩
  · exact ⟨_, .refused⟩
theorem sdB_natsL {n : Nat} (l : List Nat) (h : l.length ≤ 1000000) : sdB (n + 1) (.tup (natsD l)) = true := by
  show (decide ((natsD l).length ≤ 1000000) && (natsD l).all (sdB n)) = true
  rw [decide_eq_true (by rw [natsD, List.length_map]; exact h), Bool.true_and, natsD, List.all_map]
  exact List.all_eq_true.mpr fun c _ => by
    show sdB n (.int (c : Int)) = true
    cases n <;> rfl
theorem ans_sdB {h : Hs} (ok : h.Ok) {w : Str} {d : D} (ha : h.Ans w d) : sdB 8 d = true := by
  have a62 : h.a < 2 ^ 62 := Nat.lt_of_le_of_lt ok.ha (by decide)
  have hr := ok.hr
  have hm := ok.hm
  cases ha
  · rfl
  · rfl
  · exact sdB_natsL _ (bits_le a62 (by decide))
  · rfl
  · rfl
  · exact sdB_book 5 ⟨ok.book.1, ok.book.2.1, by rw [List.length_reverse]; omega, fun r hr => ok.book.2.2.2 r (List.mem_reverse.mp hr)⟩
  · refine sdB_book 5 ⟨ok.book.1, ok.book.2.1, by rw [List.length_append, List.length_singleton]; omega, fun r hr => ?_⟩
    rcases List.mem_append.mp hr with hr | hr
    · exact ok.book.2.2.2 r hr
    · rw [List.mem_singleton.mp hr]
      exact ok.row
  · refine sdB_book 5 ⟨ok.book.1, ok.book.2.1, by rw [List.length_append, List.length_take, List.length_drop]; omega, fun r hr => ?_⟩
    rcases List.mem_append.mp hr with hr | hr
    · exact ok.book.2.2.2 r (List.mem_of_mem_take hr)
    · exact ok.book.2.2.2 r (List.mem_of_mem_drop hr)
  · exact sdB_book 5 (part_ok ok.book ok.lot)
  · refine sdB_natsL _ (Nat.le_trans (List.length_filter_le _ _) ?_)
    rw [List.length_range]
    omega
  · exact sdB_natsL _ (Nat.le_trans (cellsN_len _ _ _) (by omega))
  · rfl
  · rfl
/-- one question, told as it is due -/
theorem ask_ok {S : Sto} {n : Nat} {h : Hs} {w : Str} {K : KD} {X : XD} (ok : h.Ok) (hn : S[n]? = some (.dic h.kv)) (hw : w ∈ wordsL) (hk : K (.bl true) S) :
    sp__law_told [.ref n, .str w] S (fun d S' => sp__law_due [.ref n, .str w] S' (fun e S2 => sp__law_same [d, e] S2 K X) X) X := by
  obtain ⟨d, ha⟩ := ans_ex h hw
  exact ⟨n, h, w, rfl, hn, ok, d, ha, n, h, w, rfl, hn, ok, d, ha, same_call (sameD_self 8 d (ans_sdB ok ha)) hk⟩
theorem six_get {S G H : Sto} {o0 o1 o2 o3 o4 o5 o : O} {j : Nat} (h : S.length + (G.length + 6) = j) : (S ++ (o0 :: o1 :: o2 :: o3 :: o4 :: o5 :: (G ++ o :: H)))[j]? = some o := by
  refine get_k (G.length + 6) h ?_
  simp
theorem six_set {S G H : Sto} {o0 o1 o2 o3 o4 o5 o u : O} {j : Nat} (h : S.length + (G.length + 6) = j) : (S ++ (o0 :: o1 :: o2 :: o3 :: o4 :: o5 :: (G ++ o :: H))).set j u = S ++ (o0 :: o1 :: o2 :: o3 :: o4 :: o5 :: (G ++ u :: H)) := by
  rw [set_in (r := G.length + 6) h]
  simp
theorem askedD_take (P : List (Nat × Str)) : cutD (P.map fun p => D.tup [.int (p.1 : Int), .str p.2]) none (some 5) = (P.take 5).map fun p => D.tup [.int (p.1 : Int), .str p.2] :=
  (cut_take _ 5).trans List.map_take.symm
theorem houses_at {S : Sto} {h0 h1 : Hs} (o0 : h0.Ok) (o1 : h1.Ok) {w : Nat} (hw : w < 2) : ∃ (hh : Hs) (nh : Nat), hh.Ok ∧ atI [D.ref (S.length + 1), D.ref (S.length + 3)] (w : Int) = some (.ref nh) ∧ ∀ (a b : O) (H : Sto), (S ++ (a :: .dic h0.kv :: b :: .dic h1.kv :: H))[nh]? = some (.dic hh.kv) := by
  have : w = 0 ∨ w = 1 := by omega
  rcases this with rfl | rfl
  · exact ⟨h0, S.length + 1, o0, atI_nat (j := 0) rfl, fun a b H => get_k 1 rfl rfl⟩
  · exact ⟨h1, S.length + 3, o1, atI_nat (j := 1) rfl, fun a b H => get_k 3 rfl rfl⟩
def askedD (P : List (Nat × Str)) : List D := P.map fun p => D.tup [.int (p.1 : Int), .str p.2]
theorem k_law : Keeps 1 10 t_law sp_law := by
  intro ds S k x hl cS cd h
  obtain ⟨n, ns, rfl, hd, hn, h⟩ := h
  show t_law (endsD S.length k x) [some (.ref n), none, none, none, none, none, none, none, none, none] S
  have hL : lget S n = some (ns.map D.int) := by unfold lget; rw [hd]
  simp only [t_law]
  refine dSeq_go ?_
  walk_at "dz"
  refine ⟨n, 0, ns, rfl, hd, by decide, by rw [sl16]; omega, fun a0 b0 hb0 => ?_⟩
  walk_at "dz"
  refine ⟨S.length, a0, b0, rfl, get_at0, hb0, fun h0 a0' b0' ok0 => ?_⟩
  rw [set_at0]
  walk_at "dz"
  refine ⟨n, 1, ns, rfl, get_app hd, by decide, by rw [sl16]; omega, fun a1 b1 hb1 => ?_⟩
  walk_at "dz"
  refine ⟨S.length + 2, a1, b1, rfl, get_k 2 rfl rfl, hb1, fun h1 a1' b1' ok1 => ?_⟩
  rw [set_in (r := 2) rfl]
  simp only [List.set_cons_succ, List.set_cons_zero]
  walk_at "dz"
  refine ⟨by decide, Nat.zero_le _, ?_⟩
  refine dSeq_go ?_
  walk_at "dz"
  refine ⟨by decide, ?_⟩
  refine dSeq_go ?_
  walk_at "dz"
  refine ⟨by decide, by decide, repr_houses ok0 ok1 (get_k 4 rfl rfl) (get_k 1 rfl rfl) (get_k 3 rfl rfl) ?_⟩
  walk_at "dz"
  generalize hT : housesT h0 h1 = T
  refine dSeq_cut (fun sg S' => ∃ (P : List (Nat × Str)) (G : Sto) (t5 t6 t7 t8 t9 : Option D), sg = [some (.ref n), some (.ref (S.length + 4)), some (.ref (S.length + 5)), some (.ref (S.length + 8)), some (.str T), t5, t6, t7, t8, t9] ∧ S' = S ++ (deckO a0' b0' :: .dic h0.kv :: deckO a1' b1' :: .dic h1.kv :: .lst [.ref (S.length + 1), .ref (S.length + 3)] :: .lst (askedD P) :: G) ∧ ∀ p ∈ P, p.1 < 2 ∧ p.2 ∈ wordsL) (fun nx hnx => ?_) ?_
  · walk_at "dz"
    refine ⟨_, lget_app hL, ?_⟩
    rw [List.length_map]
    generalize hN : (if (if (20 : Int) < (ns.length : Int) then (20 : Int) else ns.length) > 8 then (if (20 : Int) < (ns.length : Int) then (20 : Int) else ns.length) else (8 : Int)) = N
    have hN2 : 8 ≤ N ∧ N ≤ 20 := by
      rw [← hN]
      split
      · split
        · omega
        · omega
      · omega
    refine ⟨by decide, by decide, by omega, by omega, ?_⟩
    refine wFor_rng (lo := 2) (N - 2).toNat (fun i sg S' => ∃ (P : List (Nat × Str)) (G : Sto) (t5 t6 t7 t8 t9 : Option D), sg = [some (.ref n), some (.ref (S.length + 4)), some (.ref (S.length + 5)), some (.ref (S.length + 8)), some (.str T), t5, t6, t7, t8, t9] ∧ S' = S ++ (deckO a0' b0' :: .dic h0.kv :: deckO a1' b1' :: .dic h1.kv :: .lst [.ref (S.length + 1), .ref (S.length + 3)] :: .lst (askedD P) :: G) ∧ G[2]? = some (.lst (wordsL.map D.str)) ∧ P.length ≤ 3 * i ∧ ∀ p ∈ P, p.1 < 2 ∧ p.2 ∈ wordsL)
      ⟨[], _, none, none, none, none, none, rfl, rfl, rfl, Nat.zero_le _, fun p hp => nomatch hp⟩ ?_ ?_
    · rintro sg S' ⟨P, G, t5, t6, t7, t8, t9, rfl, rfl, _, _, hP⟩
      exact ⟨trivial, hnx _ _ ⟨P, G, _, _, _, _, _, rfl, rfl, hP⟩⟩
    · rintro i sg S' nx1 hi ⟨P, G, t5, t6, t7, t8, t9, rfl, rfl, hG, hPl, hP⟩ hnx1
      refine ⟨trivial, ?_⟩
      refine dSeq_go ?_
      walk_at "dz"
      refine ⟨n, 2 + i, ns, by rw [show (2 : Int) + (i : Int) = ((2 + i : Nat) : Int) by push_cast; rfl], get_app hd, by omega, by rw [sl16]; omega, fun a b hb => ?_⟩
      walk_at "dz"
      have g2 : 2 < G.length := get_lt hG
      refine ⟨by decide, by decide, wFor_rng 3 (fun j sg S' => ∃ (P : List (Nat × Str)) (a b : Nat) (t7 t8 t9 : Option D), sg = [some (.ref n), some (.ref (S.length + 4)), some (.ref (S.length + 5)), some (.ref (S.length + 8)), some (.str T), some (.int (2 + (i : Int))), some (.ref (S.length + (G.length + 6))), t7, t8, t9] ∧ S' = S ++ (deckO a0' b0' :: .dic h0.kv :: deckO a1' b1' :: .dic h1.kv :: .lst [.ref (S.length + 1), .ref (S.length + 3)] :: .lst (askedD P) :: (G ++ [deckO a b])) ∧ b < 2 ^ 64 ∧ P.length ≤ 3 * i + j ∧ ∀ p ∈ P, p.1 < 2 ∧ p.2 ∈ wordsL)
        ⟨P, a, b, t7, t8, t9, rfl, rfl, hb, by omega, hP⟩ ?_ ?_⟩
      · rintro sg S' ⟨P, a, b, t7, t8, t9, rfl, rfl, _, hPl, hP⟩
        exact ⟨trivial, hnx1 _ _ ⟨P, _, _, _, _, _, _, rfl, rfl, by rw [List.getElem?_append_left g2]; exact hG, by omega, hP⟩⟩
      · rintro j sg S' nx2 hj ⟨P, a, b, t7, t8, t9, rfl, rfl, hb, hPl, hP⟩ hnx2
        refine ⟨trivial, ?_⟩
        refine dSeq_go ?_
        walk_at "dz"
        refine ⟨_, a, b, 2, rfl, by decide, by decide, six_get rfl, hb, fun w a2 b2 hw hb2 => ?_⟩
        rw [six_set rfl]
        walk_at "dz"
        refine ⟨_, a2, b2, 13, rfl, by decide, by decide, six_get rfl, hb2, fun wi a3 b3 hwi hb3 => ?_⟩
        rw [six_set rfl]
        walk_at "dz"
        obtain ⟨x1, ex, hx1⟩ := atI_in (wordsL.map D.str) wi (by simpa [wordsL] using hwi)
        obtain ⟨wd, hwd, rfl⟩ := List.mem_map.mp hx1
        refine ⟨_, lget_app (lget_lst hG), _, ex, ?_⟩
        walk_at "dx"
        obtain ⟨hh, nh, okh, e1, e2⟩ := houses_at (S := S) ok0 ok1 hw
        obtain ⟨da, ha⟩ := ans_ex hh hwd
        have ea : askedD P ++ [D.tup [D.int (w : Int), D.str wd]] = askedD (P ++ [(w, wd)]) := by simp [askedD]
        rw [ea]
        refine ⟨by decide, by rw [askedD, List.length_map, sl16]; omega, _, e1, nh, hh, wd, rfl, e2 _ _ _, okh, da, ha, ?_⟩
        walk_at "dx"
        refine ⟨_, e1, nh, hh, wd, rfl, e2 _ _ _, okh, da, ha, ?_⟩
        walk_at "dx"
        refine same_call (sameD_self 8 da (ans_sdB okh ha)) ?_
        walk_at "dx"
        refine hnx2 _ _ ⟨P ++ [(w, wd)], a3, b3, _, _, _, rfl, rfl, hb3, by rw [List.length_append, List.length_singleton]; omega, fun p hp => ?_⟩
        rcases List.mem_append.mp hp with hp | hp
        · exact hP p hp
        · rw [List.mem_singleton.mp hp]
          exact ⟨hw, hwd⟩
  · rintro sg S' ⟨P, G, t5, t6, t7, t8, t9, rfl, rfl, hP⟩
    refine dSeq_cut (fun sg S' => ∃ (G : Sto) (t5 t6 t7 t8 t9 : Option D), sg = [some (.ref n), some (.ref (S.length + 4)), some (.ref (S.length + 5)), some (.ref (S.length + 8)), some (.str T), t5, t6, t7, t8, t9] ∧ S' = S ++ (deckO a0' b0' :: .dic h0.kv :: deckO a1' b1' :: .dic h1.kv :: .lst [.ref (S.length + 1), .ref (S.length + 3)] :: .lst (askedD P) :: G)) (fun nx hnx => ?_) ?_
    · walk_at "dz"
      have e5 : cutD (askedD P) none (some 5) = askedD (P.take 5) := askedD_take P
      rw [e5]
      refine wFor_ind (fun rest sg S' => ∃ (Q : List (Nat × Str)) (t5 t6 t7 t8 t9 : Option D), rest = askedD Q ∧ (∀ p ∈ Q, p.1 < 2 ∧ p.2 ∈ wordsL) ∧ sg = [some (.ref n), some (.ref (S.length + 4)), some (.ref (S.length + 5)), some (.ref (S.length + 8)), some (.str T), t5, t6, t7, t8, t9] ∧ S' = S ++ (deckO a0' b0' :: .dic h0.kv :: deckO a1' b1' :: .dic h1.kv :: .lst [.ref (S.length + 1), .ref (S.length + 3)] :: .lst (askedD P) :: (G ++ [.lst (askedD (P.take 5))]))) ?_ ?_ _ _ _ ⟨P.take 5, _, _, _, _, _, rfl, fun p hp => hP p (List.mem_of_mem_take hp), rfl, rfl⟩
      · rintro sg S' ⟨Q, t5, t6, t7, t8, t9, _, _, rfl, rfl⟩
        exact ⟨lget_lst (six_get (by omega)), hnx _ _ ⟨_, _, _, _, _, _, rfl, rfl⟩⟩
      · rintro d r sg S' nx1 ⟨Q, t5, t6, t7, t8, t9, h1, hQ, rfl, rfl⟩ hnx1
        cases Q with
        | nil => cases h1
        | cons p Q =>
          obtain ⟨w, wd⟩ := p
          cases h1
          obtain ⟨hw, hwd⟩ := hQ _ List.mem_cons_self
          refine ⟨lget_lst (six_get (by omega)), ?_⟩
          walk_at "dx"
          obtain ⟨hh, nh, okh, e1, e2⟩ := houses_at (S := S) ok0 ok1 hw
          obtain ⟨da, ha⟩ := ans_ex hh hwd
          refine ⟨_, e1, nh, hh, wd, rfl, e2 _ _ _, okh, da, ha, ?_⟩
          walk_at "dx"
          refine ⟨_, e1, nh, hh, wd, rfl, e2 _ _ _, okh, da, ha, ?_⟩
          walk_at "dx"
          refine same_call (sameD_self 8 da (ans_sdB okh ha)) ?_
          walk_at "dx"
          exact hnx1 _ _ ⟨Q, _, _, _, _, _, rfl, fun p hp => hQ p (List.mem_cons_of_mem _ hp), rfl, rfl⟩
    · rintro sg S' ⟨G, t5, t6, t7, t8, t9, rfl, rfl⟩
      walk_at "dx"
      refine repr_houses ok0 ok1 (get_k 4 rfl rfl) (get_k 1 rfl rfl) (get_k 3 rfl rfl) ?_
      rw [hT]
      walk_at "dx"
      exact wk_drop rfl cS trivial h
theorem law_top (ns : List Int) (h : ns.length ≤ 63) : sp_law [.ref 0] [.ro (ns.map D.int)] (fun d _ => d = .bl true) XF := ⟨0, ns, rfl, rfl, h, rfl⟩
end Q
namespace Lk
open PySem PySem.Spec PyProof.Rows L2 Q
def top (i : Nat) : Stmt := PySem.Challenge.pw_keytellers_k06_whole_any_question_behind.main.body.getD i (.Pass ⟨0, 0, 0, 0⟩)
abbrev FnP (K : PySem.W.Frag) (x : Str) (st : Stmt) (f : Addr) (fd : FuncData) : Prop := FunD K x x (defArgs st) (defBody st) (defScope st) [] [] f fd
abbrev s_is_integer : Stmt := top 10
theorem sc_is_integer : FnScope ["value"] ["value"] (defScope s_is_integer) := ⟨rfl, rfl, rfl, by decide +kernel, rfl, by decide +kernel, by decide +kernel⟩
abbrev s_is_natural : Stmt := top 11
theorem sc_is_natural : FnScope ["value"] ["value"] (defScope s_is_natural) := ⟨rfl, rfl, rfl, by decide +kernel, rfl, by decide +kernel, by decide +kernel⟩
abbrev s_is_below : Stmt := top 12
theorem sc_is_below : FnScope ["value", "many"] ["value", "many"] (defScope s_is_below) := ⟨rfl, rfl, rfl, by decide +kernel, rfl, by decide +kernel, by decide +kernel⟩
abbrev s_is_pair : Stmt := top 13
theorem sc_is_pair : FnScope ["value"] ["value"] (defScope s_is_pair) := ⟨rfl, rfl, rfl, by decide +kernel, rfl, by decide +kernel, by decide +kernel⟩
abbrev s_is_row_or_list : Stmt := top 14
theorem sc_is_row_or_list : FnScope ["value"] ["value"] (defScope s_is_row_or_list) := ⟨rfl, rfl, rfl, by decide +kernel, rfl, by decide +kernel, by decide +kernel⟩
abbrev s_is_ascending : Stmt := top 15
theorem sc_is_ascending : FnScope ["row", "at"] ["row"] (defScope s_is_ascending) := ⟨rfl, rfl, rfl, by decide +kernel, rfl, by decide +kernel, by decide +kernel⟩
abbrev s_is_ascending_below : Stmt := top 16
theorem sc_is_ascending_below : FnScope ["value", "many", "a"] ["value", "many"] (defScope s_is_ascending_below) := ⟨rfl, rfl, rfl, by decide +kernel, rfl, by decide +kernel, by decide +kernel⟩
abbrev s_sum_of_words : Stmt := top 17
theorem sc_sum_of_words : FnScope ["words", "total", "word"] ["words"] (defScope s_sum_of_words) := ⟨rfl, rfl, rfl, by decide +kernel, rfl, by decide +kernel, by decide +kernel⟩
abbrev s_bits_of : Stmt := top 18
theorem sc_bits_of : FnScope ["a", "found", "place", "rest"] ["a"] (defScope s_bits_of) := ⟨rfl, rfl, rfl, by decide +kernel, rfl, by decide +kernel, by decide +kernel⟩
abbrev s_is_row_of : Stmt := top 20
theorem sc_is_row_of : FnScope ["m", "told"] ["m", "told"] (defScope s_is_row_of) := ⟨rfl, rfl, rfl, by decide +kernel, rfl, by decide +kernel, by decide +kernel⟩
abbrev s_is_book : Stmt := top 21
theorem sc_is_book : FnScope ["told", "row"] ["told"] (defScope s_is_book) := ⟨rfl, rfl, rfl, by decide +kernel, rfl, by decide +kernel, by decide +kernel⟩
abbrev s_check_book : Stmt := top 22
theorem sc_check_book : FnScope ["book"] ["book"] (defScope s_check_book) := ⟨rfl, rfl, rfl, by decide +kernel, rfl, by decide +kernel, by decide +kernel⟩
abbrev s_check_cells : Stmt := top 23
theorem sc_check_cells : FnScope ["m", "row", "cell"] ["m", "row"] (defScope s_check_cells) := ⟨rfl, rfl, rfl, by decide +kernel, rfl, by decide +kernel, by decide +kernel⟩
abbrev s_check_key : Stmt := top 24
theorem sc_check_key : FnScope ["book", "key"] ["book", "key"] (defScope s_check_key) := ⟨rfl, rfl, rfl, by decide +kernel, rfl, by decide +kernel, by decide +kernel⟩
abbrev s_check_cell : Stmt := top 25
theorem sc_check_cell : FnScope ["book", "cell"] ["book", "cell"] (defScope s_check_cell) := ⟨rfl, rfl, rfl, by decide +kernel, rfl, by decide +kernel, by decide +kernel⟩
abbrev s_is_lot_of : Stmt := top 26
theorem sc_is_lot_of : FnScope ["book", "told"] ["book", "told"] (defScope s_is_lot_of) := ⟨rfl, rfl, rfl, by decide +kernel, rfl, by decide +kernel, by decide +kernel⟩
abbrev s_check_lot : Stmt := top 27
theorem sc_check_lot : FnScope ["book", "lot"] ["book", "lot"] (defScope s_check_lot) := ⟨rfl, rfl, rfl, by decide +kernel, rfl, by decide +kernel, by decide +kernel⟩
abbrev s_row_of_cells : Stmt := top 28
theorem sc_row_of_cells : FnScope ["cells", "cell"] ["cells"] (defScope s_row_of_cells) := ⟨rfl, rfl, rfl, by decide +kernel, rfl, by decide +kernel, by decide +kernel⟩
abbrev s_book : Stmt := top 29
theorem sc_book : FnScope ["m", "rows", "row"] ["m", "rows"] (defScope s_book) := ⟨rfl, rfl, rfl, by decide +kernel, rfl, by decide +kernel, by decide +kernel⟩
abbrev s_with_key : Stmt := top 30
theorem sc_with_key : FnScope ["book", "row", "m", "rows"] ["book", "row"] (defScope s_with_key) := ⟨rfl, rfl, rfl, by decide +kernel, rfl, by decide +kernel, by decide +kernel⟩
abbrev s_without_key : Stmt := top 31
theorem sc_without_key : FnScope ["book", "key", "m", "rows"] ["book", "key"] (defScope s_without_key) := ⟨rfl, rfl, rfl, by decide +kernel, rfl, by decide +kernel, by decide +kernel⟩
abbrev s_keys_at : Stmt := top 32
theorem sc_keys_at : FnScope ["book", "cell", "key", "row"] ["book", "cell"] (defScope s_keys_at) := ⟨rfl, rfl, rfl, by decide +kernel, rfl, by decide +kernel, by decide +kernel⟩
abbrev s_keys_of : Stmt := top 33
theorem sc_keys_of : FnScope ["book", "cell"] ["book", "cell"] (defScope s_keys_of) := ⟨rfl, rfl, rfl, by decide +kernel, rfl, by decide +kernel, by decide +kernel⟩
abbrev s_cells_in : Stmt := top 34
theorem sc_cells_in : FnScope ["book", "lot", "key", "cell"] ["book", "lot"] (defScope s_cells_in) := ⟨rfl, rfl, rfl, by decide +kernel, rfl, by decide +kernel, by decide +kernel⟩
abbrev s_cells_of : Stmt := top 35
theorem sc_cells_of : FnScope ["book", "lot"] ["book", "lot"] (defScope s_cells_of) := ⟨rfl, rfl, rfl, by decide +kernel, rfl, by decide +kernel, by decide +kernel⟩
abbrev s_part_of : Stmt := top 36
theorem sc_part_of : FnScope ["book", "lot", "key"] ["book", "lot"] (defScope s_part_of) := ⟨rfl, rfl, rfl, by decide +kernel, rfl, by decide +kernel, by decide +kernel⟩
abbrev s_part : Stmt := top 37
theorem sc_part : FnScope ["book", "lot"] ["book", "lot"] (defScope s_part) := ⟨rfl, rfl, rfl, by decide +kernel, rfl, by decide +kernel, by decide +kernel⟩
abbrev s_check_word : Stmt := top 39
theorem sc_check_word : FnScope ["a"] ["a"] (defScope s_check_word) := ⟨rfl, rfl, rfl, by decide +kernel, rfl, by decide +kernel, by decide +kernel⟩
abbrev s_check_wide : Stmt := top 40
theorem sc_check_wide : FnScope ["w"] ["w"] (defScope s_check_wide) := ⟨rfl, rfl, rfl, by decide +kernel, rfl, by decide +kernel, by decide +kernel⟩
abbrev s_added : Stmt := top 41
theorem sc_added : FnScope ["a", "b"] ["a", "b"] (defScope s_added) := ⟨rfl, rfl, rfl, by decide +kernel, rfl, by decide +kernel, by decide +kernel⟩
abbrev s_added_all : Stmt := top 42
theorem sc_added_all : FnScope ["some", "a"] ["some"] (defScope s_added_all) := ⟨rfl, rfl, rfl, by decide +kernel, rfl, by decide +kernel, by decide +kernel⟩
abbrev s_bits : Stmt := top 43
theorem sc_bits : FnScope ["a"] ["a"] (defScope s_bits) := ⟨rfl, rfl, rfl, by decide +kernel, rfl, by decide +kernel, by decide +kernel⟩
abbrev s_width_of : Stmt := top 44
theorem sc_width_of : FnScope ["a", "places"] ["a"] (defScope s_width_of) := ⟨rfl, rfl, rfl, by decide +kernel, rfl, by decide +kernel, by decide +kernel⟩
abbrev s_width : Stmt := top 45
theorem sc_width : FnScope ["a"] ["a"] (defScope s_width) := ⟨rfl, rfl, rfl, by decide +kernel, rfl, by decide +kernel, by decide +kernel⟩
abbrev s_is_word_of : Stmt := top 46
theorem sc_is_word_of : FnScope ["w", "told"] ["w", "told"] (defScope s_is_word_of) := ⟨rfl, rfl, rfl, by decide +kernel, rfl, by decide +kernel, by decide +kernel⟩
abbrev s_is_word : Stmt := top 47
theorem sc_is_word : FnScope ["w", "told"] ["w", "told"] (defScope s_is_word) := ⟨rfl, rfl, rfl, by decide +kernel, rfl, by decide +kernel, by decide +kernel⟩
abbrev s__law_deck : Stmt := top 49
theorem sc__law_deck : FnScope ["script", "at", "cell", "stir"] ["script", "at"] (defScope s__law_deck) := ⟨rfl, rfl, rfl, by decide +kernel, rfl, by decide +kernel, by decide +kernel⟩
abbrev s__law_take : Stmt := top 50
theorem sc__law_take : FnScope ["deck", "many", "taken"] ["deck", "many"] (defScope s__law_take) := ⟨rfl, rfl, rfl, by decide +kernel, rfl, by decide +kernel, by decide +kernel⟩
abbrev s__law_same : Stmt := top 51
theorem sc__law_same : FnScope ["found", "due", "at"] ["found", "due"] (defScope s__law_same) := ⟨rfl, rfl, rfl, by decide +kernel, rfl, by decide +kernel, by decide +kernel⟩
abbrev s__law_word : Stmt := top 52
theorem sc__law_word : FnScope ["deck", "most", "wide", "found", "power", "turn"] ["deck", "most"] (defScope s__law_word) := ⟨rfl, rfl, rfl, by decide +kernel, rfl, by decide +kernel, by decide +kernel⟩
abbrev s__law_sum : Stmt := top 53
theorem sc__law_sum : FnScope ["a_word", "b_word", "found", "power"] ["a_word", "b_word"] (defScope s__law_sum) := ⟨rfl, rfl, rfl, by decide +kernel, rfl, by decide +kernel, by decide +kernel⟩
abbrev s__law_cells : Stmt := top 54
theorem sc__law_cells : FnScope ["deck", "many", "found", "way", "cell"] ["deck", "many"] (defScope s__law_cells) := ⟨rfl, rfl, rfl, by decide +kernel, rfl, by decide +kernel, by decide +kernel⟩
abbrev s__law_page : Stmt := top 55
theorem sc__law_page : FnScope ["deck", "most", "many", "rows", "key", "way"] ["deck", "most"] (defScope s__law_page) := ⟨rfl, rfl, rfl, by decide +kernel, rfl, by decide +kernel, by decide +kernel⟩
abbrev s__law_lot : Stmt := top 56
theorem sc__law_lot : FnScope ["deck", "page", "way", "key"] ["deck", "page"] (defScope s__law_lot) := ⟨rfl, rfl, rfl, by decide +kernel, rfl, by decide +kernel, by decide +kernel⟩
abbrev s__law_keys : Stmt := top 57
theorem sc__law_keys : FnScope ["page", "cell", "key"] ["page", "cell"] (defScope s__law_keys) := ⟨rfl, rfl, rfl, by decide +kernel, rfl, by decide +kernel, by decide +kernel⟩
abbrev s__law_cells_of : Stmt := top 58
theorem sc__law_cells_of : FnScope ["page", "lot", "found", "cell", "key"] ["page", "lot"] (defScope s__law_cells_of) := ⟨rfl, rfl, rfl, by decide +kernel, rfl, by decide +kernel, by decide +kernel⟩
abbrev s__law_house : Stmt := top 59
theorem sc__law_house : FnScope ["deck", "page", "house"] ["deck"] (defScope s__law_house) := ⟨rfl, rfl, rfl, by decide +kernel, rfl, by decide +kernel, by decide +kernel⟩
abbrev s__law_places : Stmt := top 60
theorem sc__law_places : FnScope ["word", "found", "at"] ["word"] (defScope s__law_places) := ⟨rfl, rfl, rfl, by decide +kernel, rfl, by decide +kernel, by decide +kernel⟩
abbrev s__law_due : Stmt := top 61
theorem sc__law_due : FnScope ["house", "word", "many", "rows", "first", "second", "key", "lot", "at", "row", "other"] ["house", "word"] (defScope s__law_due) := ⟨rfl, rfl, rfl, by decide +kernel, rfl, by decide +kernel, by decide +kernel⟩
abbrev s__law_added_all : Stmt := top 63
theorem sc__law_added_all : FnScope ["words", "answer"] ["words"] (defScope s__law_added_all) := ⟨rfl, rfl, rfl, by decide +kernel, rfl, by decide +kernel, by decide +kernel⟩
abbrev s__law_made : Stmt := top 64
theorem sc__law_made : FnScope ["page", "given", "row", "answer", "cells"] ["page"] (defScope s__law_made) := ⟨rfl, rfl, rfl, by decide +kernel, rfl, by decide +kernel, by decide +kernel⟩
abbrev s__law_refused : Stmt := top 65
theorem sc__law_refused : FnScope ["house", "answer"] ["house"] (defScope s__law_refused) := ⟨rfl, rfl, rfl, by decide +kernel, rfl, by decide +kernel, by decide +kernel⟩
abbrev s__law_told : Stmt := top 62
theorem sc__law_told : FnScope ["house", "word", "page", "first", "second"] ["house", "word"] (defScope s__law_told) := ⟨rfl, rfl, rfl, by decide +kernel, rfl, by decide +kernel, by decide +kernel⟩
abbrev s_law : Stmt := top 66
theorem sc_law : FnScope ["script", "houses", "asked", "words", "kept", "at", "deck", "turn", "where", "word"] ["script"] (defScope s_law) := ⟨rfl, rfl, rfl, by decide +kernel, rfl, by decide +kernel, by decide +kernel⟩
abbrev s_init : Stmt := clsDef 0 (top 1)
theorem sc_init : FnScope ["self", "value"] ["self", "value"] (defScope s_init) := ⟨rfl, rfl, rfl, by decide +kernel, rfl, by decide +kernel, by decide +kernel⟩
section
variable {P : Program} {w : World} {K : PySem.W.Frag} {mg : Str → Option Value} {base : Heap}
theorem ok_init {f : Addr} {fd : FuncData} (F : FunD K "__init__" "TellError.__init__" (defArgs s_init) (defBody s_init) (defScope s_init) [] [] f fd) (hm : mg "ValueError" = none) (vV : PySem.W.findCls K (.type "ValueError") (.type "type") "__init__" = some (.val (.builtin "ValueError.__init__"))) : FnOk P w K mg base (L2.CX P w) 1 f fd ["self", "value"] (spI K) := init_ok F sc_init fun cdv A outer s H E => pss_cons (ps_expr (pe_veinit (by rfl) hm vV (pa_cons (pe_var (i := 0) rfl (Or.inl rfl)) (pa_cons (pe_var (i := 1) rfl (Or.inl rfl)) pa_nil)))) (pss_one (ps_ost (pe_var (i := 0) rfl (Or.inl rfl)) (pe_var (i := 1) rfl (Or.inl rfl))))
theorem ok_is_integer {f : Addr} {fd : FuncData} (F : FnP K "is_integer" s_is_integer f fd) (m_isinstance : mg "isinstance" = none) (m_int : mg "int" = none) (m_bool : mg "bool" = none) : FnOk P w K mg base (L2.CX P w) 1 f fd ["value"] (LP K mg 1 sp_is_integer) := def_ok F sc_is_integer (fun cdv A outer s H E hr => by
  have nd := sc_is_integer.nd
  have hu := hr.units
  have hp := own_cx (P := P) (w := w) (K := K) (mg := mg) (base := base) (N := ["value"]) (qual := "is_integer") (scope := defScope s_is_integer) (f := f) (cd := cdv) (A := A) (outer := outer) (s := s) (H := H) (E := E)
  have hx := pass_cx (P := P) (w := w) (K := K) (mg := mg) (base := base) (N := ["value"]) (qual := "is_integer") (scope := defScope s_is_integer) (f := f) (cd := cdv) (A := A) (outer := outer) (s := s) (H := H) (E := E)
  exact (q_one1 (q_ret (q_andV (q_isi .int (by decide) (q_var 0) (by rfl) m_isinstance (by rfl) m_int (by decide +kernel)) (q_one (q_notV (q_isi .bool (by decide) (q_var 0) (by rfl) m_isinstance (by rfl) m_bool (by decide +kernel)))))))) k_is_integer
theorem ok_is_natural {f : Addr} {fd : FuncData} (F : FnP K "is_natural" s_is_natural f fd) {f_is_integer : Addr} {fd_is_integer : FuncData} (T_is_integer : FT P w K mg base "is_integer" 1 ["value"] sp_is_integer f_is_integer fd_is_integer) : FnOk P w K mg base (L2.CX P w) 2 f fd ["value"] (LP K mg 1 sp_is_natural) := def_ok F sc_is_natural (fun cdv A outer s H E hr => by
  have nd := sc_is_natural.nd
  have hu := hr.units
  have hp := own_cx (P := P) (w := w) (K := K) (mg := mg) (base := base) (N := ["value"]) (qual := "is_natural") (scope := defScope s_is_natural) (f := f) (cd := cdv) (A := A) (outer := outer) (s := s) (H := H) (E := E)
  have hx := pass_cx (P := P) (w := w) (K := K) (mg := mg) (base := base) (N := ["value"]) (qual := "is_natural") (scope := defScope s_is_natural) (f := f) (cd := cdv) (A := A) (outer := outer) (s := s) (H := H) (E := E)
  exact (q_one1 (q_ret (q_andV (q_call T_is_integer.ok (hr.mono (by decide)) (by rfl) T_is_integer.hm T_is_integer.hk T_is_integer.hb hx (q_cons (q_var 0) q_nil)) (q_one (q_cmp o_ge (q_var 0) q_int)))))) k_is_natural
theorem ok_is_below {f : Addr} {fd : FuncData} (F : FnP K "is_below" s_is_below f fd) {f_is_natural : Addr} {fd_is_natural : FuncData} (T_is_natural : FT P w K mg base "is_natural" 2 ["value"] sp_is_natural f_is_natural fd_is_natural) : FnOk P w K mg base (L2.CX P w) 3 f fd ["value", "many"] (LP K mg 2 sp_is_below) := def_ok F sc_is_below (fun cdv A outer s H E hr => by
  have nd := sc_is_below.nd
  have hu := hr.units
  have hp := own_cx (P := P) (w := w) (K := K) (mg := mg) (base := base) (N := ["value", "many"]) (qual := "is_below") (scope := defScope s_is_below) (f := f) (cd := cdv) (A := A) (outer := outer) (s := s) (H := H) (E := E)
  have hx := pass_cx (P := P) (w := w) (K := K) (mg := mg) (base := base) (N := ["value", "many"]) (qual := "is_below") (scope := defScope s_is_below) (f := f) (cd := cdv) (A := A) (outer := outer) (s := s) (H := H) (E := E)
  exact (q_one1 (q_ret (q_andV (q_call T_is_natural.ok (hr.mono (by decide)) (by rfl) T_is_natural.hm T_is_natural.hk T_is_natural.hb hx (q_cons (q_var 0) q_nil)) (q_one (q_cmp o_lt (q_var 0) (q_var 1))))))) k_is_below
theorem ok_is_pair {f : Addr} {fd : FuncData} (F : FnP K "is_pair" s_is_pair f fd) (m_isinstance : mg "isinstance" = none) (m_tuple : mg "tuple" = none) (m_len : mg "len" = none) : FnOk P w K mg base (L2.CX P w) 1 f fd ["value"] (LP K mg 1 sp_is_pair) := def_ok F sc_is_pair (fun cdv A outer s H E hr => by
  have nd := sc_is_pair.nd
  have hu := hr.units
  have hp := own_cx (P := P) (w := w) (K := K) (mg := mg) (base := base) (N := ["value"]) (qual := "is_pair") (scope := defScope s_is_pair) (f := f) (cd := cdv) (A := A) (outer := outer) (s := s) (H := H) (E := E)
  have hx := pass_cx (P := P) (w := w) (K := K) (mg := mg) (base := base) (N := ["value"]) (qual := "is_pair") (scope := defScope s_is_pair) (f := f) (cd := cdv) (A := A) (outer := outer) (s := s) (H := H) (E := E)
  exact (q_one1 (q_ret (q_andV (q_isi .tuple (by decide) (q_var 0) (by rfl) m_isinstance (by rfl) m_tuple (by decide +kernel)) (q_one (q_cmp (o_eq hu) (q_callB c_len (by rfl) m_len boot_len (q_cons (q_var 0) q_nil)) q_int)))))) k_is_pair
theorem ok_is_row_or_list {f : Addr} {fd : FuncData} (F : FnP K "is_row_or_list" s_is_row_or_list f fd) (m_isinstance : mg "isinstance" = none) (m_list : mg "list" = none) (m_tuple : mg "tuple" = none) : FnOk P w K mg base (L2.CX P w) 1 f fd ["value"] (LP K mg 1 sp_is_row_or_list) := def_ok F sc_is_row_or_list (fun cdv A outer s H E hr => by
  have nd := sc_is_row_or_list.nd
  have hu := hr.units
  have hp := own_cx (P := P) (w := w) (K := K) (mg := mg) (base := base) (N := ["value"]) (qual := "is_row_or_list") (scope := defScope s_is_row_or_list) (f := f) (cd := cdv) (A := A) (outer := outer) (s := s) (H := H) (E := E)
  have hx := pass_cx (P := P) (w := w) (K := K) (mg := mg) (base := base) (N := ["value"]) (qual := "is_row_or_list") (scope := defScope s_is_row_or_list) (f := f) (cd := cdv) (A := A) (outer := outer) (s := s) (H := H) (E := E)
  exact (q_one1 (q_ret (q_isi2 .list .tuple (by decide) (by decide) (q_var 0) (by rfl) m_isinstance (by rfl) m_list (by decide +kernel) (by rfl) m_tuple (by decide +kernel))))) k_is_row_or_list
theorem ok_is_ascending {f : Addr} {fd : FuncData} (F : FnP K "is_ascending" s_is_ascending f fd) (m_all : mg "all" = none) (m_range : mg "range" = none) (m_len : mg "len" = none) : FnOk P w K mg base (L2.CX P w) 1 f fd ["row"] (LP K mg 1 sp_is_ascending) := def_ok F sc_is_ascending (fun cdv A outer s H E hr => by
  have nd := sc_is_ascending.nd
  have hu := hr.units
  have hp := own_cx (P := P) (w := w) (K := K) (mg := mg) (base := base) (N := ["row", "at"]) (qual := "is_ascending") (scope := defScope s_is_ascending) (f := f) (cd := cdv) (A := A) (outer := outer) (s := s) (H := H) (E := E)
  have hx := pass_cx (P := P) (w := w) (K := K) (mg := mg) (base := base) (N := ["row", "at"]) (qual := "is_ascending") (scope := defScope s_is_ascending) (f := f) (cd := cdv) (A := A) (outer := outer) (s := s) (H := H) (E := E)
  exact (q_one1 (q_ret (q_callB (c_all rfl) (by rfl) m_all boot_all (q_cons (q_lc (own := [("at", 1)]) rfl nd (q_rg1 (by rfl) m_range (q_cons (q_op o_sub (q_callB c_len (by rfl) m_len boot_len (q_cons (q_var 0) q_nil)) q_int) q_nil)) (blkOk_by (by kernel_rfl)) (fun _ _ _ _ _ => (q_gnm (i := 1) nd)) (fun _ _ _ _ _ => q_tnil) (fun _ _ _ _ _ => (q_cmp o_lt (q_ix (q_var 0) (q_var 1)) (q_ix (q_var 0) (q_op o_add (q_var 1) q_int))))) q_nil))))) k_is_ascending
theorem ok_is_ascending_below {f : Addr} {fd : FuncData} (F : FnP K "is_ascending_below" s_is_ascending_below f fd) {f_is_below : Addr} {fd_is_below : FuncData} (T_is_below : FT P w K mg base "is_below" 3 ["value", "many"] sp_is_below f_is_below fd_is_below) {f_is_ascending : Addr} {fd_is_ascending : FuncData} (T_is_ascending : FT P w K mg base "is_ascending" 1 ["row"] sp_is_ascending f_is_ascending fd_is_ascending) (m_isinstance : mg "isinstance" = none) (m_tuple : mg "tuple" = none) (m_all : mg "all" = none) : FnOk P w K mg base (L2.CX P w) 4 f fd ["value", "many"] (LP K mg 2 sp_is_ascending_below) := def_ok F sc_is_ascending_below (fun cdv A outer s H E hr => by
  have nd := sc_is_ascending_below.nd
  have hu := hr.units
  have hp := own_cx (P := P) (w := w) (K := K) (mg := mg) (base := base) (N := ["value", "many", "a"]) (qual := "is_ascending_below") (scope := defScope s_is_ascending_below) (f := f) (cd := cdv) (A := A) (outer := outer) (s := s) (H := H) (E := E)
  have hx := pass_cx (P := P) (w := w) (K := K) (mg := mg) (base := base) (N := ["value", "many", "a"]) (qual := "is_ascending_below") (scope := defScope s_is_ascending_below) (f := f) (cd := cdv) (A := A) (outer := outer) (s := s) (H := H) (E := E)
  exact (q_one1 (q_ret (q_andV (q_isi .tuple (by decide) (q_var 0) (by rfl) m_isinstance (by rfl) m_tuple (by decide +kernel)) (q_andV (q_callB (c_all rfl) (by rfl) m_all boot_all (q_cons (q_lc (own := [("a", 2)]) rfl nd (q_iSq (q_var 0)) (blkOk_by (by kernel_rfl)) (fun _ _ _ _ _ => (q_gnm (i := 2) nd)) (fun _ _ _ _ _ => q_tnil) (fun _ _ _ _ _ => (q_call T_is_below.ok (hr.mono (by decide)) (by rfl) T_is_below.hm T_is_below.hk T_is_below.hb passE0 (q_cons (q_var 2) (q_cons (q_var 1) q_nil))))) q_nil)) (q_one (q_call T_is_ascending.ok (hr.mono (by decide)) (by rfl) T_is_ascending.hm T_is_ascending.hk T_is_ascending.hb hx (q_cons (q_var 0) q_nil)))))))) k_is_ascending_below
theorem ok_sum_of_words {f : Addr} {fd : FuncData} (F : FnP K "sum_of_words" s_sum_of_words f fd) : FnOk P w K mg base (L2.CX P w) 1 f fd ["words"] (LP K mg 1 sp_sum_of_words) := def_ok F sc_sum_of_words (fun cdv A outer s H E hr => by
  have nd := sc_sum_of_words.nd
  have hu := hr.units
  have hp := own_cx (P := P) (w := w) (K := K) (mg := mg) (base := base) (N := ["words", "total", "word"]) (qual := "sum_of_words") (scope := defScope s_sum_of_words) (f := f) (cd := cdv) (A := A) (outer := outer) (s := s) (H := H) (E := E)
  have hx := pass_cx (P := P) (w := w) (K := K) (mg := mg) (base := base) (N := ["words", "total", "word"]) (qual := "sum_of_words") (scope := defScope s_sum_of_words) (f := f) (cd := cdv) (A := A) (outer := outer) (s := s) (H := H) (E := E)
  exact (q_scons (q_set (i := 1) nd q_int) (q_scons (q_for hp rfl (q_iSq (q_var 0)) (q_gnm (i := 2) nd) (q_one1 (q_set (i := 1) nd (q_op o_xor (q_var 1) (q_var 2))))) (q_one1 (q_ret (q_var 1)))))) k_sum_of_words
theorem ok_bits_of {f : Addr} {fd : FuncData} (F : FnP K "bits_of" s_bits_of f fd) (m_tuple : mg "tuple" = none) : FnOk P w K mg base (L2.CX P w) 1 f fd ["a"] (LP K mg 1 sp_bits_of) := def_ok F sc_bits_of (fun cdv A outer s H E hr => by
  have nd := sc_bits_of.nd
  have hu := hr.units
  have hp := own_cx (P := P) (w := w) (K := K) (mg := mg) (base := base) (N := ["a", "found", "place", "rest"]) (qual := "bits_of") (scope := defScope s_bits_of) (f := f) (cd := cdv) (A := A) (outer := outer) (s := s) (H := H) (E := E)
  have hx := pass_cx (P := P) (w := w) (K := K) (mg := mg) (base := base) (N := ["a", "found", "place", "rest"]) (qual := "bits_of") (scope := defScope s_bits_of) (f := f) (cd := cdv) (A := A) (outer := outer) (s := s) (H := H) (E := E)
  exact (q_scons (q_par3 (i := 1) (j := 2) (l := 3) rfl nd (q_cons (q_lst q_nil) (q_cons q_int (q_cons (q_var 0) q_nil)))) (q_scons (q_while hp (q_tcmp o_gt (q_var 3) q_int) (q_scons (q_if (q_tcmp (o_eq hu) (q_op o_mod (q_var 3) q_int) q_int) (q_one1 (q_expr (q_met PySem.F.slot_list_append PySem.F.type_list_append m_app (q_var 1) (q_cons (q_var 2) q_nil)))) q_snil) (q_one1 (q_par (i := 3) (j := 2) rfl nd (q_cons (q_op o_fdiv (q_var 3) q_int) (q_cons (q_op o_add (q_var 2) q_int) q_nil)))))) (q_one1 (q_ret (q_callTy c_tuple (by rfl) m_tuple boot_tuple (q_cons (q_var 1) q_nil))))))) k_bits_of
theorem ok_is_row_of {f : Addr} {fd : FuncData} (F : FnP K "is_row_of" s_is_row_of f fd) {f_is_ascending_below : Addr} {fd_is_ascending_below : FuncData} (T_is_ascending_below : FT P w K mg base "is_ascending_below" 4 ["value", "many"] sp_is_ascending_below f_is_ascending_below fd_is_ascending_below) : FnOk P w K mg base (L2.CX P w) 5 f fd ["m", "told"] (LP K mg 2 sp_is_row_of) := def_ok F sc_is_row_of (fun cdv A outer s H E hr => by
  have nd := sc_is_row_of.nd
  have hu := hr.units
  have hp := own_cx (P := P) (w := w) (K := K) (mg := mg) (base := base) (N := ["m", "told"]) (qual := "is_row_of") (scope := defScope s_is_row_of) (f := f) (cd := cdv) (A := A) (outer := outer) (s := s) (H := H) (E := E)
  have hx := pass_cx (P := P) (w := w) (K := K) (mg := mg) (base := base) (N := ["m", "told"]) (qual := "is_row_of") (scope := defScope s_is_row_of) (f := f) (cd := cdv) (A := A) (outer := outer) (s := s) (H := H) (E := E)
  exact (q_one1 (q_ret (q_andV (q_call T_is_ascending_below.ok (hr.mono (by decide)) (by rfl) T_is_ascending_below.hm T_is_ascending_below.hk T_is_ascending_below.hb hx (q_cons (q_var 1) (q_cons (q_var 0) q_nil))) (q_one (q_cmp (o_ne hu) (q_var 1) (q_tup q_nil))))))) k_is_row_of
theorem ok_is_book {f : Addr} {fd : FuncData} (F : FnP K "is_book" s_is_book f fd) {f_is_pair : Addr} {fd_is_pair : FuncData} (T_is_pair : FT P w K mg base "is_pair" 1 ["value"] sp_is_pair f_is_pair fd_is_pair) {f_is_integer : Addr} {fd_is_integer : FuncData} (T_is_integer : FT P w K mg base "is_integer" 1 ["value"] sp_is_integer f_is_integer fd_is_integer) {f_is_row_of : Addr} {fd_is_row_of : FuncData} (T_is_row_of : FT P w K mg base "is_row_of" 5 ["m", "told"] sp_is_row_of f_is_row_of fd_is_row_of) (m_isinstance : mg "isinstance" = none) (m_tuple : mg "tuple" = none) (m_all : mg "all" = none) : FnOk P w K mg base (L2.CX P w) 6 f fd ["told"] (LP K mg 1 sp_is_book) := def_ok F sc_is_book (fun cdv A outer s H E hr => by
  have nd := sc_is_book.nd
  have hu := hr.units
  have hp := own_cx (P := P) (w := w) (K := K) (mg := mg) (base := base) (N := ["told", "row"]) (qual := "is_book") (scope := defScope s_is_book) (f := f) (cd := cdv) (A := A) (outer := outer) (s := s) (H := H) (E := E)
  have hx := pass_cx (P := P) (w := w) (K := K) (mg := mg) (base := base) (N := ["told", "row"]) (qual := "is_book") (scope := defScope s_is_book) (f := f) (cd := cdv) (A := A) (outer := outer) (s := s) (H := H) (E := E)
  exact (q_scons (q_if (q_w (q_or (q_not (q_tval (q_call T_is_pair.ok (hr.mono (by decide)) (by rfl) T_is_pair.hm T_is_pair.hk T_is_pair.hb hx (q_cons (q_var 0) q_nil)))) (q_or (q_not (q_tval (q_call T_is_integer.ok (hr.mono (by decide)) (by rfl) T_is_integer.hm T_is_integer.hk T_is_integer.hb hx (q_cons (q_ix (q_var 0) q_int) q_nil)))) (q_or (q_tcmp o_lt (q_ix (q_var 0) q_int) q_int) (q_or1 (q_not (q_tval (q_isi .tuple (by decide) (q_ix (q_var 0) q_int) (by rfl) m_isinstance (by rfl) m_tuple (by decide +kernel))))))))) (q_one1 (q_ret q_bl)) q_snil) (q_one1 (q_ret (q_callB (c_all rfl) (by rfl) m_all boot_all (q_cons (q_lc (own := [("row", 1)]) rfl nd (q_iSq (q_ix (q_var 0) q_int)) (blkOk_by (by kernel_rfl)) (fun _ _ _ _ _ => (q_gnm (i := 1) nd)) (fun _ _ _ _ _ => q_tnil) (fun _ _ _ _ _ => (q_call T_is_row_of.ok (hr.mono (by decide)) (by rfl) T_is_row_of.hm T_is_row_of.hk T_is_row_of.hb passE0 (q_cons (q_ix (q_var 0) q_int) (q_cons (q_var 1) q_nil))))) q_nil)))))) k_is_book
theorem ok_check_book {f : Addr} {fd : FuncData} (F : FnP K "check_book" s_check_book f fd) {f_is_book : Addr} {fd_is_book : FuncData} (T_is_book : FT P w K mg base "is_book" 6 ["told"] sp_is_book f_is_book fd_is_book) {fd_init : FuncData} (hI : IniT P w K mg base fd_init) (x_InvalidBook : exB K "InvalidBook" = true) (c_InvalidBook : mg "InvalidBook" = some (.ref (He.ga K "InvalidBook"))) : FnOk P w K mg base (L2.CX P w) 7 f fd ["book"] (LP K mg 1 sp_check_book) := def_ok F sc_check_book (fun cdv A outer s H E hr => by
  have nd := sc_check_book.nd
  have hu := hr.units
  have hp := own_cx (P := P) (w := w) (K := K) (mg := mg) (base := base) (N := ["book"]) (qual := "check_book") (scope := defScope s_check_book) (f := f) (cd := cdv) (A := A) (outer := outer) (s := s) (H := H) (E := E)
  have hx := pass_cx (P := P) (w := w) (K := K) (mg := mg) (base := base) (N := ["book"]) (qual := "check_book") (scope := defScope s_check_book) (f := f) (cd := cdv) (A := A) (outer := outer) (s := s) (H := H) (E := E)
  have ht := takes_cx (P := P) (w := w) (K := K) (mg := mg) (base := base) (N := ["book"]) (qual := "check_book") (scope := defScope s_check_book) (f := f) (cd := cdv) (A := A) (outer := outer) (s := s) (H := H) (E := E)
  exact (q_one1 (q_if (q_not (q_tval (q_call T_is_book.ok (hr.mono (by decide)) (by rfl) T_is_book.hm T_is_book.hk T_is_book.hb hx (q_cons (q_var 0) q_nil)))) (q_one1 (q_raise rfl hI (hr.mono (by decide)) ht x_InvalidBook c_InvalidBook (q_cons (q_var 0) q_nil))) q_snil))) k_check_book
theorem ok_check_cells {f : Addr} {fd : FuncData} (F : FnP K "check_cells" s_check_cells f fd) {f_is_row_or_list : Addr} {fd_is_row_or_list : FuncData} (T_is_row_or_list : FT P w K mg base "is_row_or_list" 1 ["value"] sp_is_row_or_list f_is_row_or_list fd_is_row_or_list) {f_is_below : Addr} {fd_is_below : FuncData} (T_is_below : FT P w K mg base "is_below" 3 ["value", "many"] sp_is_below f_is_below fd_is_below) (m_len : mg "len" = none) (m_all : mg "all" = none) {fd_init : FuncData} (hI : IniT P w K mg base fd_init) (x_InvalidRow : exB K "InvalidRow" = true) (c_InvalidRow : mg "InvalidRow" = some (.ref (He.ga K "InvalidRow"))) : FnOk P w K mg base (L2.CX P w) 4 f fd ["m", "row"] (LP K mg 2 sp_check_cells) := def_ok F sc_check_cells (fun cdv A outer s H E hr => by
  have nd := sc_check_cells.nd
  have hu := hr.units
  have hp := own_cx (P := P) (w := w) (K := K) (mg := mg) (base := base) (N := ["m", "row", "cell"]) (qual := "check_cells") (scope := defScope s_check_cells) (f := f) (cd := cdv) (A := A) (outer := outer) (s := s) (H := H) (E := E)
  have hx := pass_cx (P := P) (w := w) (K := K) (mg := mg) (base := base) (N := ["m", "row", "cell"]) (qual := "check_cells") (scope := defScope s_check_cells) (f := f) (cd := cdv) (A := A) (outer := outer) (s := s) (H := H) (E := E)
  have ht := takes_cx (P := P) (w := w) (K := K) (mg := mg) (base := base) (N := ["m", "row", "cell"]) (qual := "check_cells") (scope := defScope s_check_cells) (f := f) (cd := cdv) (A := A) (outer := outer) (s := s) (H := H) (E := E)
  exact (q_one1 (q_if (q_w (q_or (q_not (q_tval (q_call T_is_row_or_list.ok (hr.mono (by decide)) (by rfl) T_is_row_or_list.hm T_is_row_or_list.hk T_is_row_or_list.hb hx (q_cons (q_var 1) q_nil)))) (q_or (q_tcmp (o_eq hu) (q_callB c_len (by rfl) m_len boot_len (q_cons (q_var 1) q_nil)) q_int) (q_or1 (q_not (q_tval (q_callB (c_all rfl) (by rfl) m_all boot_all (q_cons (q_lc (own := [("cell", 2)]) rfl nd (q_iSq (q_var 1)) (blkOk_by (by kernel_rfl)) (fun _ _ _ _ _ => (q_gnm (i := 2) nd)) (fun _ _ _ _ _ => q_tnil) (fun _ _ _ _ _ => (q_call T_is_below.ok (hr.mono (by decide)) (by rfl) T_is_below.hm T_is_below.hk T_is_below.hb passE0 (q_cons (q_var 2) (q_cons (q_var 0) q_nil))))) q_nil)))))))) (q_one1 (q_raise rfl hI (hr.mono (by decide)) ht x_InvalidRow c_InvalidRow (q_cons (q_var 1) q_nil))) q_snil))) k_check_cells
theorem ok_check_key {f : Addr} {fd : FuncData} (F : FnP K "check_key" s_check_key f fd) {f_is_below : Addr} {fd_is_below : FuncData} (T_is_below : FT P w K mg base "is_below" 3 ["value", "many"] sp_is_below f_is_below fd_is_below) (m_len : mg "len" = none) {fd_init : FuncData} (hI : IniT P w K mg base fd_init) (x_InvalidKey : exB K "InvalidKey" = true) (c_InvalidKey : mg "InvalidKey" = some (.ref (He.ga K "InvalidKey"))) : FnOk P w K mg base (L2.CX P w) 4 f fd ["book", "key"] (LP K mg 2 sp_check_key) := def_ok F sc_check_key (fun cdv A outer s H E hr => by
  have nd := sc_check_key.nd
  have hu := hr.units
  have hp := own_cx (P := P) (w := w) (K := K) (mg := mg) (base := base) (N := ["book", "key"]) (qual := "check_key") (scope := defScope s_check_key) (f := f) (cd := cdv) (A := A) (outer := outer) (s := s) (H := H) (E := E)
  have hx := pass_cx (P := P) (w := w) (K := K) (mg := mg) (base := base) (N := ["book", "key"]) (qual := "check_key") (scope := defScope s_check_key) (f := f) (cd := cdv) (A := A) (outer := outer) (s := s) (H := H) (E := E)
  have ht := takes_cx (P := P) (w := w) (K := K) (mg := mg) (base := base) (N := ["book", "key"]) (qual := "check_key") (scope := defScope s_check_key) (f := f) (cd := cdv) (A := A) (outer := outer) (s := s) (H := H) (E := E)
  exact (q_one1 (q_if (q_not (q_tval (q_call T_is_below.ok (hr.mono (by decide)) (by rfl) T_is_below.hm T_is_below.hk T_is_below.hb hx (q_cons (q_var 1) (q_cons (q_callB c_len (by rfl) m_len boot_len (q_cons (q_ix (q_var 0) q_int) q_nil)) q_nil))))) (q_one1 (q_raise rfl hI (hr.mono (by decide)) ht x_InvalidKey c_InvalidKey (q_cons (q_var 1) q_nil))) q_snil))) k_check_key
theorem ok_check_cell {f : Addr} {fd : FuncData} (F : FnP K "check_cell" s_check_cell f fd) {f_is_below : Addr} {fd_is_below : FuncData} (T_is_below : FT P w K mg base "is_below" 3 ["value", "many"] sp_is_below f_is_below fd_is_below) {fd_init : FuncData} (hI : IniT P w K mg base fd_init) (x_InvalidCell : exB K "InvalidCell" = true) (c_InvalidCell : mg "InvalidCell" = some (.ref (He.ga K "InvalidCell"))) : FnOk P w K mg base (L2.CX P w) 4 f fd ["book", "cell"] (LP K mg 2 sp_check_cell) := def_ok F sc_check_cell (fun cdv A outer s H E hr => by
  have nd := sc_check_cell.nd
  have hu := hr.units
  have hp := own_cx (P := P) (w := w) (K := K) (mg := mg) (base := base) (N := ["book", "cell"]) (qual := "check_cell") (scope := defScope s_check_cell) (f := f) (cd := cdv) (A := A) (outer := outer) (s := s) (H := H) (E := E)
  have hx := pass_cx (P := P) (w := w) (K := K) (mg := mg) (base := base) (N := ["book", "cell"]) (qual := "check_cell") (scope := defScope s_check_cell) (f := f) (cd := cdv) (A := A) (outer := outer) (s := s) (H := H) (E := E)
  have ht := takes_cx (P := P) (w := w) (K := K) (mg := mg) (base := base) (N := ["book", "cell"]) (qual := "check_cell") (scope := defScope s_check_cell) (f := f) (cd := cdv) (A := A) (outer := outer) (s := s) (H := H) (E := E)
  exact (q_one1 (q_if (q_not (q_tval (q_call T_is_below.ok (hr.mono (by decide)) (by rfl) T_is_below.hm T_is_below.hk T_is_below.hb hx (q_cons (q_var 1) (q_cons (q_ix (q_var 0) q_int) q_nil))))) (q_one1 (q_raise rfl hI (hr.mono (by decide)) ht x_InvalidCell c_InvalidCell (q_cons (q_var 1) q_nil))) q_snil))) k_check_cell
theorem ok_is_lot_of {f : Addr} {fd : FuncData} (F : FnP K "is_lot_of" s_is_lot_of f fd) {f_is_ascending_below : Addr} {fd_is_ascending_below : FuncData} (T_is_ascending_below : FT P w K mg base "is_ascending_below" 4 ["value", "many"] sp_is_ascending_below f_is_ascending_below fd_is_ascending_below) (m_len : mg "len" = none) : FnOk P w K mg base (L2.CX P w) 5 f fd ["book", "told"] (LP K mg 2 sp_is_lot_of) := def_ok F sc_is_lot_of (fun cdv A outer s H E hr => by
  have nd := sc_is_lot_of.nd
  have hu := hr.units
  have hp := own_cx (P := P) (w := w) (K := K) (mg := mg) (base := base) (N := ["book", "told"]) (qual := "is_lot_of") (scope := defScope s_is_lot_of) (f := f) (cd := cdv) (A := A) (outer := outer) (s := s) (H := H) (E := E)
  have hx := pass_cx (P := P) (w := w) (K := K) (mg := mg) (base := base) (N := ["book", "told"]) (qual := "is_lot_of") (scope := defScope s_is_lot_of) (f := f) (cd := cdv) (A := A) (outer := outer) (s := s) (H := H) (E := E)
  exact (q_one1 (q_ret (q_call T_is_ascending_below.ok (hr.mono (by decide)) (by rfl) T_is_ascending_below.hm T_is_ascending_below.hk T_is_ascending_below.hb hx (q_cons (q_var 1) (q_cons (q_callB c_len (by rfl) m_len boot_len (q_cons (q_ix (q_var 0) q_int) q_nil)) q_nil)))))) k_is_lot_of
theorem ok_check_lot {f : Addr} {fd : FuncData} (F : FnP K "check_lot" s_check_lot f fd) {f_is_lot_of : Addr} {fd_is_lot_of : FuncData} (T_is_lot_of : FT P w K mg base "is_lot_of" 5 ["book", "told"] sp_is_lot_of f_is_lot_of fd_is_lot_of) {fd_init : FuncData} (hI : IniT P w K mg base fd_init) (x_InvalidLot : exB K "InvalidLot" = true) (c_InvalidLot : mg "InvalidLot" = some (.ref (He.ga K "InvalidLot"))) : FnOk P w K mg base (L2.CX P w) 6 f fd ["book", "lot"] (LP K mg 2 sp_check_lot) := def_ok F sc_check_lot (fun cdv A outer s H E hr => by
  have nd := sc_check_lot.nd
  have hu := hr.units
  have hp := own_cx (P := P) (w := w) (K := K) (mg := mg) (base := base) (N := ["book", "lot"]) (qual := "check_lot") (scope := defScope s_check_lot) (f := f) (cd := cdv) (A := A) (outer := outer) (s := s) (H := H) (E := E)
  have hx := pass_cx (P := P) (w := w) (K := K) (mg := mg) (base := base) (N := ["book", "lot"]) (qual := "check_lot") (scope := defScope s_check_lot) (f := f) (cd := cdv) (A := A) (outer := outer) (s := s) (H := H) (E := E)
  have ht := takes_cx (P := P) (w := w) (K := K) (mg := mg) (base := base) (N := ["book", "lot"]) (qual := "check_lot") (scope := defScope s_check_lot) (f := f) (cd := cdv) (A := A) (outer := outer) (s := s) (H := H) (E := E)
  exact (q_one1 (q_if (q_not (q_tval (q_call T_is_lot_of.ok (hr.mono (by decide)) (by rfl) T_is_lot_of.hm T_is_lot_of.hk T_is_lot_of.hb hx (q_cons (q_var 0) (q_cons (q_var 1) q_nil))))) (q_one1 (q_raise rfl hI (hr.mono (by decide)) ht x_InvalidLot c_InvalidLot (q_cons (q_var 1) q_nil))) q_snil))) k_check_lot
theorem ok_row_of_cells {f : Addr} {fd : FuncData} (F : FnP K "row_of_cells" s_row_of_cells f fd) (m_tuple : mg "tuple" = none) (m_sorted : mg "sorted" = none) : FnOk P w K mg base (L2.CX P w) 1 f fd ["cells"] (LP K mg 1 sp_row_of_cells) := def_ok F sc_row_of_cells (fun cdv A outer s H E hr => by
  have nd := sc_row_of_cells.nd
  have hu := hr.units
  have hp := own_cx (P := P) (w := w) (K := K) (mg := mg) (base := base) (N := ["cells", "cell"]) (qual := "row_of_cells") (scope := defScope s_row_of_cells) (f := f) (cd := cdv) (A := A) (outer := outer) (s := s) (H := H) (E := E)
  have hx := pass_cx (P := P) (w := w) (K := K) (mg := mg) (base := base) (N := ["cells", "cell"]) (qual := "row_of_cells") (scope := defScope s_row_of_cells) (f := f) (cd := cdv) (A := A) (outer := outer) (s := s) (H := H) (E := E)
  exact (q_one1 (q_ret (q_callTy c_tuple (by rfl) m_tuple boot_tuple (q_cons (q_callB (c_sortedD rfl) (by rfl) m_sorted boot_sorted (q_cons (q_dc (own := [("cell", 1)]) rfl nd (q_iSq (q_var 0)) (blkOk_by (by kernel_rfl)) (fun _ _ _ _ _ => (q_gnm (i := 1) nd)) (fun _ _ _ _ _ => q_tnil) (fun _ _ _ _ _ => (q_var 1)) (fun _ _ _ _ _ => q_bl)) q_nil)) q_nil))))) k_row_of_cells
theorem ok_book {f : Addr} {fd : FuncData} (F : FnP K "book" s_book f fd) {f_is_integer : Addr} {fd_is_integer : FuncData} (T_is_integer : FT P w K mg base "is_integer" 1 ["value"] sp_is_integer f_is_integer fd_is_integer) {f_check_cells : Addr} {fd_check_cells : FuncData} (T_check_cells : FT P w K mg base "check_cells" 4 ["m", "row"] sp_check_cells f_check_cells fd_check_cells) {f_row_of_cells : Addr} {fd_row_of_cells : FuncData} (T_row_of_cells : FT P w K mg base "row_of_cells" 1 ["cells"] sp_row_of_cells f_row_of_cells fd_row_of_cells) (m_tuple : mg "tuple" = none) {fd_init : FuncData} (hI : IniT P w K mg base fd_init) (x_InvalidBook : exB K "InvalidBook" = true) (c_InvalidBook : mg "InvalidBook" = some (.ref (He.ga K "InvalidBook"))) : FnOk P w K mg base (L2.CX P w) 5 f fd ["m", "rows"] (LP K mg 2 sp_book) := def_ok F sc_book (fun cdv A outer s H E hr => by
  have nd := sc_book.nd
  have hu := hr.units
  have hp := own_cx (P := P) (w := w) (K := K) (mg := mg) (base := base) (N := ["m", "rows", "row"]) (qual := "book") (scope := defScope s_book) (f := f) (cd := cdv) (A := A) (outer := outer) (s := s) (H := H) (E := E)
  have hx := pass_cx (P := P) (w := w) (K := K) (mg := mg) (base := base) (N := ["m", "rows", "row"]) (qual := "book") (scope := defScope s_book) (f := f) (cd := cdv) (A := A) (outer := outer) (s := s) (H := H) (E := E)
  have ht := takes_cx (P := P) (w := w) (K := K) (mg := mg) (base := base) (N := ["m", "rows", "row"]) (qual := "book") (scope := defScope s_book) (f := f) (cd := cdv) (A := A) (outer := outer) (s := s) (H := H) (E := E)
  exact (q_scons (q_if (q_w (q_or (q_not (q_tval (q_call T_is_integer.ok (hr.mono (by decide)) (by rfl) T_is_integer.hm T_is_integer.hk T_is_integer.hb hx (q_cons (q_var 0) q_nil)))) (q_or1 (q_tcmp o_lt (q_var 0) q_int)))) (q_one1 (q_raise rfl hI (hr.mono (by decide)) ht x_InvalidBook c_InvalidBook (q_cons (q_var 0) q_nil))) q_snil) (q_scons (q_for hp rfl (q_iSq (q_var 1)) (q_gnm (i := 2) nd) (q_one1 (q_expr (q_call T_check_cells.ok (hr.mono (by decide)) (by rfl) T_check_cells.hm T_check_cells.hk T_check_cells.hb hx (q_cons (q_var 0) (q_cons (q_var 2) q_nil)))))) (q_one1 (q_ret (q_tup (q_cons (q_var 0) (q_cons (q_callTy c_tuple (by rfl) m_tuple boot_tuple (q_cons (q_lc (own := [("row", 2)]) rfl nd (q_iSq (q_var 1)) (blkOk_by (by kernel_rfl)) (fun _ _ _ _ _ => (q_gnm (i := 2) nd)) (fun _ _ _ _ _ => q_tnil) (fun _ _ _ _ _ => (q_call T_row_of_cells.ok (hr.mono (by decide)) (by rfl) T_row_of_cells.hm T_row_of_cells.hk T_row_of_cells.hb passE0 (q_cons (q_var 2) q_nil)))) q_nil)) q_nil)))))))) k_book
theorem ok_with_key {f : Addr} {fd : FuncData} (F : FnP K "with_key" s_with_key f fd) {f_check_book : Addr} {fd_check_book : FuncData} (T_check_book : FT P w K mg base "check_book" 7 ["book"] sp_check_book f_check_book fd_check_book) {f_check_cells : Addr} {fd_check_cells : FuncData} (T_check_cells : FT P w K mg base "check_cells" 4 ["m", "row"] sp_check_cells f_check_cells fd_check_cells) {f_row_of_cells : Addr} {fd_row_of_cells : FuncData} (T_row_of_cells : FT P w K mg base "row_of_cells" 1 ["cells"] sp_row_of_cells f_row_of_cells fd_row_of_cells) : FnOk P w K mg base (L2.CX P w) 8 f fd ["book", "row"] (LP K mg 2 sp_with_key) := def_ok F sc_with_key (fun cdv A outer s H E hr => by
  have nd := sc_with_key.nd
  have hu := hr.units
  have hp := own_cx (P := P) (w := w) (K := K) (mg := mg) (base := base) (N := ["book", "row", "m", "rows"]) (qual := "with_key") (scope := defScope s_with_key) (f := f) (cd := cdv) (A := A) (outer := outer) (s := s) (H := H) (E := E)
  have hx := pass_cx (P := P) (w := w) (K := K) (mg := mg) (base := base) (N := ["book", "row", "m", "rows"]) (qual := "with_key") (scope := defScope s_with_key) (f := f) (cd := cdv) (A := A) (outer := outer) (s := s) (H := H) (E := E)
  exact (q_scons (q_expr (q_call T_check_book.ok (hr.mono (by decide)) (by rfl) T_check_book.hm T_check_book.hk T_check_book.hb hx (q_cons (q_var 0) q_nil))) (q_scons (q_asg (q_var 0) (q_gtp rfl (q_gscons (q_gnm (i := 2) nd) (q_gscons (q_gnm (i := 3) nd) q_gsnil))).p) (q_scons (q_expr (q_call T_check_cells.ok (hr.mono (by decide)) (by rfl) T_check_cells.hm T_check_cells.hk T_check_cells.hb hx (q_cons (q_var 2) (q_cons (q_var 1) q_nil)))) (q_one1 (q_ret (q_tup (q_cons (q_var 2) (q_cons (q_op o_add (q_var 3) (q_tup (q_cons (q_call T_row_of_cells.ok (hr.mono (by decide)) (by rfl) T_row_of_cells.hm T_row_of_cells.hk T_row_of_cells.hb hx (q_cons (q_var 1) q_nil)) q_nil))) q_nil))))))))) k_with_key
theorem ok_without_key {f : Addr} {fd : FuncData} (F : FnP K "without_key" s_without_key f fd) {f_check_book : Addr} {fd_check_book : FuncData} (T_check_book : FT P w K mg base "check_book" 7 ["book"] sp_check_book f_check_book fd_check_book) {f_check_key : Addr} {fd_check_key : FuncData} (T_check_key : FT P w K mg base "check_key" 4 ["book", "key"] sp_check_key f_check_key fd_check_key) : FnOk P w K mg base (L2.CX P w) 8 f fd ["book", "key"] (LP K mg 2 sp_without_key) := def_ok F sc_without_key (fun cdv A outer s H E hr => by
  have nd := sc_without_key.nd
  have hu := hr.units
  have hp := own_cx (P := P) (w := w) (K := K) (mg := mg) (base := base) (N := ["book", "key", "m", "rows"]) (qual := "without_key") (scope := defScope s_without_key) (f := f) (cd := cdv) (A := A) (outer := outer) (s := s) (H := H) (E := E)
  have hx := pass_cx (P := P) (w := w) (K := K) (mg := mg) (base := base) (N := ["book", "key", "m", "rows"]) (qual := "without_key") (scope := defScope s_without_key) (f := f) (cd := cdv) (A := A) (outer := outer) (s := s) (H := H) (E := E)
  exact (q_scons (q_expr (q_call T_check_book.ok (hr.mono (by decide)) (by rfl) T_check_book.hm T_check_book.hk T_check_book.hb hx (q_cons (q_var 0) q_nil))) (q_scons (q_expr (q_call T_check_key.ok (hr.mono (by decide)) (by rfl) T_check_key.hm T_check_key.hk T_check_key.hb hx (q_cons (q_var 0) (q_cons (q_var 1) q_nil)))) (q_scons (q_asg (q_var 0) (q_gtp rfl (q_gscons (q_gnm (i := 2) nd) (q_gscons (q_gnm (i := 3) nd) q_gsnil))).p) (q_one1 (q_ret (q_tup (q_cons (q_var 2) (q_cons (q_op o_add (q_slice (q_var 3) q_noP (q_part (q_var 1))) (q_slice (q_var 3) (q_part (q_op o_add (q_var 1) q_int)) q_noP)) q_nil))))))))) k_without_key
theorem ok_keys_at {f : Addr} {fd : FuncData} (F : FnP K "keys_at" s_keys_at f fd) (m_tuple : mg "tuple" = none) (m_enumerate : mg "enumerate" = none) : FnOk P w K mg base (L2.CX P w) 1 f fd ["book", "cell"] (LP K mg 2 sp_keys_at) := def_ok F sc_keys_at (fun cdv A outer s H E hr => by
  have nd := sc_keys_at.nd
  have hu := hr.units
  have hp := own_cx (P := P) (w := w) (K := K) (mg := mg) (base := base) (N := ["book", "cell", "key", "row"]) (qual := "keys_at") (scope := defScope s_keys_at) (f := f) (cd := cdv) (A := A) (outer := outer) (s := s) (H := H) (E := E)
  have hx := pass_cx (P := P) (w := w) (K := K) (mg := mg) (base := base) (N := ["book", "cell", "key", "row"]) (qual := "keys_at") (scope := defScope s_keys_at) (f := f) (cd := cdv) (A := A) (outer := outer) (s := s) (H := H) (E := E)
  exact (q_one1 (q_ret (q_callTy c_tuple (by rfl) m_tuple boot_tuple (q_cons (q_lc (own := [("key", 2), ("row", 3)]) rfl nd (q_enum (by rfl) m_enumerate (q_cons (q_ix (q_var 0) q_int) q_nil)) (blkOk_by (by kernel_rfl)) (fun _ _ _ _ _ => (q_gtpB rfl (q_gscons (q_gnm (i := 2) nd) (q_gscons (q_gnm (i := 3) nd) q_gsnil)))) (fun _ _ _ _ _ => (q_tone (q_tcmp o_in (q_var 1) (q_var 3)))) (fun _ _ _ _ _ => (q_var 2))) q_nil))))) k_keys_at
theorem ok_keys_of {f : Addr} {fd : FuncData} (F : FnP K "keys_of" s_keys_of f fd) {f_check_book : Addr} {fd_check_book : FuncData} (T_check_book : FT P w K mg base "check_book" 7 ["book"] sp_check_book f_check_book fd_check_book) {f_check_cell : Addr} {fd_check_cell : FuncData} (T_check_cell : FT P w K mg base "check_cell" 4 ["book", "cell"] sp_check_cell f_check_cell fd_check_cell) {f_keys_at : Addr} {fd_keys_at : FuncData} (T_keys_at : FT P w K mg base "keys_at" 1 ["book", "cell"] sp_keys_at f_keys_at fd_keys_at) : FnOk P w K mg base (L2.CX P w) 8 f fd ["book", "cell"] (LP K mg 2 sp_keys_of) := def_ok F sc_keys_of (fun cdv A outer s H E hr => by
  have nd := sc_keys_of.nd
  have hu := hr.units
  have hp := own_cx (P := P) (w := w) (K := K) (mg := mg) (base := base) (N := ["book", "cell"]) (qual := "keys_of") (scope := defScope s_keys_of) (f := f) (cd := cdv) (A := A) (outer := outer) (s := s) (H := H) (E := E)
  have hx := pass_cx (P := P) (w := w) (K := K) (mg := mg) (base := base) (N := ["book", "cell"]) (qual := "keys_of") (scope := defScope s_keys_of) (f := f) (cd := cdv) (A := A) (outer := outer) (s := s) (H := H) (E := E)
  exact (q_scons (q_expr (q_call T_check_book.ok (hr.mono (by decide)) (by rfl) T_check_book.hm T_check_book.hk T_check_book.hb hx (q_cons (q_var 0) q_nil))) (q_scons (q_expr (q_call T_check_cell.ok (hr.mono (by decide)) (by rfl) T_check_cell.hm T_check_cell.hk T_check_cell.hb hx (q_cons (q_var 0) (q_cons (q_var 1) q_nil)))) (q_one1 (q_ret (q_call T_keys_at.ok (hr.mono (by decide)) (by rfl) T_keys_at.hm T_keys_at.hk T_keys_at.hb hx (q_cons (q_var 0) (q_cons (q_var 1) q_nil)))))))) k_keys_of
theorem ok_cells_in {f : Addr} {fd : FuncData} (F : FnP K "cells_in" s_cells_in f fd) {f_row_of_cells : Addr} {fd_row_of_cells : FuncData} (T_row_of_cells : FT P w K mg base "row_of_cells" 1 ["cells"] sp_row_of_cells f_row_of_cells fd_row_of_cells) : FnOk P w K mg base (L2.CX P w) 2 f fd ["book", "lot"] (LP K mg 2 sp_cells_in) := def_ok F sc_cells_in (fun cdv A outer s H E hr => by
  have nd := sc_cells_in.nd
  have hu := hr.units
  have hp := own_cx (P := P) (w := w) (K := K) (mg := mg) (base := base) (N := ["book", "lot", "key", "cell"]) (qual := "cells_in") (scope := defScope s_cells_in) (f := f) (cd := cdv) (A := A) (outer := outer) (s := s) (H := H) (E := E)
  have hx := pass_cx (P := P) (w := w) (K := K) (mg := mg) (base := base) (N := ["book", "lot", "key", "cell"]) (qual := "cells_in") (scope := defScope s_cells_in) (f := f) (cd := cdv) (A := A) (outer := outer) (s := s) (H := H) (E := E)
  exact (q_one1 (q_ret (q_call T_row_of_cells.ok (hr.mono (by decide)) (by rfl) T_row_of_cells.hm T_row_of_cells.hk T_row_of_cells.hb hx (q_cons (q_lc2 (own := [("key", 2), ("cell", 3)]) (vs1 := [3]) rfl nd (q_iSq (q_var 1)) (blkOk_by (by kernel_rfl)) (fun _ _ _ _ _ => (q_gnm (i := 2) nd)) (fun _ _ _ _ _ => q_tnil) (fun _ _ _ _ _ => (q_iSq (q_ix (q_ix (q_var 0) q_int) (q_var 2)))) (fun _ _ _ _ _ => (q_gnm (i := 3) nd)) (fun _ _ _ _ _ => q_tnil) (fun _ _ _ _ _ => (q_var 3))) q_nil))))) k_cells_in
theorem ok_cells_of {f : Addr} {fd : FuncData} (F : FnP K "cells_of" s_cells_of f fd) {f_check_book : Addr} {fd_check_book : FuncData} (T_check_book : FT P w K mg base "check_book" 7 ["book"] sp_check_book f_check_book fd_check_book) {f_check_lot : Addr} {fd_check_lot : FuncData} (T_check_lot : FT P w K mg base "check_lot" 6 ["book", "lot"] sp_check_lot f_check_lot fd_check_lot) {f_cells_in : Addr} {fd_cells_in : FuncData} (T_cells_in : FT P w K mg base "cells_in" 2 ["book", "lot"] sp_cells_in f_cells_in fd_cells_in) : FnOk P w K mg base (L2.CX P w) 8 f fd ["book", "lot"] (LP K mg 2 sp_cells_of) := def_ok F sc_cells_of (fun cdv A outer s H E hr => by
  have nd := sc_cells_of.nd
  have hu := hr.units
  have hp := own_cx (P := P) (w := w) (K := K) (mg := mg) (base := base) (N := ["book", "lot"]) (qual := "cells_of") (scope := defScope s_cells_of) (f := f) (cd := cdv) (A := A) (outer := outer) (s := s) (H := H) (E := E)
  have hx := pass_cx (P := P) (w := w) (K := K) (mg := mg) (base := base) (N := ["book", "lot"]) (qual := "cells_of") (scope := defScope s_cells_of) (f := f) (cd := cdv) (A := A) (outer := outer) (s := s) (H := H) (E := E)
  exact (q_scons (q_expr (q_call T_check_book.ok (hr.mono (by decide)) (by rfl) T_check_book.hm T_check_book.hk T_check_book.hb hx (q_cons (q_var 0) q_nil))) (q_scons (q_expr (q_call T_check_lot.ok (hr.mono (by decide)) (by rfl) T_check_lot.hm T_check_lot.hk T_check_lot.hb hx (q_cons (q_var 0) (q_cons (q_var 1) q_nil)))) (q_one1 (q_ret (q_call T_cells_in.ok (hr.mono (by decide)) (by rfl) T_cells_in.hm T_cells_in.hk T_cells_in.hb hx (q_cons (q_var 0) (q_cons (q_var 1) q_nil)))))))) k_cells_of
theorem ok_part_of {f : Addr} {fd : FuncData} (F : FnP K "part_of" s_part_of f fd) (m_tuple : mg "tuple" = none) : FnOk P w K mg base (L2.CX P w) 1 f fd ["book", "lot"] (LP K mg 2 sp_part_of) := def_ok F sc_part_of (fun cdv A outer s H E hr => by
  have nd := sc_part_of.nd
  have hu := hr.units
  have hp := own_cx (P := P) (w := w) (K := K) (mg := mg) (base := base) (N := ["book", "lot", "key"]) (qual := "part_of") (scope := defScope s_part_of) (f := f) (cd := cdv) (A := A) (outer := outer) (s := s) (H := H) (E := E)
  have hx := pass_cx (P := P) (w := w) (K := K) (mg := mg) (base := base) (N := ["book", "lot", "key"]) (qual := "part_of") (scope := defScope s_part_of) (f := f) (cd := cdv) (A := A) (outer := outer) (s := s) (H := H) (E := E)
  exact (q_one1 (q_ret (q_tup (q_cons (q_ix (q_var 0) q_int) (q_cons (q_callTy c_tuple (by rfl) m_tuple boot_tuple (q_cons (q_lc (own := [("key", 2)]) rfl nd (q_iSq (q_var 1)) (blkOk_by (by kernel_rfl)) (fun _ _ _ _ _ => (q_gnm (i := 2) nd)) (fun _ _ _ _ _ => q_tnil) (fun _ _ _ _ _ => (q_ix (q_ix (q_var 0) q_int) (q_var 2)))) q_nil)) q_nil)))))) k_part_of
theorem ok_part {f : Addr} {fd : FuncData} (F : FnP K "part" s_part f fd) {f_check_book : Addr} {fd_check_book : FuncData} (T_check_book : FT P w K mg base "check_book" 7 ["book"] sp_check_book f_check_book fd_check_book) {f_check_lot : Addr} {fd_check_lot : FuncData} (T_check_lot : FT P w K mg base "check_lot" 6 ["book", "lot"] sp_check_lot f_check_lot fd_check_lot) {f_part_of : Addr} {fd_part_of : FuncData} (T_part_of : FT P w K mg base "part_of" 1 ["book", "lot"] sp_part_of f_part_of fd_part_of) : FnOk P w K mg base (L2.CX P w) 8 f fd ["book", "lot"] (LP K mg 2 sp_part) := def_ok F sc_part (fun cdv A outer s H E hr => by
  have nd := sc_part.nd
  have hu := hr.units
  have hp := own_cx (P := P) (w := w) (K := K) (mg := mg) (base := base) (N := ["book", "lot"]) (qual := "part") (scope := defScope s_part) (f := f) (cd := cdv) (A := A) (outer := outer) (s := s) (H := H) (E := E)
  have hx := pass_cx (P := P) (w := w) (K := K) (mg := mg) (base := base) (N := ["book", "lot"]) (qual := "part") (scope := defScope s_part) (f := f) (cd := cdv) (A := A) (outer := outer) (s := s) (H := H) (E := E)
  exact (q_scons (q_expr (q_call T_check_book.ok (hr.mono (by decide)) (by rfl) T_check_book.hm T_check_book.hk T_check_book.hb hx (q_cons (q_var 0) q_nil))) (q_scons (q_expr (q_call T_check_lot.ok (hr.mono (by decide)) (by rfl) T_check_lot.hm T_check_lot.hk T_check_lot.hb hx (q_cons (q_var 0) (q_cons (q_var 1) q_nil)))) (q_one1 (q_ret (q_call T_part_of.ok (hr.mono (by decide)) (by rfl) T_part_of.hm T_part_of.hk T_part_of.hb hx (q_cons (q_var 0) (q_cons (q_var 1) q_nil)))))))) k_part
theorem ok_check_word {f : Addr} {fd : FuncData} (F : FnP K "check_word" s_check_word f fd) {f_is_natural : Addr} {fd_is_natural : FuncData} (T_is_natural : FT P w K mg base "is_natural" 2 ["value"] sp_is_natural f_is_natural fd_is_natural) {fd_init : FuncData} (hI : IniT P w K mg base fd_init) (x_InvalidWord : exB K "InvalidWord" = true) (c_InvalidWord : mg "InvalidWord" = some (.ref (He.ga K "InvalidWord"))) : FnOk P w K mg base (L2.CX P w) 3 f fd ["a"] (LP K mg 1 sp_check_word) := def_ok F sc_check_word (fun cdv A outer s H E hr => by
  have nd := sc_check_word.nd
  have hu := hr.units
  have hp := own_cx (P := P) (w := w) (K := K) (mg := mg) (base := base) (N := ["a"]) (qual := "check_word") (scope := defScope s_check_word) (f := f) (cd := cdv) (A := A) (outer := outer) (s := s) (H := H) (E := E)
  have hx := pass_cx (P := P) (w := w) (K := K) (mg := mg) (base := base) (N := ["a"]) (qual := "check_word") (scope := defScope s_check_word) (f := f) (cd := cdv) (A := A) (outer := outer) (s := s) (H := H) (E := E)
  have ht := takes_cx (P := P) (w := w) (K := K) (mg := mg) (base := base) (N := ["a"]) (qual := "check_word") (scope := defScope s_check_word) (f := f) (cd := cdv) (A := A) (outer := outer) (s := s) (H := H) (E := E)
  exact (q_one1 (q_if (q_not (q_tval (q_call T_is_natural.ok (hr.mono (by decide)) (by rfl) T_is_natural.hm T_is_natural.hk T_is_natural.hb hx (q_cons (q_var 0) q_nil)))) (q_one1 (q_raise rfl hI (hr.mono (by decide)) ht x_InvalidWord c_InvalidWord (q_cons (q_var 0) q_nil))) q_snil))) k_check_word
theorem ok_check_wide {f : Addr} {fd : FuncData} (F : FnP K "check_wide" s_check_wide f fd) {f_is_integer : Addr} {fd_is_integer : FuncData} (T_is_integer : FT P w K mg base "is_integer" 1 ["value"] sp_is_integer f_is_integer fd_is_integer) {fd_init : FuncData} (hI : IniT P w K mg base fd_init) (x_InvalidNumber : exB K "InvalidNumber" = true) (c_InvalidNumber : mg "InvalidNumber" = some (.ref (He.ga K "InvalidNumber"))) : FnOk P w K mg base (L2.CX P w) 3 f fd ["w"] (LP K mg 1 sp_check_wide) := def_ok F sc_check_wide (fun cdv A outer s H E hr => by
  have nd := sc_check_wide.nd
  have hu := hr.units
  have hp := own_cx (P := P) (w := w) (K := K) (mg := mg) (base := base) (N := ["w"]) (qual := "check_wide") (scope := defScope s_check_wide) (f := f) (cd := cdv) (A := A) (outer := outer) (s := s) (H := H) (E := E)
  have hx := pass_cx (P := P) (w := w) (K := K) (mg := mg) (base := base) (N := ["w"]) (qual := "check_wide") (scope := defScope s_check_wide) (f := f) (cd := cdv) (A := A) (outer := outer) (s := s) (H := H) (E := E)
  have ht := takes_cx (P := P) (w := w) (K := K) (mg := mg) (base := base) (N := ["w"]) (qual := "check_wide") (scope := defScope s_check_wide) (f := f) (cd := cdv) (A := A) (outer := outer) (s := s) (H := H) (E := E)
  exact (q_one1 (q_if (q_w (q_or (q_not (q_tval (q_call T_is_integer.ok (hr.mono (by decide)) (by rfl) T_is_integer.hm T_is_integer.hk T_is_integer.hb hx (q_cons (q_var 0) q_nil)))) (q_or1 (q_tcmp o_lt (q_var 0) q_int)))) (q_one1 (q_raise rfl hI (hr.mono (by decide)) ht x_InvalidNumber c_InvalidNumber (q_cons (q_var 0) q_nil))) q_snil))) k_check_wide
theorem ok_added {f : Addr} {fd : FuncData} (F : FnP K "added" s_added f fd) {f_check_word : Addr} {fd_check_word : FuncData} (T_check_word : FT P w K mg base "check_word" 3 ["a"] sp_check_word f_check_word fd_check_word) : FnOk P w K mg base (L2.CX P w) 4 f fd ["a", "b"] (LP K mg 2 sp_added) := def_ok F sc_added (fun cdv A outer s H E hr => by
  have nd := sc_added.nd
  have hu := hr.units
  have hp := own_cx (P := P) (w := w) (K := K) (mg := mg) (base := base) (N := ["a", "b"]) (qual := "added") (scope := defScope s_added) (f := f) (cd := cdv) (A := A) (outer := outer) (s := s) (H := H) (E := E)
  have hx := pass_cx (P := P) (w := w) (K := K) (mg := mg) (base := base) (N := ["a", "b"]) (qual := "added") (scope := defScope s_added) (f := f) (cd := cdv) (A := A) (outer := outer) (s := s) (H := H) (E := E)
  exact (q_scons (q_expr (q_call T_check_word.ok (hr.mono (by decide)) (by rfl) T_check_word.hm T_check_word.hk T_check_word.hb hx (q_cons (q_var 0) q_nil))) (q_scons (q_expr (q_call T_check_word.ok (hr.mono (by decide)) (by rfl) T_check_word.hm T_check_word.hk T_check_word.hb hx (q_cons (q_var 1) q_nil))) (q_one1 (q_ret (q_op o_xor (q_var 0) (q_var 1))))))) k_added
theorem ok_added_all {f : Addr} {fd : FuncData} (F : FnP K "added_all" s_added_all f fd) {f_is_row_or_list : Addr} {fd_is_row_or_list : FuncData} (T_is_row_or_list : FT P w K mg base "is_row_or_list" 1 ["value"] sp_is_row_or_list f_is_row_or_list fd_is_row_or_list) {f_is_natural : Addr} {fd_is_natural : FuncData} (T_is_natural : FT P w K mg base "is_natural" 2 ["value"] sp_is_natural f_is_natural fd_is_natural) {f_sum_of_words : Addr} {fd_sum_of_words : FuncData} (T_sum_of_words : FT P w K mg base "sum_of_words" 1 ["words"] sp_sum_of_words f_sum_of_words fd_sum_of_words) (m_all : mg "all" = none) {fd_init : FuncData} (hI : IniT P w K mg base fd_init) (x_InvalidWord : exB K "InvalidWord" = true) (c_InvalidWord : mg "InvalidWord" = some (.ref (He.ga K "InvalidWord"))) : FnOk P w K mg base (L2.CX P w) 3 f fd ["some"] (LP K mg 1 sp_added_all) := def_ok F sc_added_all (fun cdv A outer s H E hr => by
  have nd := sc_added_all.nd
  have hu := hr.units
  have hp := own_cx (P := P) (w := w) (K := K) (mg := mg) (base := base) (N := ["some", "a"]) (qual := "added_all") (scope := defScope s_added_all) (f := f) (cd := cdv) (A := A) (outer := outer) (s := s) (H := H) (E := E)
  have hx := pass_cx (P := P) (w := w) (K := K) (mg := mg) (base := base) (N := ["some", "a"]) (qual := "added_all") (scope := defScope s_added_all) (f := f) (cd := cdv) (A := A) (outer := outer) (s := s) (H := H) (E := E)
  have ht := takes_cx (P := P) (w := w) (K := K) (mg := mg) (base := base) (N := ["some", "a"]) (qual := "added_all") (scope := defScope s_added_all) (f := f) (cd := cdv) (A := A) (outer := outer) (s := s) (H := H) (E := E)
  exact (q_scons (q_if (q_w (q_or (q_not (q_tval (q_call T_is_row_or_list.ok (hr.mono (by decide)) (by rfl) T_is_row_or_list.hm T_is_row_or_list.hk T_is_row_or_list.hb hx (q_cons (q_var 0) q_nil)))) (q_or1 (q_not (q_tval (q_callB (c_all rfl) (by rfl) m_all boot_all (q_cons (q_lc (own := [("a", 1)]) rfl nd (q_iSq (q_var 0)) (blkOk_by (by kernel_rfl)) (fun _ _ _ _ _ => (q_gnm (i := 1) nd)) (fun _ _ _ _ _ => q_tnil) (fun _ _ _ _ _ => (q_call T_is_natural.ok (hr.mono (by decide)) (by rfl) T_is_natural.hm T_is_natural.hk T_is_natural.hb passE0 (q_cons (q_var 1) q_nil)))) q_nil))))))) (q_one1 (q_raise rfl hI (hr.mono (by decide)) ht x_InvalidWord c_InvalidWord (q_cons (q_var 0) q_nil))) q_snil) (q_one1 (q_ret (q_call T_sum_of_words.ok (hr.mono (by decide)) (by rfl) T_sum_of_words.hm T_sum_of_words.hk T_sum_of_words.hb hx (q_cons (q_var 0) q_nil)))))) k_added_all
theorem ok_bits {f : Addr} {fd : FuncData} (F : FnP K "bits" s_bits f fd) {f_check_word : Addr} {fd_check_word : FuncData} (T_check_word : FT P w K mg base "check_word" 3 ["a"] sp_check_word f_check_word fd_check_word) {f_bits_of : Addr} {fd_bits_of : FuncData} (T_bits_of : FT P w K mg base "bits_of" 1 ["a"] sp_bits_of f_bits_of fd_bits_of) : FnOk P w K mg base (L2.CX P w) 4 f fd ["a"] (LP K mg 1 sp_bits) := def_ok F sc_bits (fun cdv A outer s H E hr => by
  have nd := sc_bits.nd
  have hu := hr.units
  have hp := own_cx (P := P) (w := w) (K := K) (mg := mg) (base := base) (N := ["a"]) (qual := "bits") (scope := defScope s_bits) (f := f) (cd := cdv) (A := A) (outer := outer) (s := s) (H := H) (E := E)
  have hx := pass_cx (P := P) (w := w) (K := K) (mg := mg) (base := base) (N := ["a"]) (qual := "bits") (scope := defScope s_bits) (f := f) (cd := cdv) (A := A) (outer := outer) (s := s) (H := H) (E := E)
  exact (q_scons (q_expr (q_call T_check_word.ok (hr.mono (by decide)) (by rfl) T_check_word.hm T_check_word.hk T_check_word.hb hx (q_cons (q_var 0) q_nil))) (q_one1 (q_ret (q_call T_bits_of.ok (hr.mono (by decide)) (by rfl) T_bits_of.hm T_bits_of.hk T_bits_of.hb hx (q_cons (q_var 0) q_nil)))))) k_bits
theorem ok_width_of {f : Addr} {fd : FuncData} (F : FnP K "width_of" s_width_of f fd) {f_bits_of : Addr} {fd_bits_of : FuncData} (T_bits_of : FT P w K mg base "bits_of" 1 ["a"] sp_bits_of f_bits_of fd_bits_of) : FnOk P w K mg base (L2.CX P w) 2 f fd ["a"] (LP K mg 1 sp_width_of) := def_ok F sc_width_of (fun cdv A outer s H E hr => by
  have nd := sc_width_of.nd
  have hu := hr.units
  have hp := own_cx (P := P) (w := w) (K := K) (mg := mg) (base := base) (N := ["a", "places"]) (qual := "width_of") (scope := defScope s_width_of) (f := f) (cd := cdv) (A := A) (outer := outer) (s := s) (H := H) (E := E)
  have hx := pass_cx (P := P) (w := w) (K := K) (mg := mg) (base := base) (N := ["a", "places"]) (qual := "width_of") (scope := defScope s_width_of) (f := f) (cd := cdv) (A := A) (outer := outer) (s := s) (H := H) (E := E)
  exact (q_scons (q_set (i := 1) nd (q_call T_bits_of.ok (hr.mono (by decide)) (by rfl) T_bits_of.hm T_bits_of.hk T_bits_of.hb hx (q_cons (q_var 0) q_nil))) (q_one1 (q_ret (q_ifE (q_tcmp (o_ne hu) (q_var 1) (q_tup q_nil)) (q_op o_add (q_ix (q_var 1) (q_un o_neg q_int)) q_int) q_int))))) k_width_of
theorem ok_width {f : Addr} {fd : FuncData} (F : FnP K "width" s_width f fd) {f_check_word : Addr} {fd_check_word : FuncData} (T_check_word : FT P w K mg base "check_word" 3 ["a"] sp_check_word f_check_word fd_check_word) {f_width_of : Addr} {fd_width_of : FuncData} (T_width_of : FT P w K mg base "width_of" 2 ["a"] sp_width_of f_width_of fd_width_of) : FnOk P w K mg base (L2.CX P w) 4 f fd ["a"] (LP K mg 1 sp_width) := def_ok F sc_width (fun cdv A outer s H E hr => by
  have nd := sc_width.nd
  have hu := hr.units
  have hp := own_cx (P := P) (w := w) (K := K) (mg := mg) (base := base) (N := ["a"]) (qual := "width") (scope := defScope s_width) (f := f) (cd := cdv) (A := A) (outer := outer) (s := s) (H := H) (E := E)
  have hx := pass_cx (P := P) (w := w) (K := K) (mg := mg) (base := base) (N := ["a"]) (qual := "width") (scope := defScope s_width) (f := f) (cd := cdv) (A := A) (outer := outer) (s := s) (H := H) (E := E)
  exact (q_scons (q_expr (q_call T_check_word.ok (hr.mono (by decide)) (by rfl) T_check_word.hm T_check_word.hk T_check_word.hb hx (q_cons (q_var 0) q_nil))) (q_one1 (q_ret (q_call T_width_of.ok (hr.mono (by decide)) (by rfl) T_width_of.hm T_width_of.hk T_width_of.hb hx (q_cons (q_var 0) q_nil)))))) k_width
theorem ok_is_word_of {f : Addr} {fd : FuncData} (F : FnP K "is_word_of" s_is_word_of f fd) {f_is_natural : Addr} {fd_is_natural : FuncData} (T_is_natural : FT P w K mg base "is_natural" 2 ["value"] sp_is_natural f_is_natural fd_is_natural) {f_width_of : Addr} {fd_width_of : FuncData} (T_width_of : FT P w K mg base "width_of" 2 ["a"] sp_width_of f_width_of fd_width_of) : FnOk P w K mg base (L2.CX P w) 3 f fd ["w", "told"] (LP K mg 2 sp_is_word_of) := def_ok F sc_is_word_of (fun cdv A outer s H E hr => by
  have nd := sc_is_word_of.nd
  have hu := hr.units
  have hp := own_cx (P := P) (w := w) (K := K) (mg := mg) (base := base) (N := ["w", "told"]) (qual := "is_word_of") (scope := defScope s_is_word_of) (f := f) (cd := cdv) (A := A) (outer := outer) (s := s) (H := H) (E := E)
  have hx := pass_cx (P := P) (w := w) (K := K) (mg := mg) (base := base) (N := ["w", "told"]) (qual := "is_word_of") (scope := defScope s_is_word_of) (f := f) (cd := cdv) (A := A) (outer := outer) (s := s) (H := H) (E := E)
  exact (q_one1 (q_ret (q_andV (q_call T_is_natural.ok (hr.mono (by decide)) (by rfl) T_is_natural.hm T_is_natural.hk T_is_natural.hb hx (q_cons (q_var 1) q_nil)) (q_one (q_cmp o_le (q_call T_width_of.ok (hr.mono (by decide)) (by rfl) T_width_of.hm T_width_of.hk T_width_of.hb hx (q_cons (q_var 1) q_nil)) (q_var 0))))))) k_is_word_of
theorem ok_is_word {f : Addr} {fd : FuncData} (F : FnP K "is_word" s_is_word f fd) {f_check_wide : Addr} {fd_check_wide : FuncData} (T_check_wide : FT P w K mg base "check_wide" 3 ["w"] sp_check_wide f_check_wide fd_check_wide) {f_is_word_of : Addr} {fd_is_word_of : FuncData} (T_is_word_of : FT P w K mg base "is_word_of" 3 ["w", "told"] sp_is_word_of f_is_word_of fd_is_word_of) : FnOk P w K mg base (L2.CX P w) 4 f fd ["w", "told"] (LP K mg 2 sp_is_word) := def_ok F sc_is_word (fun cdv A outer s H E hr => by
  have nd := sc_is_word.nd
  have hu := hr.units
  have hp := own_cx (P := P) (w := w) (K := K) (mg := mg) (base := base) (N := ["w", "told"]) (qual := "is_word") (scope := defScope s_is_word) (f := f) (cd := cdv) (A := A) (outer := outer) (s := s) (H := H) (E := E)
  have hx := pass_cx (P := P) (w := w) (K := K) (mg := mg) (base := base) (N := ["w", "told"]) (qual := "is_word") (scope := defScope s_is_word) (f := f) (cd := cdv) (A := A) (outer := outer) (s := s) (H := H) (E := E)
  exact (q_scons (q_expr (q_call T_check_wide.ok (hr.mono (by decide)) (by rfl) T_check_wide.hm T_check_wide.hk T_check_wide.hb hx (q_cons (q_var 0) q_nil))) (q_one1 (q_ret (q_call T_is_word_of.ok (hr.mono (by decide)) (by rfl) T_is_word_of.hm T_is_word_of.hk T_is_word_of.hb hx (q_cons (q_var 0) (q_cons (q_var 1) q_nil))))))) k_is_word
theorem ok__law_deck {f : Addr} {fd : FuncData} (F : FnP K "_law_deck" s__law_deck f fd) (m_len : mg "len" = none) (m_int : mg "int" = none) : FnOk P w K mg base (L2.CX P w) 1 f fd ["script", "at"] (LP K mg 2 sp__law_deck) := def_ok F sc__law_deck (fun cdv A outer s H E hr => by
  have nd := sc__law_deck.nd
  have hu := hr.units
  have hp := own_cx (P := P) (w := w) (K := K) (mg := mg) (base := base) (N := ["script", "at", "cell", "stir"]) (qual := "_law_deck") (scope := defScope s__law_deck) (f := f) (cd := cdv) (A := A) (outer := outer) (s := s) (H := H) (E := E)
  have hx := pass_cx (P := P) (w := w) (K := K) (mg := mg) (base := base) (N := ["script", "at", "cell", "stir"]) (qual := "_law_deck") (scope := defScope s__law_deck) (f := f) (cd := cdv) (A := A) (outer := outer) (s := s) (H := H) (E := E)
  exact (q_scons (q_set (i := 2) nd q_int) (q_scons (q_if (q_tcmp o_lt (q_var 1) (q_callB c_len (by rfl) m_len boot_len (q_cons (q_var 0) q_nil))) (q_one1 (q_set (i := 2) nd (q_ix (q_var 0) (q_var 1)))) q_snil) (q_scons (q_set (i := 3) nd (q_op o_mod (q_callTy c_int (by rfl) m_int boot_int (q_cons (q_op o_add (q_op o_add (q_var 2) (q_op o_mul q_int (q_var 1))) q_int) q_nil)) q_int)) (q_scons (q_set (i := 3) nd (q_op o_mod (q_callTy c_int (by rfl) m_int boot_int (q_cons (q_op o_add (q_op o_add (q_op o_mul (q_op o_mul (q_var 3) (q_var 3)) (q_var 3)) (q_op o_mul q_int (q_var 1))) q_int) q_nil)) q_int)) (q_scons (q_if (q_tcmp o_lt (q_var 2) (q_op o_pow q_int q_int)) (q_one1 (q_ret (q_lst (q_cons q_int (q_cons (q_var 3) q_nil))))) q_snil) (q_one1 (q_ret (q_lst (q_cons (q_op o_sub (q_var 2) (q_op o_pow q_int q_int)) (q_cons (q_var 3) q_nil))))))))))) k__law_deck
theorem ok__law_take {f : Addr} {fd : FuncData} (F : FnP K "_law_take" s__law_take f fd) (m_int : mg "int" = none) : FnOk P w K mg base (L2.CX P w) 1 f fd ["deck", "many"] (LP K mg 2 sp__law_take) := def_ok F sc__law_take (fun cdv A outer s H E hr => by
  have nd := sc__law_take.nd
  have hu := hr.units
  have hp := own_cx (P := P) (w := w) (K := K) (mg := mg) (base := base) (N := ["deck", "many", "taken"]) (qual := "_law_take") (scope := defScope s__law_take) (f := f) (cd := cdv) (A := A) (outer := outer) (s := s) (H := H) (E := E)
  have hx := pass_cx (P := P) (w := w) (K := K) (mg := mg) (base := base) (N := ["deck", "many", "taken"]) (qual := "_law_take") (scope := defScope s__law_take) (f := f) (cd := cdv) (A := A) (outer := outer) (s := s) (H := H) (E := E)
  exact (q_scons (q_if (q_tcmp o_gt (q_ix (q_var 0) q_int) q_int) (q_scons (q_set (i := 2) nd (q_op o_mod (q_callTy c_int (by rfl) m_int boot_int (q_cons (q_ix (q_var 0) q_int) q_nil)) (q_var 1))) (q_scons (q_asg (q_op o_fdiv (q_ix (q_var 0) q_int) (q_var 1)) (q_gsb (q_var 0) q_int)) (q_one1 (q_ret (q_var 2))))) q_snil) (q_scons (q_asg (q_op o_mod (q_callTy c_int (by rfl) m_int boot_int (q_cons (q_op o_add (q_op o_mul (q_ix (q_var 0) q_int) q_int) q_int) q_nil)) (q_op o_pow q_int q_int)) (q_gsb (q_var 0) q_int)) (q_one1 (q_ret (q_op o_mod (q_op o_fdiv (q_ix (q_var 0) q_int) (q_op o_pow q_int q_int)) (q_var 1))))))) k__law_take
theorem one__law_same {f : Addr} {fd : FuncData} (F : FnP K "_law_same" s__law_same f fd) (m_isinstance : mg "isinstance" = none) (m_tuple : mg "tuple" = none) (m_list : mg "list" = none) (m_len : mg "len" = none) (m_range : mg "range" = none) (m_str : mg "str" = none) (m_bool : mg "bool" = none) (m_int : mg "int" = none) {j : Nat} {r q : SpD} (hj : 0 ≤ j) (T__law_same : FT P w K mg base "_law_same" j ["found", "due"] r f fd) (hk : Keeps 2 3 (t__law_same r) q) : FnOk P w K mg base (L2.CX P w) (j + 1) f fd ["found", "due"] (LP K mg 2 q) := def_ok F sc__law_same (fun cdv A outer s H E hr => by
  have nd := sc__law_same.nd
  have hu := hr.units
  have hp := own_cx (P := P) (w := w) (K := K) (mg := mg) (base := base) (N := ["found", "due", "at"]) (qual := "_law_same") (scope := defScope s__law_same) (f := f) (cd := cdv) (A := A) (outer := outer) (s := s) (H := H) (E := E)
  have hx := pass_cx (P := P) (w := w) (K := K) (mg := mg) (base := base) (N := ["found", "due", "at"]) (qual := "_law_same") (scope := defScope s__law_same) (f := f) (cd := cdv) (A := A) (outer := outer) (s := s) (H := H) (E := E)
  exact (q_scons (q_if (q_tval (q_isi2 .tuple .list (by decide) (by decide) (q_var 1) (by rfl) m_isinstance (by rfl) m_tuple (by decide +kernel) (by rfl) m_list (by decide +kernel))) (q_scons (q_if (q_w (q_or (q_tcmp (o_ne hu) (q_isi .tuple (by decide) (q_var 0) (by rfl) m_isinstance (by rfl) m_tuple (by decide +kernel)) (q_isi .tuple (by decide) (q_var 1) (by rfl) m_isinstance (by rfl) m_tuple (by decide +kernel))) (q_or1 (q_tcmp (o_ne hu) (q_isi .list (by decide) (q_var 0) (by rfl) m_isinstance (by rfl) m_list (by decide +kernel)) (q_isi .list (by decide) (q_var 1) (by rfl) m_isinstance (by rfl) m_list (by decide +kernel)))))) (q_one1 (q_ret q_bl)) q_snil) (q_scons (q_if (q_tcmp (o_ne hu) (q_callB c_len (by rfl) m_len boot_len (q_cons (q_var 0) q_nil)) (q_callB c_len (by rfl) m_len boot_len (q_cons (q_var 1) q_nil))) (q_one1 (q_ret q_bl)) q_snil) (q_one1 (q_ret (q_cmp (o_eq hu) (q_lc (own := [("at", 2)]) rfl nd (q_rg1 (by rfl) m_range (q_cons (q_callB c_len (by rfl) m_len boot_len (q_cons (q_var 1) q_nil)) q_nil)) (blkOk_by (by kernel_rfl)) (fun _ _ _ _ _ => (q_gnm (i := 2) nd)) (fun _ _ _ _ _ => (q_tone (q_not (q_tval (q_call T__law_same.ok (hr.mono (Nat.le_refl _)) (by rfl) T__law_same.hm T__law_same.hk T__law_same.hb passE0 (q_cons (q_ix (q_var 0) (q_var 2)) (q_cons (q_ix (q_var 1) (q_var 2)) q_nil))))))) (fun _ _ _ _ _ => (q_var 2))) (q_lst q_nil)))))) q_snil) (q_scons (q_if (q_tcmp o_is (q_var 1) q_non) (q_one1 (q_ret (q_cmp o_is (q_var 0) q_non))) q_snil) (q_scons (q_if (q_tval (q_isi .str (by decide) (q_var 1) (by rfl) m_isinstance (by rfl) m_str (by decide +kernel))) (q_one1 (q_ret (q_andV (q_isi .str (by decide) (q_var 0) (by rfl) m_isinstance (by rfl) m_str (by decide +kernel)) (q_one (q_cmp (o_eq hu) (q_var 0) (q_var 1)))))) q_snil) (q_scons (q_if (q_w (q_or (q_tval (q_isi .bool (by decide) (q_var 1) (by rfl) m_isinstance (by rfl) m_bool (by decide +kernel))) (q_or1 (q_tval (q_isi .bool (by decide) (q_var 0) (by rfl) m_isinstance (by rfl) m_bool (by decide +kernel)))))) (q_one1 (q_ret (q_andV (q_isi .bool (by decide) (q_var 1) (by rfl) m_isinstance (by rfl) m_bool (by decide +kernel)) (q_andV (q_isi .bool (by decide) (q_var 0) (by rfl) m_isinstance (by rfl) m_bool (by decide +kernel)) (q_one (q_cmp (o_eq hu) (q_var 0) (q_var 1))))))) q_snil) (q_one1 (q_ret (q_andV (q_isi .int (by decide) (q_var 0) (by rfl) m_isinstance (by rfl) m_int (by decide +kernel)) (q_one (q_cmp (o_eq hu) (q_var 0) (q_var 1))))))))))) hk
theorem ok__law_same {f : Addr} {fd : FuncData} (F : FnP K "_law_same" s__law_same f fd) (hm : mg "_law_same" = some (.ref f)) (hb : Binds K fd ["found", "due"] []) (m_isinstance : mg "isinstance" = none) (m_tuple : mg "tuple" = none) (m_list : mg "list" = none) (m_len : mg "len" = none) (m_range : mg "range" = none) (m_str : mg "str" = none) (m_bool : mg "bool" = none) (m_int : mg "int" = none) : FnOk P w K mg base (L2.CX P w) 9 f fd ["found", "due"] (LP K mg 2 sp__law_same) := by
  have step : ∀ n : Nat, FnOk P w K mg base (L2.CX P w) (0 + n) f fd ["found", "due"] (LP K mg 2 (spr__law_same n)) := by
    intro n
    induction n with
    | zero => exact ⟨fun vs H Q E h => h.1, fun A outer s H args us vs Q E hr e0 hb hv h => (by obtain ⟨_, _, _, _, _, _, _, _, q, _⟩ := h; exact (spr__law_same_zero q).elim)⟩
    | succ n ih => exact one__law_same F m_isinstance m_tuple m_list m_len m_range m_str m_bool m_int (j := 0 + n) (by omega) ⟨ih, hm, F.kp, hb⟩ (k__law_same n)
  exact (step 9).imp fun vs H Q E h => h
theorem ok__law_word {f : Addr} {fd : FuncData} (F : FnP K "_law_word" s__law_word f fd) {f__law_take : Addr} {fd__law_take : FuncData} (T__law_take : FT P w K mg base "_law_take" 1 ["deck", "many"] sp__law_take f__law_take fd__law_take) (m_range : mg "range" = none) : FnOk P w K mg base (L2.CX P w) 2 f fd ["deck", "most"] (LP K mg 2 sp__law_word) := def_ok F sc__law_word (fun cdv A outer s H E hr => by
  have nd := sc__law_word.nd
  have hu := hr.units
  have hp := own_cx (P := P) (w := w) (K := K) (mg := mg) (base := base) (N := ["deck", "most", "wide", "found", "power", "turn"]) (qual := "_law_word") (scope := defScope s__law_word) (f := f) (cd := cdv) (A := A) (outer := outer) (s := s) (H := H) (E := E)
  have hx := pass_cx (P := P) (w := w) (K := K) (mg := mg) (base := base) (N := ["deck", "most", "wide", "found", "power", "turn"]) (qual := "_law_word") (scope := defScope s__law_word) (f := f) (cd := cdv) (A := A) (outer := outer) (s := s) (H := H) (E := E)
  exact (q_scons (q_par3 (i := 2) (j := 3) (l := 4) rfl nd (q_cons (q_call T__law_take.ok (hr.mono (by decide)) (by rfl) T__law_take.hm T__law_take.hk T__law_take.hb hx (q_cons (q_var 0) (q_cons (q_op o_add (q_var 1) q_int) q_nil))) (q_cons q_int (q_cons q_int q_nil)))) (q_scons (q_for hp rfl (q_rg1 (by rfl) m_range (q_cons (q_var 2) q_nil)) (q_gnm (i := 5) nd) (q_scons (q_set (i := 3) nd (q_op o_add (q_var 3) (q_op o_mul (q_var 4) (q_call T__law_take.ok (hr.mono (by decide)) (by rfl) T__law_take.hm T__law_take.hk T__law_take.hb hx (q_cons (q_var 0) (q_cons q_int q_nil)))))) (q_one1 (q_set (i := 4) nd (q_op o_mul q_int (q_var 4)))))) (q_one1 (q_ret (q_ix (q_lst (q_cons (q_var 3) (q_cons (q_var 3) (q_cons (q_var 4) (q_cons (q_op o_sub (q_var 4) q_int) (q_cons (q_op o_add (q_var 4) q_int) q_nil)))))) (q_call T__law_take.ok (hr.mono (by decide)) (by rfl) T__law_take.hm T__law_take.hk T__law_take.hb hx (q_cons (q_var 0) (q_cons q_int q_nil))))))))) k__law_word
theorem ok__law_sum {f : Addr} {fd : FuncData} (F : FnP K "_law_sum" s__law_sum f fd) (m_int : mg "int" = none) : FnOk P w K mg base (L2.CX P w) 1 f fd ["a_word", "b_word"] (LP K mg 2 sp__law_sum) := def_ok F sc__law_sum (fun cdv A outer s H E hr => by
  have nd := sc__law_sum.nd
  have hu := hr.units
  have hp := own_cx (P := P) (w := w) (K := K) (mg := mg) (base := base) (N := ["a_word", "b_word", "found", "power"]) (qual := "_law_sum") (scope := defScope s__law_sum) (f := f) (cd := cdv) (A := A) (outer := outer) (s := s) (H := H) (E := E)
  have hx := pass_cx (P := P) (w := w) (K := K) (mg := mg) (base := base) (N := ["a_word", "b_word", "found", "power"]) (qual := "_law_sum") (scope := defScope s__law_sum) (f := f) (cd := cdv) (A := A) (outer := outer) (s := s) (H := H) (E := E)
  exact (q_scons (q_asg (q_tup (q_cons q_int (q_cons q_int q_nil))) (q_gtp rfl (q_gscons (q_gnm (i := 2) nd) (q_gscons (q_gnm (i := 3) nd) q_gsnil))).p) (q_scons (q_while hp (q_w (q_or (q_tcmp o_gt (q_var 0) q_int) (q_or1 (q_tcmp o_gt (q_var 1) q_int)))) (q_scons (q_set (i := 2) nd (q_op o_add (q_var 2) (q_op o_mul (q_var 3) (q_callTy c_int (by rfl) m_int boot_int (q_cons (q_cmp (o_ne hu) (q_op o_mod (q_callTy c_int (by rfl) m_int boot_int (q_cons (q_var 0) q_nil)) q_int) (q_op o_mod (q_callTy c_int (by rfl) m_int boot_int (q_cons (q_var 1) q_nil)) q_int)) q_nil))))) (q_one1 (q_par3 (i := 0) (j := 1) (l := 3) rfl nd (q_cons (q_op o_fdiv (q_var 0) q_int) (q_cons (q_op o_fdiv (q_var 1) q_int) (q_cons (q_op o_mul q_int (q_var 3)) q_nil))))))) (q_one1 (q_ret (q_var 2)))))) k__law_sum
theorem ok__law_cells {f : Addr} {fd : FuncData} (F : FnP K "_law_cells" s__law_cells f fd) {f__law_take : Addr} {fd__law_take : FuncData} (T__law_take : FT P w K mg base "_law_take" 1 ["deck", "many"] sp__law_take f__law_take fd__law_take) (m_range : mg "range" = none) (m_tuple : mg "tuple" = none) : FnOk P w K mg base (L2.CX P w) 2 f fd ["deck", "many"] (LP K mg 2 sp__law_cells) := def_ok F sc__law_cells (fun cdv A outer s H E hr => by
  have nd := sc__law_cells.nd
  have hu := hr.units
  have hp := own_cx (P := P) (w := w) (K := K) (mg := mg) (base := base) (N := ["deck", "many", "found", "way", "cell"]) (qual := "_law_cells") (scope := defScope s__law_cells) (f := f) (cd := cdv) (A := A) (outer := outer) (s := s) (H := H) (E := E)
  have hx := pass_cx (P := P) (w := w) (K := K) (mg := mg) (base := base) (N := ["deck", "many", "found", "way", "cell"]) (qual := "_law_cells") (scope := defScope s__law_cells) (f := f) (cd := cdv) (A := A) (outer := outer) (s := s) (H := H) (E := E)
  exact (q_scons (q_par (i := 2) (j := 3) rfl nd (q_cons (q_lst q_nil) (q_cons (q_call T__law_take.ok (hr.mono (by decide)) (by rfl) T__law_take.hm T__law_take.hk T__law_take.hb hx (q_cons (q_var 0) (q_cons q_int q_nil))) q_nil))) (q_scons (q_if (q_tcmp (o_eq hu) (q_var 3) q_int) (q_one1 (q_ret (q_tup (q_cons (q_call T__law_take.ok (hr.mono (by decide)) (by rfl) T__law_take.hm T__law_take.hk T__law_take.hb hx (q_cons (q_var 0) (q_cons (q_var 1) q_nil))) q_nil)))) q_snil) (q_scons (q_for hp rfl (q_rg1 (by rfl) m_range (q_cons (q_var 1) q_nil)) (q_gnm (i := 4) nd) (q_one1 (q_if (q_tcmp (o_eq hu) (q_call T__law_take.ok (hr.mono (by decide)) (by rfl) T__law_take.hm T__law_take.hk T__law_take.hb hx (q_cons (q_var 0) (q_cons (q_ix (q_lst (q_cons q_int (q_cons q_int (q_cons (q_var 1) q_nil)))) (q_op o_sub (q_var 3) q_int)) q_nil))) q_int) (q_one1 (q_expr (q_met PySem.F.slot_list_append PySem.F.type_list_append m_app (q_var 2) (q_cons (q_var 4) q_nil)))) q_snil))) (q_one1 (q_ret (q_ifE (q_tcmp (o_ne hu) (q_var 2) (q_lst q_nil)) (q_callTy c_tuple (by rfl) m_tuple boot_tuple (q_cons (q_var 2) q_nil)) (q_tup (q_cons (q_call T__law_take.ok (hr.mono (by decide)) (by rfl) T__law_take.hm T__law_take.hk T__law_take.hb hx (q_cons (q_var 0) (q_cons (q_var 1) q_nil))) q_nil))))))))) k__law_cells
theorem ok__law_page {f : Addr} {fd : FuncData} (F : FnP K "_law_page" s__law_page f fd) {f__law_take : Addr} {fd__law_take : FuncData} (T__law_take : FT P w K mg base "_law_take" 1 ["deck", "many"] sp__law_take f__law_take fd__law_take) {f__law_cells : Addr} {fd__law_cells : FuncData} (T__law_cells : FT P w K mg base "_law_cells" 2 ["deck", "many"] sp__law_cells f__law_cells fd__law_cells) (m_range : mg "range" = none) (m_len : mg "len" = none) (m_tuple : mg "tuple" = none) : FnOk P w K mg base (L2.CX P w) 3 f fd ["deck", "most"] (LP K mg 2 sp__law_page) := def_ok F sc__law_page (fun cdv A outer s H E hr => by
  have nd := sc__law_page.nd
  have hu := hr.units
  have hp := own_cx (P := P) (w := w) (K := K) (mg := mg) (base := base) (N := ["deck", "most", "many", "rows", "key", "way"]) (qual := "_law_page") (scope := defScope s__law_page) (f := f) (cd := cdv) (A := A) (outer := outer) (s := s) (H := H) (E := E)
  have hx := pass_cx (P := P) (w := w) (K := K) (mg := mg) (base := base) (N := ["deck", "most", "many", "rows", "key", "way"]) (qual := "_law_page") (scope := defScope s__law_page) (f := f) (cd := cdv) (A := A) (outer := outer) (s := s) (H := H) (E := E)
  exact (q_scons (q_par (i := 2) (j := 3) rfl nd (q_cons (q_op o_add q_int (q_call T__law_take.ok (hr.mono (by decide)) (by rfl) T__law_take.hm T__law_take.hk T__law_take.hb hx (q_cons (q_var 0) (q_cons (q_var 1) q_nil)))) (q_cons (q_lst q_nil) q_nil))) (q_scons (q_for hp rfl (q_rg1 (by rfl) m_range (q_cons (q_call T__law_take.ok (hr.mono (by decide)) (by rfl) T__law_take.hm T__law_take.hk T__law_take.hb hx (q_cons (q_var 0) (q_cons (q_op o_add (q_var 1) q_int) q_nil))) q_nil)) (q_gnm (i := 4) nd) (q_scons (q_set (i := 5) nd (q_call T__law_take.ok (hr.mono (by decide)) (by rfl) T__law_take.hm T__law_take.hk T__law_take.hb hx (q_cons (q_var 0) (q_cons q_int q_nil)))) (q_one1 (q_if (q_w (q_and (q_tcmp (o_eq hu) (q_var 5) q_int) (q_and1 (q_tcmp (o_ne hu) (q_var 3) (q_lst q_nil))))) (q_one1 (q_expr (q_met PySem.F.slot_list_append PySem.F.type_list_append m_app (q_var 3) (q_cons (q_ix (q_var 3) (q_call T__law_take.ok (hr.mono (by decide)) (by rfl) T__law_take.hm T__law_take.hk T__law_take.hb hx (q_cons (q_var 0) (q_cons (q_callB c_len (by rfl) m_len boot_len (q_cons (q_var 3) q_nil)) q_nil)))) q_nil)))) (q_one1 (q_if (q_tcmp (o_eq hu) (q_var 5) q_int) (q_one1 (q_expr (q_met PySem.F.slot_list_append PySem.F.type_list_append m_app (q_var 3) (q_cons (q_tupRg rfl m_tuple m_range (q_var 2)) q_nil)))) (q_one1 (q_expr (q_met PySem.F.slot_list_append PySem.F.type_list_append m_app (q_var 3) (q_cons (q_call T__law_cells.ok (hr.mono (by decide)) (by rfl) T__law_cells.hm T__law_cells.hk T__law_cells.hb hx (q_cons (q_var 0) (q_cons (q_var 2) q_nil))) q_nil)))))))))) (q_one1 (q_ret (q_tup (q_cons (q_var 2) (q_cons (q_callTy c_tuple (by rfl) m_tuple boot_tuple (q_cons (q_var 3) q_nil)) q_nil)))))))) k__law_page
theorem ok__law_lot {f : Addr} {fd : FuncData} (F : FnP K "_law_lot" s__law_lot f fd) {f__law_take : Addr} {fd__law_take : FuncData} (T__law_take : FT P w K mg base "_law_take" 1 ["deck", "many"] sp__law_take f__law_take fd__law_take) (m_tuple : mg "tuple" = none) (m_range : mg "range" = none) (m_len : mg "len" = none) : FnOk P w K mg base (L2.CX P w) 2 f fd ["deck", "page"] (LP K mg 2 sp__law_lot) := def_ok F sc__law_lot (fun cdv A outer s H E hr => by
  have nd := sc__law_lot.nd
  have hu := hr.units
  have hp := own_cx (P := P) (w := w) (K := K) (mg := mg) (base := base) (N := ["deck", "page", "way", "key"]) (qual := "_law_lot") (scope := defScope s__law_lot) (f := f) (cd := cdv) (A := A) (outer := outer) (s := s) (H := H) (E := E)
  have hx := pass_cx (P := P) (w := w) (K := K) (mg := mg) (base := base) (N := ["deck", "page", "way", "key"]) (qual := "_law_lot") (scope := defScope s__law_lot) (f := f) (cd := cdv) (A := A) (outer := outer) (s := s) (H := H) (E := E)
  exact (q_scons (q_set (i := 2) nd (q_call T__law_take.ok (hr.mono (by decide)) (by rfl) T__law_take.hm T__law_take.hk T__law_take.hb hx (q_cons (q_var 0) (q_cons q_int q_nil)))) (q_scons (q_if (q_tcmp (o_eq hu) (q_var 2) q_int) (q_one1 (q_ret (q_tupRg rfl m_tuple m_range (q_callB c_len (by rfl) m_len boot_len (q_cons (q_ix (q_var 1) q_int) q_nil))))) q_snil) (q_one1 (q_ret (q_callTy c_tuple (by rfl) m_tuple boot_tuple (q_cons (q_lc (own := [("key", 3)]) rfl nd (q_rg1 (by rfl) m_range (q_cons (q_callB c_len (by rfl) m_len boot_len (q_cons (q_ix (q_var 1) q_int) q_nil)) q_nil)) (blkOk_by (by kernel_rfl)) (fun _ _ _ _ _ => (q_gnm (i := 3) nd)) (fun _ _ _ _ _ => (q_tone (q_tcmp (o_eq hu) (q_call T__law_take.ok (hr.mono (by decide)) (by rfl) T__law_take.hm T__law_take.hk T__law_take.hb passE0 (q_cons (q_var 0) (q_cons (q_ix (q_lst (q_cons q_int (q_cons q_int (q_cons q_int q_nil)))) (q_op o_sub (q_var 2) q_int)) q_nil))) q_int))) (fun _ _ _ _ _ => (q_var 3))) q_nil))))))) k__law_lot
theorem ok__law_keys {f : Addr} {fd : FuncData} (F : FnP K "_law_keys" s__law_keys f fd) (m_tuple : mg "tuple" = none) (m_range : mg "range" = none) (m_len : mg "len" = none) : FnOk P w K mg base (L2.CX P w) 1 f fd ["page", "cell"] (LP K mg 2 sp__law_keys) := def_ok F sc__law_keys (fun cdv A outer s H E hr => by
  have nd := sc__law_keys.nd
  have hu := hr.units
  have hp := own_cx (P := P) (w := w) (K := K) (mg := mg) (base := base) (N := ["page", "cell", "key"]) (qual := "_law_keys") (scope := defScope s__law_keys) (f := f) (cd := cdv) (A := A) (outer := outer) (s := s) (H := H) (E := E)
  have hx := pass_cx (P := P) (w := w) (K := K) (mg := mg) (base := base) (N := ["page", "cell", "key"]) (qual := "_law_keys") (scope := defScope s__law_keys) (f := f) (cd := cdv) (A := A) (outer := outer) (s := s) (H := H) (E := E)
  exact (q_one1 (q_ret (q_callTy c_tuple (by rfl) m_tuple boot_tuple (q_cons (q_lc (own := [("key", 2)]) rfl nd (q_rg1 (by rfl) m_range (q_cons (q_callB c_len (by rfl) m_len boot_len (q_cons (q_ix (q_var 0) q_int) q_nil)) q_nil)) (blkOk_by (by kernel_rfl)) (fun _ _ _ _ _ => (q_gnm (i := 2) nd)) (fun _ _ _ _ _ => (q_tone (q_tcmp o_in (q_var 1) (q_ix (q_ix (q_var 0) q_int) (q_var 2))))) (fun _ _ _ _ _ => (q_var 2))) q_nil))))) k__law_keys
theorem ok__law_cells_of {f : Addr} {fd : FuncData} (F : FnP K "_law_cells_of" s__law_cells_of f fd) (m_range : mg "range" = none) (m_tuple : mg "tuple" = none) : FnOk P w K mg base (L2.CX P w) 1 f fd ["page", "lot"] (LP K mg 2 sp__law_cells_of) := def_ok F sc__law_cells_of (fun cdv A outer s H E hr => by
  have nd := sc__law_cells_of.nd
  have hu := hr.units
  have hp := own_cx (P := P) (w := w) (K := K) (mg := mg) (base := base) (N := ["page", "lot", "found", "cell", "key"]) (qual := "_law_cells_of") (scope := defScope s__law_cells_of) (f := f) (cd := cdv) (A := A) (outer := outer) (s := s) (H := H) (E := E)
  have hx := pass_cx (P := P) (w := w) (K := K) (mg := mg) (base := base) (N := ["page", "lot", "found", "cell", "key"]) (qual := "_law_cells_of") (scope := defScope s__law_cells_of) (f := f) (cd := cdv) (A := A) (outer := outer) (s := s) (H := H) (E := E)
  exact (q_scons (q_set (i := 2) nd (q_lst q_nil)) (q_scons (q_for hp rfl (q_rg1 (by rfl) m_range (q_cons (q_ix (q_var 0) q_int) q_nil)) (q_gnm (i := 3) nd) (q_one1 (q_if (q_tcmp (o_ne hu) (q_lc (own := [("key", 4)]) rfl nd (q_iSq (q_var 1)) (blkOk_by (by kernel_rfl)) (fun _ _ _ _ _ => (q_gnm (i := 4) nd)) (fun _ _ _ _ _ => (q_tone (q_tcmp o_in (q_var 3) (q_ix (q_ix (q_var 0) q_int) (q_var 4))))) (fun _ _ _ _ _ => (q_var 4))) (q_lst q_nil)) (q_one1 (q_expr (q_met PySem.F.slot_list_append PySem.F.type_list_append m_app (q_var 2) (q_cons (q_var 3) q_nil)))) q_snil))) (q_one1 (q_ret (q_callTy c_tuple (by rfl) m_tuple boot_tuple (q_cons (q_var 2) q_nil))))))) k__law_cells_of
theorem ok__law_house {f : Addr} {fd : FuncData} (F : FnP K "_law_house" s__law_house f fd) {f__law_page : Addr} {fd__law_page : FuncData} (T__law_page : FT P w K mg base "_law_page" 3 ["deck", "most"] sp__law_page f__law_page fd__law_page) {f__law_take : Addr} {fd__law_take : FuncData} (T__law_take : FT P w K mg base "_law_take" 1 ["deck", "many"] sp__law_take f__law_take fd__law_take) {f_part : Addr} {fd_part : FuncData} (T_part : FT P w K mg base "part" 8 ["book", "lot"] sp_part f_part fd_part) {f__law_lot : Addr} {fd__law_lot : FuncData} (T__law_lot : FT P w K mg base "_law_lot" 2 ["deck", "page"] sp__law_lot f__law_lot fd__law_lot) {f_with_key : Addr} {fd_with_key : FuncData} (T_with_key : FT P w K mg base "with_key" 8 ["book", "row"] sp_with_key f_with_key fd_with_key) {f__law_word : Addr} {fd__law_word : FuncData} (T__law_word : FT P w K mg base "_law_word" 2 ["deck", "most"] sp__law_word f__law_word fd__law_word) {f__law_cells : Addr} {fd__law_cells : FuncData} (T__law_cells : FT P w K mg base "_law_cells" 2 ["deck", "many"] sp__law_cells f__law_cells fd__law_cells) (m_len : mg "len" = none) : FnOk P w K mg base (L2.CX P w) 9 f fd ["deck"] (LP K mg 1 sp__law_house) := def_ok F sc__law_house (fun cdv A outer s H E hr => by
  have nd := sc__law_house.nd
  have hu := hr.units
  have hp := own_cx (P := P) (w := w) (K := K) (mg := mg) (base := base) (N := ["deck", "page", "house"]) (qual := "_law_house") (scope := defScope s__law_house) (f := f) (cd := cdv) (A := A) (outer := outer) (s := s) (H := H) (E := E)
  have hx := pass_cx (P := P) (w := w) (K := K) (mg := mg) (base := base) (N := ["deck", "page", "house"]) (qual := "_law_house") (scope := defScope s__law_house) (f := f) (cd := cdv) (A := A) (outer := outer) (s := s) (H := H) (E := E)
  exact (q_scons (q_set (i := 1) nd (q_call T__law_page.ok (hr.mono (by decide)) (by rfl) T__law_page.hm T__law_page.hk T__law_page.hb hx (q_cons (q_var 0) (q_cons q_int q_nil)))) (q_scons (q_if (q_tcmp (o_eq hu) (q_ix (q_var 1) q_int) (q_tup q_nil)) (q_one1 (q_set (i := 1) nd (q_tup (q_cons (q_ix (q_var 1) q_int) (q_cons (q_tup (q_cons (q_tup (q_cons q_int q_nil)) q_nil)) q_nil))))) q_snil) (q_scons (q_if (q_tcmp (o_eq hu) (q_call T__law_take.ok (hr.mono (by decide)) (by rfl) T__law_take.hm T__law_take.hk T__law_take.hb hx (q_cons (q_var 0) (q_cons q_int q_nil))) q_int) (q_one1 (q_set (i := 1) nd (q_call T_part.ok (hr.mono (by decide)) (by rfl) T_part.hm T_part.hk T_part.hb hx (q_cons (q_call T_with_key.ok (hr.mono (by decide)) (by rfl) T_with_key.hm T_with_key.hk T_with_key.hb hx (q_cons (q_var 1) (q_cons (q_lst (q_cons q_int q_nil)) q_nil))) (q_cons (q_op o_add (q_call T__law_lot.ok (hr.mono (by decide)) (by rfl) T__law_lot.hm T__law_lot.hk T__law_lot.hb hx (q_cons (q_var 0) (q_cons (q_var 1) q_nil))) (q_tup (q_cons (q_callB c_len (by rfl) m_len boot_len (q_cons (q_ix (q_var 1) q_int) q_nil)) q_nil))) q_nil))))) q_snil) (q_scons (q_set (i := 2) nd (q_disp (qp_cons q_str (q_var 1) (qp_cons q_str (q_call T__law_word.ok (hr.mono (by decide)) (by rfl) T__law_word.hm T__law_word.hk T__law_word.hb hx (q_cons (q_var 0) (q_cons q_int q_nil))) (qp_cons q_str (q_call T__law_word.ok (hr.mono (by decide)) (by rfl) T__law_word.hm T__law_word.hk T__law_word.hb hx (q_cons (q_var 0) (q_cons q_int q_nil))) qp_nil))))) (q_scons (q_asg (q_call T__law_cells.ok (hr.mono (by decide)) (by rfl) T__law_cells.hm T__law_cells.hk T__law_cells.hb hx (q_cons (q_var 0) (q_cons (q_ix (q_var 1) q_int) q_nil))) (q_gdb hu (q_var 2) q_str)) (q_scons (q_asg (q_tup (q_cons (q_call T__law_take.ok (hr.mono (by decide)) (by rfl) T__law_take.hm T__law_take.hk T__law_take.hb hx (q_cons (q_var 0) (q_cons (q_callB c_len (by rfl) m_len boot_len (q_cons (q_ix (q_var 1) q_int) q_nil)) q_nil))) (q_cons (q_call T__law_take.ok (hr.mono (by decide)) (by rfl) T__law_take.hm T__law_take.hk T__law_take.hb hx (q_cons (q_var 0) (q_cons (q_ix (q_var 1) q_int) q_nil))) q_nil))) (q_gtpP rfl (q_gsconsP (q_gdb hu (q_var 2) q_str) (q_gsconsP (q_gdb hu (q_var 2) q_str) q_gsnilP)))) (q_scons (q_asg (q_tup (q_cons (q_call T__law_lot.ok (hr.mono (by decide)) (by rfl) T__law_lot.hm T__law_lot.hk T__law_lot.hb hx (q_cons (q_var 0) (q_cons (q_var 1) q_nil))) (q_cons (q_op o_add q_int (q_call T__law_take.ok (hr.mono (by decide)) (by rfl) T__law_take.hm T__law_take.hk T__law_take.hb hx (q_cons (q_var 0) (q_cons q_int q_nil)))) q_nil))) (q_gtpP rfl (q_gsconsP (q_gdb hu (q_var 2) q_str) (q_gsconsP (q_gdb hu (q_var 2) q_str) q_gsnilP)))) (q_one1 (q_ret (q_var 2))))))))))) k__law_house
theorem ok__law_places {f : Addr} {fd : FuncData} (F : FnP K "_law_places" s__law_places f fd) (m_range : mg "range" = none) (m_int : mg "int" = none) (m_tuple : mg "tuple" = none) : FnOk P w K mg base (L2.CX P w) 1 f fd ["word"] (LP K mg 1 sp__law_places) := def_ok F sc__law_places (fun cdv A outer s H E hr => by
  have nd := sc__law_places.nd
  have hu := hr.units
  have hp := own_cx (P := P) (w := w) (K := K) (mg := mg) (base := base) (N := ["word", "found", "at"]) (qual := "_law_places") (scope := defScope s__law_places) (f := f) (cd := cdv) (A := A) (outer := outer) (s := s) (H := H) (E := E)
  have hx := pass_cx (P := P) (w := w) (K := K) (mg := mg) (base := base) (N := ["word", "found", "at"]) (qual := "_law_places") (scope := defScope s__law_places) (f := f) (cd := cdv) (A := A) (outer := outer) (s := s) (H := H) (E := E)
  exact (q_scons (q_set (i := 1) nd (q_lst q_nil)) (q_scons (q_for hp rfl (q_rg1 (by rfl) m_range (q_cons q_int q_nil)) (q_gnm (i := 2) nd) (q_scons (q_if (q_tcmp (o_eq hu) (q_op o_mod (q_callTy c_int (by rfl) m_int boot_int (q_cons (q_var 0) q_nil)) q_int) q_int) (q_one1 (q_expr (q_met PySem.F.slot_list_append PySem.F.type_list_append m_app (q_var 1) (q_cons (q_var 2) q_nil)))) q_snil) (q_one1 (q_set (i := 0) nd (q_op o_fdiv (q_var 0) q_int))))) (q_one1 (q_ret (q_callTy c_tuple (by rfl) m_tuple boot_tuple (q_cons (q_var 1) q_nil))))))) k__law_places
theorem ok__law_due {f : Addr} {fd : FuncData} (F : FnP K "_law_due" s__law_due f fd) {f__law_sum : Addr} {fd__law_sum : FuncData} (T__law_sum : FT P w K mg base "_law_sum" 1 ["a_word", "b_word"] sp__law_sum f__law_sum fd__law_sum) {f__law_places : Addr} {fd__law_places : FuncData} (T__law_places : FT P w K mg base "_law_places" 1 ["word"] sp__law_places f__law_places fd__law_places) {f__law_keys : Addr} {fd__law_keys : FuncData} (T__law_keys : FT P w K mg base "_law_keys" 1 ["page", "cell"] sp__law_keys f__law_keys fd__law_keys) {f__law_cells_of : Addr} {fd__law_cells_of : FuncData} (T__law_cells_of : FT P w K mg base "_law_cells_of" 1 ["page", "lot"] sp__law_cells_of f__law_cells_of fd__law_cells_of) (m_max : mg "max" = none) (m_len : mg "len" = none) (m_tuple : mg "tuple" = none) : FnOk P w K mg base (L2.CX P w) 2 f fd ["house", "word"] (LP K mg 2 sp__law_due) := def_ok F sc__law_due (fun cdv A outer s H E hr => by
  have nd := sc__law_due.nd
  have hu := hr.units
  have hp := own_cx (P := P) (w := w) (K := K) (mg := mg) (base := base) (N := ["house", "word", "many", "rows", "first", "second", "key", "lot", "at", "row", "other"]) (qual := "_law_due") (scope := defScope s__law_due) (f := f) (cd := cdv) (A := A) (outer := outer) (s := s) (H := H) (E := E)
  have hx := pass_cx (P := P) (w := w) (K := K) (mg := mg) (base := base) (N := ["house", "word", "many", "rows", "first", "second", "key", "lot", "at", "row", "other"]) (qual := "_law_due") (scope := defScope s__law_due) (f := f) (cd := cdv) (A := A) (outer := outer) (s := s) (H := H) (E := E)
  exact (q_scons (q_asg (q_dget hu (q_var 0) q_str) (q_gtp rfl (q_gscons (q_gnm (i := 2) nd) (q_gscons (q_gnm (i := 3) nd) q_gsnil))).p) (q_scons (q_asg (q_tup (q_cons (q_dget hu (q_var 0) q_str) (q_cons (q_dget hu (q_var 0) q_str) (q_cons (q_dget hu (q_var 0) q_str) (q_cons (q_dget hu (q_var 0) q_str) q_nil))))) (q_gtp rfl (q_gscons (q_gnm (i := 4) nd) (q_gscons (q_gnm (i := 5) nd) (q_gscons (q_gnm (i := 6) nd) (q_gscons (q_gnm (i := 7) nd) q_gsnil))))).p) (q_scons (q_if (q_tcmp (o_eq hu) (q_var 1) q_str) (q_one1 (q_ret (q_call T__law_sum.ok (hr.mono (by decide)) (by rfl) T__law_sum.hm T__law_sum.hk T__law_sum.hb hx (q_cons (q_var 4) (q_cons (q_var 5) q_nil))))) q_snil) (q_scons (q_if (q_tcmp (o_eq hu) (q_var 1) q_str) (q_one1 (q_ret (q_var 4))) q_snil) (q_scons (q_if (q_tcmp (o_eq hu) (q_var 1) q_str) (q_one1 (q_ret (q_call T__law_places.ok (hr.mono (by decide)) (by rfl) T__law_places.hm T__law_places.hk T__law_places.hb hx (q_cons (q_var 4) q_nil)))) q_snil) (q_scons (q_if (q_tcmp (o_eq hu) (q_var 1) q_str) (q_one1 (q_ret (q_callB (c_max rfl) (by rfl) m_max boot_max (q_cons (q_op o_add (q_op o_add (q_lst (q_cons q_int q_nil)) (q_lc (own := [("at", 8)]) rfl nd (q_iSq (q_call T__law_places.ok (hr.mono (by decide)) (by rfl) T__law_places.hm T__law_places.hk T__law_places.hb hx (q_cons (q_var 5) q_nil))) (blkOk_by (by kernel_rfl)) (fun _ _ _ _ _ => (q_gnm (i := 8) nd)) (fun _ _ _ _ _ => q_tnil) (fun _ _ _ _ _ => (q_op o_add (q_var 8) q_int)))) (q_lst (q_cons q_int q_nil))) q_nil)))) q_snil) (q_scons (q_if (q_tcmp (o_eq hu) (q_var 1) q_str) (q_one1 (q_ret (q_cmp (o_eq hu) (q_callB c_len (by rfl) m_len boot_len (q_cons (q_lc (own := [("at", 8)]) rfl nd (q_iSq (q_call T__law_places.ok (hr.mono (by decide)) (by rfl) T__law_places.hm T__law_places.hk T__law_places.hb hx (q_cons (q_var 4) q_nil))) (blkOk_by (by kernel_rfl)) (fun _ _ _ _ _ => (q_gnm (i := 8) nd)) (fun _ _ _ _ _ => (q_tone (q_tcmp o_ge (q_var 8) (q_dget hu (q_var 0) q_str)))) (fun _ _ _ _ _ => (q_var 8))) q_nil)) q_int))) q_snil) (q_scons (q_if (q_tcmp (o_eq hu) (q_var 1) q_str) (q_one1 (q_ret (q_tup (q_cons (q_var 2) (q_cons (q_callTy c_tuple (by rfl) m_tuple boot_tuple (q_cons (q_lc (own := [("row", 9)]) rfl nd (q_iSq (q_back (q_var 3))) (blkOk_by (by kernel_rfl)) (fun _ _ _ _ _ => (q_gnm (i := 9) nd)) (fun _ _ _ _ _ => q_tnil) (fun _ _ _ _ _ => (q_var 9))) q_nil)) q_nil))))) q_snil) (q_scons (q_if (q_tcmp (o_eq hu) (q_var 1) q_str) (q_one1 (q_ret (q_tup (q_cons (q_var 2) (q_cons (q_op o_add (q_var 3) (q_tup (q_cons (q_dget hu (q_var 0) q_str) q_nil))) q_nil))))) q_snil) (q_scons (q_if (q_tcmp (o_eq hu) (q_var 1) q_str) (q_one1 (q_ret (q_tup (q_cons (q_var 2) (q_cons (q_op o_add (q_slice (q_var 3) q_noP (q_part (q_var 6))) (q_slice (q_var 3) (q_part (q_op o_add (q_var 6) q_int)) q_noP)) q_nil))))) q_snil) (q_scons (q_if (q_tcmp (o_eq hu) (q_var 1) q_str) (q_one1 (q_ret (q_tup (q_cons (q_var 2) (q_cons (q_callTy c_tuple (by rfl) m_tuple boot_tuple (q_cons (q_lc (own := [("other", 10)]) rfl nd (q_iSq (q_var 7)) (blkOk_by (by kernel_rfl)) (fun _ _ _ _ _ => (q_gnm (i := 10) nd)) (fun _ _ _ _ _ => q_tnil) (fun _ _ _ _ _ => (q_ix (q_var 3) (q_var 10)))) q_nil)) q_nil))))) q_snil) (q_scons (q_if (q_tcmp (o_eq hu) (q_var 1) q_str) (q_one1 (q_ret (q_call T__law_keys.ok (hr.mono (by decide)) (by rfl) T__law_keys.hm T__law_keys.hk T__law_keys.hb hx (q_cons (q_dget hu (q_var 0) q_str) (q_cons (q_dget hu (q_var 0) q_str) q_nil))))) q_snil) (q_scons (q_if (q_tcmp (o_eq hu) (q_var 1) q_str) (q_one1 (q_ret (q_call T__law_cells_of.ok (hr.mono (by decide)) (by rfl) T__law_cells_of.hm T__law_cells_of.hk T__law_cells_of.hb hx (q_cons (q_dget hu (q_var 0) q_str) (q_cons (q_var 7) q_nil))))) q_snil) (q_one1 (q_ret (q_ifE (q_tcmp (o_eq hu) (q_var 1) q_str) q_bl q_str))))))))))))))))) k__law_due
theorem ok__law_added_all {f : Addr} {fd : FuncData} (F : FnP K "_law_added_all" s__law_added_all f fd) {f_added_all : Addr} {fd_added_all : FuncData} (T_added_all : FT P w K mg base "added_all" 3 ["some"] sp_added_all f_added_all fd_added_all) : FnOk P w K mg base (L2.CX P w) 4 f fd ["words"] (LP K mg 1 sp__law_added_all) := def_ok F sc__law_added_all (fun cdv A outer s H E hr => by
  have nd := sc__law_added_all.nd
  have hu := hr.units
  have hp := own_cx (P := P) (w := w) (K := K) (mg := mg) (base := base) (N := ["words", "answer"]) (qual := "_law_added_all") (scope := defScope s__law_added_all) (f := f) (cd := cdv) (A := A) (outer := outer) (s := s) (H := H) (E := E)
  have hx := pass_cx (P := P) (w := w) (K := K) (mg := mg) (base := base) (N := ["words", "answer"]) (qual := "_law_added_all") (scope := defScope s__law_added_all) (f := f) (cd := cdv) (A := A) (outer := outer) (s := s) (H := H) (E := E)
  exact (q_scons (q_set (i := 1) nd (q_call T_added_all.ok (hr.mono (by decide)) (by rfl) T_added_all.hm T_added_all.hk T_added_all.hb hx (q_cons (q_var 0) q_nil))) (q_scons (q_expr (q_met0 PySem.F.slot_list_reverse PySem.F.type_list_reverse m_rev (q_var 0))) (q_scons (q_expr (q_met PySem.F.slot_list_append PySem.F.type_list_append m_app (q_var 0) (q_cons (q_un o_neg q_int) q_nil))) (q_one1 (q_ret (q_var 1))))))) k__law_added_all
theorem ok__law_made {f : Addr} {fd : FuncData} (F : FnP K "_law_made" s__law_made f fd) {f_book : Addr} {fd_book : FuncData} (T_book : FT P w K mg base "book" 5 ["m", "rows"] sp_book f_book fd_book) (m_list : mg "list" = none) : FnOk P w K mg base (L2.CX P w) 6 f fd ["page"] (LP K mg 1 sp__law_made) := def_ok F sc__law_made (fun cdv A outer s H E hr => by
  have nd := sc__law_made.nd
  have hu := hr.units
  have hp := own_cx (P := P) (w := w) (K := K) (mg := mg) (base := base) (N := ["page", "given", "row", "answer", "cells"]) (qual := "_law_made") (scope := defScope s__law_made) (f := f) (cd := cdv) (A := A) (outer := outer) (s := s) (H := H) (E := E)
  have hx := pass_cx (P := P) (w := w) (K := K) (mg := mg) (base := base) (N := ["page", "given", "row", "answer", "cells"]) (qual := "_law_made") (scope := defScope s__law_made) (f := f) (cd := cdv) (A := A) (outer := outer) (s := s) (H := H) (E := E)
  exact (q_scons (q_setLc (i := 1) (own := [("row", 2)]) rfl nd (q_iSq (q_back (q_ix (q_var 0) q_int))) (blkOk_by (by kernel_rfl)) (fun _ _ _ _ _ => (q_gnm (i := 2) nd)) (fun _ _ _ _ _ => q_tnil) (fun _ _ _ _ _ => (q_callTy c_list (by rfl) m_list boot_list (q_cons (q_var 2) q_nil))) (sw_true rfl rfl rfl (by decide +kernel))) (q_scons (q_set (i := 3) nd (q_call T_book.ok (hr.mono (by decide)) (by rfl) T_book.hm T_book.hk T_book.hb hx (q_cons (q_ix (q_var 0) q_int) (q_cons (q_var 1) q_nil)))) (q_scons (q_for hp rfl (q_iSq (q_var 1)) (q_gnm (i := 4) nd) (q_one1 (q_expr (q_met PySem.F.slot_list_append PySem.F.type_list_append m_app (q_var 4) (q_cons (q_un o_neg q_int) q_nil))))) (q_scons (q_expr (q_met PySem.F.slot_list_append PySem.F.type_list_append m_app (q_var 1) (q_cons (q_lst q_nil) q_nil))) (q_one1 (q_ret (q_var 3)))))))) k__law_made
theorem ok__law_refused {f : Addr} {fd : FuncData} (F : FnP K "_law_refused" s__law_refused f fd) {f_with_key : Addr} {fd_with_key : FuncData} (T_with_key : FT P w K mg base "with_key" 8 ["book", "row"] sp_with_key f_with_key fd_with_key) {f_added_all : Addr} {fd_added_all : FuncData} (T_added_all : FT P w K mg base "added_all" 3 ["some"] sp_added_all f_added_all fd_added_all) {f_book : Addr} {fd_book : FuncData} (T_book : FT P w K mg base "book" 5 ["m", "rows"] sp_book f_book fd_book) {f_part : Addr} {fd_part : FuncData} (T_part : FT P w K mg base "part" 8 ["book", "lot"] sp_part f_part fd_part) {fd_init : FuncData} (hI : IniT P w K mg base fd_init) (x_TellError : exB K "TellError" = true) (c_TellError : mg "TellError" = some (.ref (He.ga K "TellError"))) : FnOk P w K mg base (L2.CX P w) 9 f fd ["house"] (LP K mg 1 sp__law_refused) := def_ok F sc__law_refused (fun cdv A outer s H E hr => by
  have nd := sc__law_refused.nd
  have hu := hr.units
  have hp := own_cx (P := P) (w := w) (K := K) (mg := mg) (base := base) (N := ["house", "answer"]) (qual := "_law_refused") (scope := defScope s__law_refused) (f := f) (cd := cdv) (A := A) (outer := outer) (s := s) (H := H) (E := E)
  have hx := pass_cx (P := P) (w := w) (K := K) (mg := mg) (base := base) (N := ["house", "answer"]) (qual := "_law_refused") (scope := defScope s__law_refused) (f := f) (cd := cdv) (A := A) (outer := outer) (s := s) (H := H) (E := E)
  have ht := takes_cx (P := P) (w := w) (K := K) (mg := mg) (base := base) (N := ["house", "answer"]) (qual := "_law_refused") (scope := defScope s__law_refused) (f := f) (cd := cdv) (A := A) (outer := outer) (s := s) (H := H) (E := E)
  exact (q_scons (q_set (i := 1) nd q_str) (q_scons (q_try rfl rfl rfl nd ht (fun W pn xe ht1 => (w_one (w_if (w_t fun E => (q_tcmp (o_eq hu) (q_dget hu (q_var 0) q_str) q_int)) (w_one (w_expr (w_call T_with_key.ok (hr.mono (by decide)) (by rfl) T_with_key.hm T_with_key.hk T_with_key.hb ht1 (w_cons (w_e fun E => (q_dget hu (q_var 0) q_str)) (w_cons (w_e fun E => (q_lst q_nil)) w_nil))))) (w_one (w_if (w_t fun E => (q_tcmp (o_eq hu) (q_dget hu (q_var 0) q_str) q_int)) (w_one (w_expr (w_call T_added_all.ok (hr.mono (by decide)) (by rfl) T_added_all.hm T_added_all.hk T_added_all.hb ht1 (w_cons (w_e fun E => (q_lst (q_cons q_int (q_cons (q_un o_neg q_int) q_nil)))) w_nil)))) (w_one (w_if (w_t fun E => (q_tcmp (o_eq hu) (q_dget hu (q_var 0) q_str) q_int)) (w_one (w_expr (w_call T_book.ok (hr.mono (by decide)) (by rfl) T_book.hm T_book.hk T_book.hb ht1 (w_cons (w_e fun E => (q_ix (q_dget hu (q_var 0) q_str) q_int)) (w_cons (w_e fun E => (q_lst (q_cons (q_lst (q_cons q_int q_nil)) (q_cons (q_lst (q_cons (q_ix (q_dget hu (q_var 0) q_str) q_int) q_nil)) q_nil)))) w_nil))))) (w_one (w_expr (w_call T_part.ok (hr.mono (by decide)) (by rfl) T_part.hm T_part.hk T_part.hb ht1 (w_cons (w_e fun E => (q_dget hu (q_var 0) q_str)) (w_cons (w_e fun E => (q_tup (q_cons q_int (q_cons q_int q_nil)))) w_nil)))))))))))) (.cons (h := ⟨"TellError", none, (dSet 1 (dC (.str "refused")))⟩) (by rfl) (by decide) c_TellError x_TellError (by decide) (.inl ⟨rfl, rfl⟩) (fun a pn => (q_one1 (q_set (i := 1) nd q_str))) .nil)) (q_one1 (q_ret (q_var 1)))))) k__law_refused
theorem ok__law_told {f : Addr} {fd : FuncData} (F : FnP K "_law_told" s__law_told f fd) {f_added : Addr} {fd_added : FuncData} (T_added : FT P w K mg base "added" 4 ["a", "b"] sp_added f_added fd_added) {f__law_added_all : Addr} {fd__law_added_all : FuncData} (T__law_added_all : FT P w K mg base "_law_added_all" 4 ["words"] sp__law_added_all f__law_added_all fd__law_added_all) {f_bits : Addr} {fd_bits : FuncData} (T_bits : FT P w K mg base "bits" 4 ["a"] sp_bits f_bits fd_bits) {f_width : Addr} {fd_width : FuncData} (T_width : FT P w K mg base "width" 4 ["a"] sp_width f_width fd_width) {f_is_word : Addr} {fd_is_word : FuncData} (T_is_word : FT P w K mg base "is_word" 4 ["w", "told"] sp_is_word f_is_word fd_is_word) {f__law_made : Addr} {fd__law_made : FuncData} (T__law_made : FT P w K mg base "_law_made" 6 ["page"] sp__law_made f__law_made fd__law_made) {f_with_key : Addr} {fd_with_key : FuncData} (T_with_key : FT P w K mg base "with_key" 8 ["book", "row"] sp_with_key f_with_key fd_with_key) {f_without_key : Addr} {fd_without_key : FuncData} (T_without_key : FT P w K mg base "without_key" 8 ["book", "key"] sp_without_key f_without_key fd_without_key) {f_part : Addr} {fd_part : FuncData} (T_part : FT P w K mg base "part" 8 ["book", "lot"] sp_part f_part fd_part) {f_keys_of : Addr} {fd_keys_of : FuncData} (T_keys_of : FT P w K mg base "keys_of" 8 ["book", "cell"] sp_keys_of f_keys_of fd_keys_of) {f_cells_of : Addr} {fd_cells_of : FuncData} (T_cells_of : FT P w K mg base "cells_of" 8 ["book", "lot"] sp_cells_of f_cells_of fd_cells_of) {f_is_book : Addr} {fd_is_book : FuncData} (T_is_book : FT P w K mg base "is_book" 6 ["told"] sp_is_book f_is_book fd_is_book) {f__law_refused : Addr} {fd__law_refused : FuncData} (T__law_refused : FT P w K mg base "_law_refused" 9 ["house"] sp__law_refused f__law_refused fd__law_refused) (m_list : mg "list" = none) : FnOk P w K mg base (L2.CX P w) 10 f fd ["house", "word"] (LP K mg 2 sp__law_told) := def_ok F sc__law_told (fun cdv A outer s H E hr => by
  have nd := sc__law_told.nd
  have hu := hr.units
  have hp := own_cx (P := P) (w := w) (K := K) (mg := mg) (base := base) (N := ["house", "word", "page", "first", "second"]) (qual := "_law_told") (scope := defScope s__law_told) (f := f) (cd := cdv) (A := A) (outer := outer) (s := s) (H := H) (E := E)
  have hx := pass_cx (P := P) (w := w) (K := K) (mg := mg) (base := base) (N := ["house", "word", "page", "first", "second"]) (qual := "_law_told") (scope := defScope s__law_told) (f := f) (cd := cdv) (A := A) (outer := outer) (s := s) (H := H) (E := E)
  exact (q_scons (q_par3 (i := 2) (j := 3) (l := 4) rfl nd (q_cons (q_dget hu (q_var 0) q_str) (q_cons (q_dget hu (q_var 0) q_str) (q_cons (q_dget hu (q_var 0) q_str) q_nil)))) (q_scons (q_if (q_tcmp (o_eq hu) (q_var 1) q_str) (q_one1 (q_ret (q_call T_added.ok (hr.mono (by decide)) (by rfl) T_added.hm T_added.hk T_added.hb hx (q_cons (q_var 3) (q_cons (q_var 4) q_nil))))) q_snil) (q_scons (q_if (q_tcmp (o_eq hu) (q_var 1) q_str) (q_one1 (q_ret (q_call T__law_added_all.ok (hr.mono (by decide)) (by rfl) T__law_added_all.hm T__law_added_all.hk T__law_added_all.hb hx (q_cons (q_lst (q_cons (q_var 4) (q_cons (q_var 3) (q_cons (q_var 4) q_nil)))) q_nil)))) q_snil) (q_scons (q_if (q_tcmp (o_eq hu) (q_var 1) q_str) (q_one1 (q_ret (q_call T_bits.ok (hr.mono (by decide)) (by rfl) T_bits.hm T_bits.hk T_bits.hb hx (q_cons (q_var 3) q_nil)))) q_snil) (q_scons (q_if (q_tcmp (o_eq hu) (q_var 1) q_str) (q_one1 (q_ret (q_call T_width.ok (hr.mono (by decide)) (by rfl) T_width.hm T_width.hk T_width.hb hx (q_cons (q_var 4) q_nil)))) q_snil) (q_scons (q_if (q_tcmp (o_eq hu) (q_var 1) q_str) (q_one1 (q_ret (q_call T_is_word.ok (hr.mono (by decide)) (by rfl) T_is_word.hm T_is_word.hk T_is_word.hb hx (q_cons (q_dget hu (q_var 0) q_str) (q_cons (q_var 3) q_nil))))) q_snil) (q_scons (q_if (q_tcmp (o_eq hu) (q_var 1) q_str) (q_one1 (q_ret (q_call T__law_made.ok (hr.mono (by decide)) (by rfl) T__law_made.hm T__law_made.hk T__law_made.hb hx (q_cons (q_var 2) q_nil)))) q_snil) (q_scons (q_if (q_tcmp (o_eq hu) (q_var 1) q_str) (q_one1 (q_ret (q_call T_with_key.ok (hr.mono (by decide)) (by rfl) T_with_key.hm T_with_key.hk T_with_key.hb hx (q_cons (q_var 2) (q_cons (q_op o_add (q_callTy c_list (by rfl) m_list boot_list (q_cons (q_dget hu (q_var 0) q_str) q_nil)) (q_lst (q_cons (q_ix (q_dget hu (q_var 0) q_str) q_int) q_nil))) q_nil))))) q_snil) (q_scons (q_if (q_tcmp (o_eq hu) (q_var 1) q_str) (q_one1 (q_ret (q_call T_without_key.ok (hr.mono (by decide)) (by rfl) T_without_key.hm T_without_key.hk T_without_key.hb hx (q_cons (q_var 2) (q_cons (q_dget hu (q_var 0) q_str) q_nil))))) q_snil) (q_scons (q_if (q_tcmp (o_eq hu) (q_var 1) q_str) (q_one1 (q_ret (q_call T_part.ok (hr.mono (by decide)) (by rfl) T_part.hm T_part.hk T_part.hb hx (q_cons (q_var 2) (q_cons (q_dget hu (q_var 0) q_str) q_nil))))) q_snil) (q_scons (q_if (q_tcmp (o_eq hu) (q_var 1) q_str) (q_one1 (q_ret (q_call T_keys_of.ok (hr.mono (by decide)) (by rfl) T_keys_of.hm T_keys_of.hk T_keys_of.hb hx (q_cons (q_var 2) (q_cons (q_dget hu (q_var 0) q_str) q_nil))))) q_snil) (q_scons (q_if (q_tcmp (o_eq hu) (q_var 1) q_str) (q_one1 (q_ret (q_call T_cells_of.ok (hr.mono (by decide)) (by rfl) T_cells_of.hm T_cells_of.hk T_cells_of.hb hx (q_cons (q_var 2) (q_cons (q_dget hu (q_var 0) q_str) q_nil))))) q_snil) (q_one1 (q_ret (q_ifE (q_tcmp (o_eq hu) (q_var 1) q_str) (q_call T_is_book.ok (hr.mono (by decide)) (by rfl) T_is_book.hm T_is_book.hk T_is_book.hb hx (q_cons (q_var 2) q_nil)) (q_call T__law_refused.ok (hr.mono (by decide)) (by rfl) T__law_refused.hm T__law_refused.hk T__law_refused.hb hx (q_cons (q_var 0) q_nil)))))))))))))))))) k__law_told
theorem ok_law {f : Addr} {fd : FuncData} (F : FnP K "law" s_law f fd) {f__law_house : Addr} {fd__law_house : FuncData} (T__law_house : FT P w K mg base "_law_house" 9 ["deck"] sp__law_house f__law_house fd__law_house) {f__law_deck : Addr} {fd__law_deck : FuncData} (T__law_deck : FT P w K mg base "_law_deck" 1 ["script", "at"] sp__law_deck f__law_deck fd__law_deck) {f__law_take : Addr} {fd__law_take : FuncData} (T__law_take : FT P w K mg base "_law_take" 1 ["deck", "many"] sp__law_take f__law_take fd__law_take) {f__law_same : Addr} {fd__law_same : FuncData} (T__law_same : FT P w K mg base "_law_same" 9 ["found", "due"] sp__law_same f__law_same fd__law_same) {f__law_due : Addr} {fd__law_due : FuncData} (T__law_due : FT P w K mg base "_law_due" 2 ["house", "word"] sp__law_due f__law_due fd__law_due) {f__law_told : Addr} {fd__law_told : FuncData} (T__law_told : FT P w K mg base "_law_told" 10 ["house", "word"] sp__law_told f__law_told fd__law_told) (m_repr : mg "repr" = none) (m_range : mg "range" = none) (m_max : mg "max" = none) (m_min : mg "min" = none) (m_len : mg "len" = none) (hsm : smC K = true) : FnG P w K mg base 11 f fd ["script"] (LP K mg 1 sp_law) := def_okG F sc_law (fun cdv A outer s H E hG hr => by
  have nd := sc_law.nd
  have hu := hr.units
  have hp := own_cx (P := P) (w := w) (K := K) (mg := mg) (base := base) (N := ["script", "houses", "asked", "words", "kept", "at", "deck", "turn", "where", "word"]) (qual := "law") (scope := defScope s_law) (f := f) (cd := cdv) (A := A) (outer := outer) (s := s) (H := H) (E := E)
  have hx := pass_cx (P := P) (w := w) (K := K) (mg := mg) (base := base) (N := ["script", "houses", "asked", "words", "kept", "at", "deck", "turn", "where", "word"]) (qual := "law") (scope := defScope s_law) (f := f) (cd := cdv) (A := A) (outer := outer) (s := s) (H := H) (E := E)
  exact (q_scons (q_par (i := 1) (j := 2) rfl nd (q_cons (q_lst (q_cons (q_call T__law_house.ok (hr.mono (by decide)) (by rfl) T__law_house.hm T__law_house.hk T__law_house.hb hx (q_cons (q_call T__law_deck.ok (hr.mono (by decide)) (by rfl) T__law_deck.hm T__law_deck.hk T__law_deck.hb hx (q_cons (q_var 0) (q_cons q_int q_nil))) q_nil)) (q_cons (q_call T__law_house.ok (hr.mono (by decide)) (by rfl) T__law_house.hm T__law_house.hk T__law_house.hb hx (q_cons (q_call T__law_deck.ok (hr.mono (by decide)) (by rfl) T__law_deck.hm T__law_deck.hk T__law_deck.hb hx (q_cons (q_var 0) (q_cons q_int q_nil))) q_nil)) q_nil))) (q_cons (q_lst q_nil) q_nil))) (q_scons (q_set (i := 3) nd (q_lst (q_cons q_str (q_cons q_str (q_cons q_str (q_cons q_str (q_cons q_str (q_cons q_str (q_cons q_str (q_cons q_str (q_cons q_str (q_cons q_str (q_cons q_str (q_cons q_str q_nil)))))))))))))) (q_scons (q_par (i := 3) (j := 4) rfl nd (q_cons (q_op o_add (q_var 3) (q_lst (q_cons q_str q_nil))) (q_cons (q_callB (c_reprD hsm hG hr) (by rfl) m_repr PyProof.Rows.boot_repr (q_cons (q_var 1) q_nil)) q_nil))) (q_scons (q_for hp rfl (q_rg2 (by rfl) m_range (q_cons q_int (q_cons (q_callB (c_max rfl) (by rfl) m_max boot_max (q_cons q_int (q_cons (q_callB (c_min rfl) (by rfl) m_min boot_min (q_cons (q_callB c_len (by rfl) m_len boot_len (q_cons (q_var 0) q_nil)) (q_cons q_int q_nil))) q_nil))) q_nil))) (q_gnm (i := 5) nd) (q_scons (q_set (i := 6) nd (q_call T__law_deck.ok (hr.mono (by decide)) (by rfl) T__law_deck.hm T__law_deck.hk T__law_deck.hb hx (q_cons (q_var 0) (q_cons (q_var 5) q_nil)))) (q_one1 (q_for hp rfl (q_rg1 (by rfl) m_range (q_cons q_int q_nil)) (q_gnm (i := 7) nd) (q_scons (q_par (i := 8) (j := 9) rfl nd (q_cons (q_call T__law_take.ok (hr.mono (by decide)) (by rfl) T__law_take.hm T__law_take.hk T__law_take.hb hx (q_cons (q_var 6) (q_cons q_int q_nil))) (q_cons (q_ix (q_var 3) (q_call T__law_take.ok (hr.mono (by decide)) (by rfl) T__law_take.hm T__law_take.hk T__law_take.hb hx (q_cons (q_var 6) (q_cons q_int q_nil)))) q_nil))) (q_scons (q_expr (q_met PySem.F.slot_list_append PySem.F.type_list_append m_app (q_var 2) (q_cons (q_tup (q_cons (q_var 8) (q_cons (q_var 9) q_nil))) q_nil))) (q_one1 (q_if (q_not (q_tval (q_call T__law_same.ok (hr.mono (by decide)) (by rfl) T__law_same.hm T__law_same.hk T__law_same.hb hx (q_cons (q_call T__law_told.ok (hr.mono (by decide)) (by rfl) T__law_told.hm T__law_told.hk T__law_told.hb hx (q_cons (q_ix (q_var 1) (q_var 8)) (q_cons (q_var 9) q_nil))) (q_cons (q_call T__law_due.ok (hr.mono (by decide)) (by rfl) T__law_due.hm T__law_due.hk T__law_due.hb hx (q_cons (q_ix (q_var 1) (q_var 8)) (q_cons (q_var 9) q_nil))) q_nil))))) (q_one1 (q_ret q_bl)) q_snil)))))))) (q_scons (q_for hp rfl (q_iSq (q_slice (q_var 2) q_noP (q_part q_int))) (q_gtp rfl (q_gscons (q_gnm (i := 8) nd) (q_gscons (q_gnm (i := 9) nd) q_gsnil))) (q_one1 (q_if (q_not (q_tval (q_call T__law_same.ok (hr.mono (by decide)) (by rfl) T__law_same.hm T__law_same.hk T__law_same.hb hx (q_cons (q_call T__law_told.ok (hr.mono (by decide)) (by rfl) T__law_told.hm T__law_told.hk T__law_told.hb hx (q_cons (q_ix (q_var 1) (q_var 8)) (q_cons (q_var 9) q_nil))) (q_cons (q_call T__law_due.ok (hr.mono (by decide)) (by rfl) T__law_due.hm T__law_due.hk T__law_due.hb hx (q_cons (q_ix (q_var 1) (q_var 8)) (q_cons (q_var 9) q_nil))) q_nil))))) (q_one1 (q_ret q_bl)) q_snil))) (q_one1 (q_ret (q_cmp (o_eq hu) (q_callB (c_reprD hsm hG hr) (by rfl) m_repr PyProof.Rows.boot_repr (q_cons (q_var 1) q_nil)) (q_var 4)))))))))) k_law
end
def d_is_integer : He.DefD := ⟨("is_integer", none), "is_integer", "is_integer", defArgs s_is_integer, defBody s_is_integer, defScope s_is_integer, [], []⟩
def d_is_natural : He.DefD := ⟨("is_natural", none), "is_natural", "is_natural", defArgs s_is_natural, defBody s_is_natural, defScope s_is_natural, [], []⟩
def d_is_below : He.DefD := ⟨("is_below", none), "is_below", "is_below", defArgs s_is_below, defBody s_is_below, defScope s_is_below, [], []⟩
def d_is_pair : He.DefD := ⟨("is_pair", none), "is_pair", "is_pair", defArgs s_is_pair, defBody s_is_pair, defScope s_is_pair, [], []⟩
def d_is_row_or_list : He.DefD := ⟨("is_row_or_list", none), "is_row_or_list", "is_row_or_list", defArgs s_is_row_or_list, defBody s_is_row_or_list, defScope s_is_row_or_list, [], []⟩
def d_is_ascending : He.DefD := ⟨("is_ascending", none), "is_ascending", "is_ascending", defArgs s_is_ascending, defBody s_is_ascending, defScope s_is_ascending, [], []⟩
def d_is_ascending_below : He.DefD := ⟨("is_ascending_below", none), "is_ascending_below", "is_ascending_below", defArgs s_is_ascending_below, defBody s_is_ascending_below, defScope s_is_ascending_below, [], []⟩
def d_sum_of_words : He.DefD := ⟨("sum_of_words", none), "sum_of_words", "sum_of_words", defArgs s_sum_of_words, defBody s_sum_of_words, defScope s_sum_of_words, [], []⟩
def d_bits_of : He.DefD := ⟨("bits_of", none), "bits_of", "bits_of", defArgs s_bits_of, defBody s_bits_of, defScope s_bits_of, [], []⟩
def d_is_row_of : He.DefD := ⟨("is_row_of", none), "is_row_of", "is_row_of", defArgs s_is_row_of, defBody s_is_row_of, defScope s_is_row_of, [], []⟩
def d_is_book : He.DefD := ⟨("is_book", none), "is_book", "is_book", defArgs s_is_book, defBody s_is_book, defScope s_is_book, [], []⟩
def d_check_book : He.DefD := ⟨("check_book", none), "check_book", "check_book", defArgs s_check_book, defBody s_check_book, defScope s_check_book, [], []⟩
def d_check_cells : He.DefD := ⟨("check_cells", none), "check_cells", "check_cells", defArgs s_check_cells, defBody s_check_cells, defScope s_check_cells, [], []⟩
def d_check_key : He.DefD := ⟨("check_key", none), "check_key", "check_key", defArgs s_check_key, defBody s_check_key, defScope s_check_key, [], []⟩
def d_check_cell : He.DefD := ⟨("check_cell", none), "check_cell", "check_cell", defArgs s_check_cell, defBody s_check_cell, defScope s_check_cell, [], []⟩
def d_is_lot_of : He.DefD := ⟨("is_lot_of", none), "is_lot_of", "is_lot_of", defArgs s_is_lot_of, defBody s_is_lot_of, defScope s_is_lot_of, [], []⟩
def d_check_lot : He.DefD := ⟨("check_lot", none), "check_lot", "check_lot", defArgs s_check_lot, defBody s_check_lot, defScope s_check_lot, [], []⟩
def d_row_of_cells : He.DefD := ⟨("row_of_cells", none), "row_of_cells", "row_of_cells", defArgs s_row_of_cells, defBody s_row_of_cells, defScope s_row_of_cells, [], []⟩
def d_book : He.DefD := ⟨("book", none), "book", "book", defArgs s_book, defBody s_book, defScope s_book, [], []⟩
def d_with_key : He.DefD := ⟨("with_key", none), "with_key", "with_key", defArgs s_with_key, defBody s_with_key, defScope s_with_key, [], []⟩
def d_without_key : He.DefD := ⟨("without_key", none), "without_key", "without_key", defArgs s_without_key, defBody s_without_key, defScope s_without_key, [], []⟩
def d_keys_at : He.DefD := ⟨("keys_at", none), "keys_at", "keys_at", defArgs s_keys_at, defBody s_keys_at, defScope s_keys_at, [], []⟩
def d_keys_of : He.DefD := ⟨("keys_of", none), "keys_of", "keys_of", defArgs s_keys_of, defBody s_keys_of, defScope s_keys_of, [], []⟩
def d_cells_in : He.DefD := ⟨("cells_in", none), "cells_in", "cells_in", defArgs s_cells_in, defBody s_cells_in, defScope s_cells_in, [], []⟩
def d_cells_of : He.DefD := ⟨("cells_of", none), "cells_of", "cells_of", defArgs s_cells_of, defBody s_cells_of, defScope s_cells_of, [], []⟩
def d_part_of : He.DefD := ⟨("part_of", none), "part_of", "part_of", defArgs s_part_of, defBody s_part_of, defScope s_part_of, [], []⟩
def d_part : He.DefD := ⟨("part", none), "part", "part", defArgs s_part, defBody s_part, defScope s_part, [], []⟩
def d_check_word : He.DefD := ⟨("check_word", none), "check_word", "check_word", defArgs s_check_word, defBody s_check_word, defScope s_check_word, [], []⟩
def d_check_wide : He.DefD := ⟨("check_wide", none), "check_wide", "check_wide", defArgs s_check_wide, defBody s_check_wide, defScope s_check_wide, [], []⟩
def d_added : He.DefD := ⟨("added", none), "added", "added", defArgs s_added, defBody s_added, defScope s_added, [], []⟩
def d_added_all : He.DefD := ⟨("added_all", none), "added_all", "added_all", defArgs s_added_all, defBody s_added_all, defScope s_added_all, [], []⟩
def d_bits : He.DefD := ⟨("bits", none), "bits", "bits", defArgs s_bits, defBody s_bits, defScope s_bits, [], []⟩
def d_width_of : He.DefD := ⟨("width_of", none), "width_of", "width_of", defArgs s_width_of, defBody s_width_of, defScope s_width_of, [], []⟩
def d_width : He.DefD := ⟨("width", none), "width", "width", defArgs s_width, defBody s_width, defScope s_width, [], []⟩
def d_is_word_of : He.DefD := ⟨("is_word_of", none), "is_word_of", "is_word_of", defArgs s_is_word_of, defBody s_is_word_of, defScope s_is_word_of, [], []⟩
def d_is_word : He.DefD := ⟨("is_word", none), "is_word", "is_word", defArgs s_is_word, defBody s_is_word, defScope s_is_word, [], []⟩
def d__law_deck : He.DefD := ⟨("_law_deck", none), "_law_deck", "_law_deck", defArgs s__law_deck, defBody s__law_deck, defScope s__law_deck, [], []⟩
def d__law_take : He.DefD := ⟨("_law_take", none), "_law_take", "_law_take", defArgs s__law_take, defBody s__law_take, defScope s__law_take, [], []⟩
def d__law_same : He.DefD := ⟨("_law_same", none), "_law_same", "_law_same", defArgs s__law_same, defBody s__law_same, defScope s__law_same, [], []⟩
def d__law_word : He.DefD := ⟨("_law_word", none), "_law_word", "_law_word", defArgs s__law_word, defBody s__law_word, defScope s__law_word, [], []⟩
def d__law_sum : He.DefD := ⟨("_law_sum", none), "_law_sum", "_law_sum", defArgs s__law_sum, defBody s__law_sum, defScope s__law_sum, [], []⟩
def d__law_cells : He.DefD := ⟨("_law_cells", none), "_law_cells", "_law_cells", defArgs s__law_cells, defBody s__law_cells, defScope s__law_cells, [], []⟩
def d__law_page : He.DefD := ⟨("_law_page", none), "_law_page", "_law_page", defArgs s__law_page, defBody s__law_page, defScope s__law_page, [], []⟩
def d__law_lot : He.DefD := ⟨("_law_lot", none), "_law_lot", "_law_lot", defArgs s__law_lot, defBody s__law_lot, defScope s__law_lot, [], []⟩
def d__law_keys : He.DefD := ⟨("_law_keys", none), "_law_keys", "_law_keys", defArgs s__law_keys, defBody s__law_keys, defScope s__law_keys, [], []⟩
def d__law_cells_of : He.DefD := ⟨("_law_cells_of", none), "_law_cells_of", "_law_cells_of", defArgs s__law_cells_of, defBody s__law_cells_of, defScope s__law_cells_of, [], []⟩
def d__law_house : He.DefD := ⟨("_law_house", none), "_law_house", "_law_house", defArgs s__law_house, defBody s__law_house, defScope s__law_house, [], []⟩
def d__law_places : He.DefD := ⟨("_law_places", none), "_law_places", "_law_places", defArgs s__law_places, defBody s__law_places, defScope s__law_places, [], []⟩
def d__law_due : He.DefD := ⟨("_law_due", none), "_law_due", "_law_due", defArgs s__law_due, defBody s__law_due, defScope s__law_due, [], []⟩
def d__law_added_all : He.DefD := ⟨("_law_added_all", none), "_law_added_all", "_law_added_all", defArgs s__law_added_all, defBody s__law_added_all, defScope s__law_added_all, [], []⟩
def d__law_made : He.DefD := ⟨("_law_made", none), "_law_made", "_law_made", defArgs s__law_made, defBody s__law_made, defScope s__law_made, [], []⟩
def d__law_refused : He.DefD := ⟨("_law_refused", none), "_law_refused", "_law_refused", defArgs s__law_refused, defBody s__law_refused, defScope s__law_refused, [], []⟩
def d__law_told : He.DefD := ⟨("_law_told", none), "_law_told", "_law_told", defArgs s__law_told, defBody s__law_told, defScope s__law_told, [], []⟩
def d_law : He.DefD := ⟨("law", none), "law", "law", defArgs s_law, defBody s_law, defScope s_law, [], []⟩
def d_init : He.DefD := ⟨("TellError", some "__init__"), "__init__", "TellError.__init__", defArgs s_init, defBody s_init, defScope s_init, [], []⟩
def fn : List He.DefD := [d_is_integer, d_is_natural, d_is_below, d_is_pair, d_is_row_or_list, d_is_ascending, d_is_ascending_below, d_sum_of_words, d_bits_of, d_is_row_of, d_is_book, d_check_book, d_check_cells, d_check_key, d_check_cell, d_is_lot_of, d_check_lot, d_row_of_cells, d_book, d_with_key, d_without_key, d_keys_at, d_keys_of, d_cells_in, d_cells_of, d_part_of, d_part, d_check_word, d_check_wide, d_added, d_added_all, d_bits, d_width_of, d_width, d_is_word_of, d_is_word, d__law_deck, d__law_take, d__law_same, d__law_word, d__law_sum, d__law_cells, d__law_page, d__law_lot, d__law_keys, d__law_cells_of, d__law_house, d__law_places, d__law_due, d__law_added_all, d__law_made, d__law_refused, d__law_told, d_law, d_init]
def fa : List He.Fa := [.glo "is_integer", .glo "is_natural", .glo "is_below", .glo "is_pair", .glo "is_row_or_list", .glo "is_ascending", .glo "is_ascending_below", .glo "sum_of_words", .glo "bits_of", .glo "is_row_of", .glo "is_book", .glo "check_book", .glo "check_cells", .glo "check_key", .glo "check_cell", .glo "is_lot_of", .glo "check_lot", .glo "row_of_cells", .glo "book", .glo "with_key", .glo "without_key", .glo "keys_at", .glo "keys_of", .glo "cells_in", .glo "cells_of", .glo "part_of", .glo "part", .glo "check_word", .glo "check_wide", .glo "added", .glo "added_all", .glo "bits", .glo "width_of", .glo "width", .glo "is_word_of", .glo "is_word", .glo "_law_deck", .glo "_law_take", .glo "_law_same", .glo "_law_word", .glo "_law_sum", .glo "_law_cells", .glo "_law_page", .glo "_law_lot", .glo "_law_keys", .glo "_law_cells_of", .glo "_law_house", .glo "_law_places", .glo "_law_due", .glo "_law_added_all", .glo "_law_made", .glo "_law_refused", .glo "_law_told", .glo "law", .free "isinstance", .free "int", .free "bool", .free "tuple", .free "len", .free "list", .free "all", .free "range", .free "sorted", .free "enumerate", .free "str", .free "max", .free "repr", .free "min", .free "ValueError", .glo "InvalidBook", .glo "InvalidRow", .glo "InvalidKey", .glo "InvalidCell", .glo "InvalidLot", .glo "InvalidWord", .glo "InvalidNumber", .glo "TellError"]
def bf : List (Str × Value) := []
abbrev R : PySem.W.OpenRow := PySem.W.OpenLaw.row PySem.Challenge.rw_keytellers_k06_whole_any_question_behind
def cs : List Chk := [veC, fun K => exB K "InvalidBook", fun K => exB K "InvalidRow", fun K => exB K "InvalidKey", fun K => exB K "InvalidCell", fun K => exB K "InvalidLot", fun K => exB K "InvalidWord", fun K => exB K "InvalidNumber", fun K => exB K "TellError", smC]
abbrev hk : PySem.W.Hook := hookS 5 cs bf fa fn
def ob (s : PySem.W.SharedT) : AlC := obsSG 5 cs bf fa fn (HandSHeadRun.getT s)
theorem ob_eq (s : PySem.W.SharedT) : ob s = hk.obs s.abs := obsSG_eq (HandSHeadRun.getT_eq s)
def loose0 : List Str := ["TellError", "InvalidBook", "InvalidWord", "InvalidNumber", "InvalidKey", "InvalidCell", "InvalidRow", "InvalidLot", "is_integer", "is_natural", "is_below", "is_pair", "is_row_or_list", "is_ascending", "is_ascending_below", "sum_of_words", "bits_of", "is_row_of", "is_book", "check_book", "check_cells", "check_key", "check_cell", "is_lot_of", "check_lot", "row_of_cells", "book", "with_key", "without_key", "keys_at"]
def loose1 : List Str := ["keys_of", "cells_in", "cells_of", "part_of", "part", "check_word", "check_wide", "added", "added_all", "bits", "width_of", "width", "is_word_of", "is_word", "_law_deck", "_law_take", "_law_same", "_law_word", "_law_sum", "_law_cells", "_law_page", "_law_lot", "_law_keys", "_law_cells_of", "_law_house", "_law_places", "_law_due", "_law_told", "_law_added_all", "_law_made"]
def loose2 : List Str := ["_law_refused"]
abbrev loose : List Str := loose0 ++ loose1 ++ loose2
theorem run (w : World) : HandSHeadRun.RunEq R (PySem.W.view R.prog [66]) hk ob 20000 loose w := by
  intro os
  kernel_rfl
theorem facts {P : Program} {w : World} {K : PySem.W.Frag} {h : Heap} {mg : Str → Option Value} {f : Addr} (X : K.In h) (G : h.Ns mainGlobals mg) (hfa : mg ("law" : Str) = some (.ref f)) (cc : SaysC cs bf fa fn K) :
    ∃ fd : FuncData, (∀ (s : Shared) (v : Value), BindsTo s fd ⟨[v], []⟩ [("script", v)]) ∧ ∀ base : Heap, K.In base → base.Ns mainGlobals mg → FnG P w K mg base 11 f fd ["script"] (LP K mg 1 sp_law) := by
  have cb := cc.2
  have c := cb.2
  obtain ⟨fd_is_integer, F_is_integer⟩ := c.def_ 0 (d := d_is_integer) rfl
  have hm_is_integer := He.glo_ok X G (c.fact 0 (f := .glo "is_integer") rfl)
  obtain ⟨fd_is_natural, F_is_natural⟩ := c.def_ 1 (d := d_is_natural) rfl
  have hm_is_natural := He.glo_ok X G (c.fact 1 (f := .glo "is_natural") rfl)
  obtain ⟨fd_is_below, F_is_below⟩ := c.def_ 2 (d := d_is_below) rfl
  have hm_is_below := He.glo_ok X G (c.fact 2 (f := .glo "is_below") rfl)
  obtain ⟨fd_is_pair, F_is_pair⟩ := c.def_ 3 (d := d_is_pair) rfl
  have hm_is_pair := He.glo_ok X G (c.fact 3 (f := .glo "is_pair") rfl)
  obtain ⟨fd_is_row_or_list, F_is_row_or_list⟩ := c.def_ 4 (d := d_is_row_or_list) rfl
  have hm_is_row_or_list := He.glo_ok X G (c.fact 4 (f := .glo "is_row_or_list") rfl)
  obtain ⟨fd_is_ascending, F_is_ascending⟩ := c.def_ 5 (d := d_is_ascending) rfl
  have hm_is_ascending := He.glo_ok X G (c.fact 5 (f := .glo "is_ascending") rfl)
  obtain ⟨fd_is_ascending_below, F_is_ascending_below⟩ := c.def_ 6 (d := d_is_ascending_below) rfl
  have hm_is_ascending_below := He.glo_ok X G (c.fact 6 (f := .glo "is_ascending_below") rfl)
  obtain ⟨fd_sum_of_words, F_sum_of_words⟩ := c.def_ 7 (d := d_sum_of_words) rfl
  have hm_sum_of_words := He.glo_ok X G (c.fact 7 (f := .glo "sum_of_words") rfl)
  obtain ⟨fd_bits_of, F_bits_of⟩ := c.def_ 8 (d := d_bits_of) rfl
  have hm_bits_of := He.glo_ok X G (c.fact 8 (f := .glo "bits_of") rfl)
  obtain ⟨fd_is_row_of, F_is_row_of⟩ := c.def_ 9 (d := d_is_row_of) rfl
  have hm_is_row_of := He.glo_ok X G (c.fact 9 (f := .glo "is_row_of") rfl)
  obtain ⟨fd_is_book, F_is_book⟩ := c.def_ 10 (d := d_is_book) rfl
  have hm_is_book := He.glo_ok X G (c.fact 10 (f := .glo "is_book") rfl)
  obtain ⟨fd_check_book, F_check_book⟩ := c.def_ 11 (d := d_check_book) rfl
  have hm_check_book := He.glo_ok X G (c.fact 11 (f := .glo "check_book") rfl)
  obtain ⟨fd_check_cells, F_check_cells⟩ := c.def_ 12 (d := d_check_cells) rfl
  have hm_check_cells := He.glo_ok X G (c.fact 12 (f := .glo "check_cells") rfl)
  obtain ⟨fd_check_key, F_check_key⟩ := c.def_ 13 (d := d_check_key) rfl
  have hm_check_key := He.glo_ok X G (c.fact 13 (f := .glo "check_key") rfl)
  obtain ⟨fd_check_cell, F_check_cell⟩ := c.def_ 14 (d := d_check_cell) rfl
  have hm_check_cell := He.glo_ok X G (c.fact 14 (f := .glo "check_cell") rfl)
  obtain ⟨fd_is_lot_of, F_is_lot_of⟩ := c.def_ 15 (d := d_is_lot_of) rfl
  have hm_is_lot_of := He.glo_ok X G (c.fact 15 (f := .glo "is_lot_of") rfl)
  obtain ⟨fd_check_lot, F_check_lot⟩ := c.def_ 16 (d := d_check_lot) rfl
  have hm_check_lot := He.glo_ok X G (c.fact 16 (f := .glo "check_lot") rfl)
  obtain ⟨fd_row_of_cells, F_row_of_cells⟩ := c.def_ 17 (d := d_row_of_cells) rfl
  have hm_row_of_cells := He.glo_ok X G (c.fact 17 (f := .glo "row_of_cells") rfl)
  obtain ⟨fd_book, F_book⟩ := c.def_ 18 (d := d_book) rfl
  have hm_book := He.glo_ok X G (c.fact 18 (f := .glo "book") rfl)
  obtain ⟨fd_with_key, F_with_key⟩ := c.def_ 19 (d := d_with_key) rfl
  have hm_with_key := He.glo_ok X G (c.fact 19 (f := .glo "with_key") rfl)
  obtain ⟨fd_without_key, F_without_key⟩ := c.def_ 20 (d := d_without_key) rfl
  have hm_without_key := He.glo_ok X G (c.fact 20 (f := .glo "without_key") rfl)
  obtain ⟨fd_keys_at, F_keys_at⟩ := c.def_ 21 (d := d_keys_at) rfl
  have hm_keys_at := He.glo_ok X G (c.fact 21 (f := .glo "keys_at") rfl)
  obtain ⟨fd_keys_of, F_keys_of⟩ := c.def_ 22 (d := d_keys_of) rfl
  have hm_keys_of := He.glo_ok X G (c.fact 22 (f := .glo "keys_of") rfl)
  obtain ⟨fd_cells_in, F_cells_in⟩ := c.def_ 23 (d := d_cells_in) rfl
  have hm_cells_in := He.glo_ok X G (c.fact 23 (f := .glo "cells_in") rfl)
  obtain ⟨fd_cells_of, F_cells_of⟩ := c.def_ 24 (d := d_cells_of) rfl
  have hm_cells_of := He.glo_ok X G (c.fact 24 (f := .glo "cells_of") rfl)
  obtain ⟨fd_part_of, F_part_of⟩ := c.def_ 25 (d := d_part_of) rfl
  have hm_part_of := He.glo_ok X G (c.fact 25 (f := .glo "part_of") rfl)
  obtain ⟨fd_part, F_part⟩ := c.def_ 26 (d := d_part) rfl
  have hm_part := He.glo_ok X G (c.fact 26 (f := .glo "part") rfl)
  obtain ⟨fd_check_word, F_check_word⟩ := c.def_ 27 (d := d_check_word) rfl
  have hm_check_word := He.glo_ok X G (c.fact 27 (f := .glo "check_word") rfl)
  obtain ⟨fd_check_wide, F_check_wide⟩ := c.def_ 28 (d := d_check_wide) rfl
  have hm_check_wide := He.glo_ok X G (c.fact 28 (f := .glo "check_wide") rfl)
  obtain ⟨fd_added, F_added⟩ := c.def_ 29 (d := d_added) rfl
  have hm_added := He.glo_ok X G (c.fact 29 (f := .glo "added") rfl)
  obtain ⟨fd_added_all, F_added_all⟩ := c.def_ 30 (d := d_added_all) rfl
  have hm_added_all := He.glo_ok X G (c.fact 30 (f := .glo "added_all") rfl)
  obtain ⟨fd_bits, F_bits⟩ := c.def_ 31 (d := d_bits) rfl
  have hm_bits := He.glo_ok X G (c.fact 31 (f := .glo "bits") rfl)
  obtain ⟨fd_width_of, F_width_of⟩ := c.def_ 32 (d := d_width_of) rfl
  have hm_width_of := He.glo_ok X G (c.fact 32 (f := .glo "width_of") rfl)
  obtain ⟨fd_width, F_width⟩ := c.def_ 33 (d := d_width) rfl
  have hm_width := He.glo_ok X G (c.fact 33 (f := .glo "width") rfl)
  obtain ⟨fd_is_word_of, F_is_word_of⟩ := c.def_ 34 (d := d_is_word_of) rfl
  have hm_is_word_of := He.glo_ok X G (c.fact 34 (f := .glo "is_word_of") rfl)
  obtain ⟨fd_is_word, F_is_word⟩ := c.def_ 35 (d := d_is_word) rfl
  have hm_is_word := He.glo_ok X G (c.fact 35 (f := .glo "is_word") rfl)
  obtain ⟨fd__law_deck, F__law_deck⟩ := c.def_ 36 (d := d__law_deck) rfl
  have hm__law_deck := He.glo_ok X G (c.fact 36 (f := .glo "_law_deck") rfl)
  obtain ⟨fd__law_take, F__law_take⟩ := c.def_ 37 (d := d__law_take) rfl
  have hm__law_take := He.glo_ok X G (c.fact 37 (f := .glo "_law_take") rfl)
  obtain ⟨fd__law_same, F__law_same⟩ := c.def_ 38 (d := d__law_same) rfl
  have hm__law_same := He.glo_ok X G (c.fact 38 (f := .glo "_law_same") rfl)
  obtain ⟨fd__law_word, F__law_word⟩ := c.def_ 39 (d := d__law_word) rfl
  have hm__law_word := He.glo_ok X G (c.fact 39 (f := .glo "_law_word") rfl)
  obtain ⟨fd__law_sum, F__law_sum⟩ := c.def_ 40 (d := d__law_sum) rfl
  have hm__law_sum := He.glo_ok X G (c.fact 40 (f := .glo "_law_sum") rfl)
  obtain ⟨fd__law_cells, F__law_cells⟩ := c.def_ 41 (d := d__law_cells) rfl
  have hm__law_cells := He.glo_ok X G (c.fact 41 (f := .glo "_law_cells") rfl)
  obtain ⟨fd__law_page, F__law_page⟩ := c.def_ 42 (d := d__law_page) rfl
  have hm__law_page := He.glo_ok X G (c.fact 42 (f := .glo "_law_page") rfl)
  obtain ⟨fd__law_lot, F__law_lot⟩ := c.def_ 43 (d := d__law_lot) rfl
  have hm__law_lot := He.glo_ok X G (c.fact 43 (f := .glo "_law_lot") rfl)
  obtain ⟨fd__law_keys, F__law_keys⟩ := c.def_ 44 (d := d__law_keys) rfl
  have hm__law_keys := He.glo_ok X G (c.fact 44 (f := .glo "_law_keys") rfl)
  obtain ⟨fd__law_cells_of, F__law_cells_of⟩ := c.def_ 45 (d := d__law_cells_of) rfl
  have hm__law_cells_of := He.glo_ok X G (c.fact 45 (f := .glo "_law_cells_of") rfl)
  obtain ⟨fd__law_house, F__law_house⟩ := c.def_ 46 (d := d__law_house) rfl
  have hm__law_house := He.glo_ok X G (c.fact 46 (f := .glo "_law_house") rfl)
  obtain ⟨fd__law_places, F__law_places⟩ := c.def_ 47 (d := d__law_places) rfl
  have hm__law_places := He.glo_ok X G (c.fact 47 (f := .glo "_law_places") rfl)
  obtain ⟨fd__law_due, F__law_due⟩ := c.def_ 48 (d := d__law_due) rfl
  have hm__law_due := He.glo_ok X G (c.fact 48 (f := .glo "_law_due") rfl)
  obtain ⟨fd__law_added_all, F__law_added_all⟩ := c.def_ 49 (d := d__law_added_all) rfl
  have hm__law_added_all := He.glo_ok X G (c.fact 49 (f := .glo "_law_added_all") rfl)
  obtain ⟨fd__law_made, F__law_made⟩ := c.def_ 50 (d := d__law_made) rfl
  have hm__law_made := He.glo_ok X G (c.fact 50 (f := .glo "_law_made") rfl)
  obtain ⟨fd__law_refused, F__law_refused⟩ := c.def_ 51 (d := d__law_refused) rfl
  have hm__law_refused := He.glo_ok X G (c.fact 51 (f := .glo "_law_refused") rfl)
  obtain ⟨fd__law_told, F__law_told⟩ := c.def_ 52 (d := d__law_told) rfl
  have hm__law_told := He.glo_ok X G (c.fact 52 (f := .glo "_law_told") rfl)
  obtain ⟨fd_law, F_law⟩ := c.def_ 53 (d := d_law) rfl
  have hm_law := He.glo_ok X G (c.fact 53 (f := .glo "law") rfl)
  have m_isinstance := He.free_ok X G (c.fact 54 (f := .free "isinstance") rfl)
  have m_int := He.free_ok X G (c.fact 55 (f := .free "int") rfl)
  have m_bool := He.free_ok X G (c.fact 56 (f := .free "bool") rfl)
  have m_tuple := He.free_ok X G (c.fact 57 (f := .free "tuple") rfl)
  have m_len := He.free_ok X G (c.fact 58 (f := .free "len") rfl)
  have m_list := He.free_ok X G (c.fact 59 (f := .free "list") rfl)
  have m_all := He.free_ok X G (c.fact 60 (f := .free "all") rfl)
  have m_range := He.free_ok X G (c.fact 61 (f := .free "range") rfl)
  have m_sorted := He.free_ok X G (c.fact 62 (f := .free "sorted") rfl)
  have m_enumerate := He.free_ok X G (c.fact 63 (f := .free "enumerate") rfl)
  have m_str := He.free_ok X G (c.fact 64 (f := .free "str") rfl)
  have m_max := He.free_ok X G (c.fact 65 (f := .free "max") rfl)
  have m_repr := He.free_ok X G (c.fact 66 (f := .free "repr") rfl)
  have m_min := He.free_ok X G (c.fact 67 (f := .free "min") rfl)
  have m_ValueError := He.free_ok X G (c.fact 68 (f := .free "ValueError") rfl)
  obtain ⟨fd_init, F_init⟩ := c.def_ 54 (d := d_init) rfl
  have hI : ∀ base : Heap, IniT P w K mg base fd_init := fun base => ⟨ok_init F_init m_ValueError (veC_ok (cc.chk 0 rfl)), FunD.bindsN F_init fun _ _ _ _ _ _ us hl => match us, hl with | [_, _], _ => rfl⟩
  have x_InvalidBook : exB K "InvalidBook" = true := cc.chk 1 rfl
  have c_InvalidBook := He.glo_ok X G (c.fact 69 (f := .glo "InvalidBook") rfl)
  have x_InvalidRow : exB K "InvalidRow" = true := cc.chk 2 rfl
  have c_InvalidRow := He.glo_ok X G (c.fact 70 (f := .glo "InvalidRow") rfl)
  have x_InvalidKey : exB K "InvalidKey" = true := cc.chk 3 rfl
  have c_InvalidKey := He.glo_ok X G (c.fact 71 (f := .glo "InvalidKey") rfl)
  have x_InvalidCell : exB K "InvalidCell" = true := cc.chk 4 rfl
  have c_InvalidCell := He.glo_ok X G (c.fact 72 (f := .glo "InvalidCell") rfl)
  have x_InvalidLot : exB K "InvalidLot" = true := cc.chk 5 rfl
  have c_InvalidLot := He.glo_ok X G (c.fact 73 (f := .glo "InvalidLot") rfl)
  have x_InvalidWord : exB K "InvalidWord" = true := cc.chk 6 rfl
  have c_InvalidWord := He.glo_ok X G (c.fact 74 (f := .glo "InvalidWord") rfl)
  have x_InvalidNumber : exB K "InvalidNumber" = true := cc.chk 7 rfl
  have c_InvalidNumber := He.glo_ok X G (c.fact 75 (f := .glo "InvalidNumber") rfl)
  have x_TellError : exB K "TellError" = true := cc.chk 8 rfl
  have c_TellError := He.glo_ok X G (c.fact 76 (f := .glo "TellError") rfl)
  have hsm : smC K = true := cc.chk 9 rfl
  have e := hfa.symm.trans hm_law
  cases e
  have b_is_integer : Binds K fd_is_integer ["value"] [] := FunD.bindsN F_is_integer fun _ _ _ _ _ _ us hl => match us, hl with | [_], _ => rfl
  have b_is_natural : Binds K fd_is_natural ["value"] [] := FunD.bindsN F_is_natural fun _ _ _ _ _ _ us hl => match us, hl with | [_], _ => rfl
  have b_is_below : Binds K fd_is_below ["value", "many"] [] := FunD.bindsN F_is_below fun _ _ _ _ _ _ us hl => match us, hl with | [_, _], _ => rfl
  have b_is_pair : Binds K fd_is_pair ["value"] [] := FunD.bindsN F_is_pair fun _ _ _ _ _ _ us hl => match us, hl with | [_], _ => rfl
  have b_is_row_or_list : Binds K fd_is_row_or_list ["value"] [] := FunD.bindsN F_is_row_or_list fun _ _ _ _ _ _ us hl => match us, hl with | [_], _ => rfl
  have b_is_ascending : Binds K fd_is_ascending ["row"] [] := FunD.bindsN F_is_ascending fun _ _ _ _ _ _ us hl => match us, hl with | [_], _ => rfl
  have b_is_ascending_below : Binds K fd_is_ascending_below ["value", "many"] [] := FunD.bindsN F_is_ascending_below fun _ _ _ _ _ _ us hl => match us, hl with | [_, _], _ => rfl
  have b_sum_of_words : Binds K fd_sum_of_words ["words"] [] := FunD.bindsN F_sum_of_words fun _ _ _ _ _ _ us hl => match us, hl with | [_], _ => rfl
  have b_bits_of : Binds K fd_bits_of ["a"] [] := FunD.bindsN F_bits_of fun _ _ _ _ _ _ us hl => match us, hl with | [_], _ => rfl
  have b_is_row_of : Binds K fd_is_row_of ["m", "told"] [] := FunD.bindsN F_is_row_of fun _ _ _ _ _ _ us hl => match us, hl with | [_, _], _ => rfl
  have b_is_book : Binds K fd_is_book ["told"] [] := FunD.bindsN F_is_book fun _ _ _ _ _ _ us hl => match us, hl with | [_], _ => rfl
  have b_check_book : Binds K fd_check_book ["book"] [] := FunD.bindsN F_check_book fun _ _ _ _ _ _ us hl => match us, hl with | [_], _ => rfl
  have b_check_cells : Binds K fd_check_cells ["m", "row"] [] := FunD.bindsN F_check_cells fun _ _ _ _ _ _ us hl => match us, hl with | [_, _], _ => rfl
  have b_check_key : Binds K fd_check_key ["book", "key"] [] := FunD.bindsN F_check_key fun _ _ _ _ _ _ us hl => match us, hl with | [_, _], _ => rfl
  have b_check_cell : Binds K fd_check_cell ["book", "cell"] [] := FunD.bindsN F_check_cell fun _ _ _ _ _ _ us hl => match us, hl with | [_, _], _ => rfl
  have b_is_lot_of : Binds K fd_is_lot_of ["book", "told"] [] := FunD.bindsN F_is_lot_of fun _ _ _ _ _ _ us hl => match us, hl with | [_, _], _ => rfl
  have b_check_lot : Binds K fd_check_lot ["book", "lot"] [] := FunD.bindsN F_check_lot fun _ _ _ _ _ _ us hl => match us, hl with | [_, _], _ => rfl
  have b_row_of_cells : Binds K fd_row_of_cells ["cells"] [] := FunD.bindsN F_row_of_cells fun _ _ _ _ _ _ us hl => match us, hl with | [_], _ => rfl
  have b_book : Binds K fd_book ["m", "rows"] [] := FunD.bindsN F_book fun _ _ _ _ _ _ us hl => match us, hl with | [_, _], _ => rfl
  have b_with_key : Binds K fd_with_key ["book", "row"] [] := FunD.bindsN F_with_key fun _ _ _ _ _ _ us hl => match us, hl with | [_, _], _ => rfl
  have b_without_key : Binds K fd_without_key ["book", "key"] [] := FunD.bindsN F_without_key fun _ _ _ _ _ _ us hl => match us, hl with | [_, _], _ => rfl
  have b_keys_at : Binds K fd_keys_at ["book", "cell"] [] := FunD.bindsN F_keys_at fun _ _ _ _ _ _ us hl => match us, hl with | [_, _], _ => rfl
  have b_keys_of : Binds K fd_keys_of ["book", "cell"] [] := FunD.bindsN F_keys_of fun _ _ _ _ _ _ us hl => match us, hl with | [_, _], _ => rfl
  have b_cells_in : Binds K fd_cells_in ["book", "lot"] [] := FunD.bindsN F_cells_in fun _ _ _ _ _ _ us hl => match us, hl with | [_, _], _ => rfl
  have b_cells_of : Binds K fd_cells_of ["book", "lot"] [] := FunD.bindsN F_cells_of fun _ _ _ _ _ _ us hl => match us, hl with | [_, _], _ => rfl
  have b_part_of : Binds K fd_part_of ["book", "lot"] [] := FunD.bindsN F_part_of fun _ _ _ _ _ _ us hl => match us, hl with | [_, _], _ => rfl
  have b_part : Binds K fd_part ["book", "lot"] [] := FunD.bindsN F_part fun _ _ _ _ _ _ us hl => match us, hl with | [_, _], _ => rfl
  have b_check_word : Binds K fd_check_word ["a"] [] := FunD.bindsN F_check_word fun _ _ _ _ _ _ us hl => match us, hl with | [_], _ => rfl
  have b_check_wide : Binds K fd_check_wide ["w"] [] := FunD.bindsN F_check_wide fun _ _ _ _ _ _ us hl => match us, hl with | [_], _ => rfl
  have b_added : Binds K fd_added ["a", "b"] [] := FunD.bindsN F_added fun _ _ _ _ _ _ us hl => match us, hl with | [_, _], _ => rfl
  have b_added_all : Binds K fd_added_all ["some"] [] := FunD.bindsN F_added_all fun _ _ _ _ _ _ us hl => match us, hl with | [_], _ => rfl
  have b_bits : Binds K fd_bits ["a"] [] := FunD.bindsN F_bits fun _ _ _ _ _ _ us hl => match us, hl with | [_], _ => rfl
  have b_width_of : Binds K fd_width_of ["a"] [] := FunD.bindsN F_width_of fun _ _ _ _ _ _ us hl => match us, hl with | [_], _ => rfl
  have b_width : Binds K fd_width ["a"] [] := FunD.bindsN F_width fun _ _ _ _ _ _ us hl => match us, hl with | [_], _ => rfl
  have b_is_word_of : Binds K fd_is_word_of ["w", "told"] [] := FunD.bindsN F_is_word_of fun _ _ _ _ _ _ us hl => match us, hl with | [_, _], _ => rfl
  have b_is_word : Binds K fd_is_word ["w", "told"] [] := FunD.bindsN F_is_word fun _ _ _ _ _ _ us hl => match us, hl with | [_, _], _ => rfl
  have b__law_deck : Binds K fd__law_deck ["script", "at"] [] := FunD.bindsN F__law_deck fun _ _ _ _ _ _ us hl => match us, hl with | [_, _], _ => rfl
  have b__law_take : Binds K fd__law_take ["deck", "many"] [] := FunD.bindsN F__law_take fun _ _ _ _ _ _ us hl => match us, hl with | [_, _], _ => rfl
  have b__law_same : Binds K fd__law_same ["found", "due"] [] := FunD.bindsN F__law_same fun _ _ _ _ _ _ us hl => match us, hl with | [_, _], _ => rfl
  have b__law_word : Binds K fd__law_word ["deck", "most"] [] := FunD.bindsN F__law_word fun _ _ _ _ _ _ us hl => match us, hl with | [_, _], _ => rfl
  have b__law_sum : Binds K fd__law_sum ["a_word", "b_word"] [] := FunD.bindsN F__law_sum fun _ _ _ _ _ _ us hl => match us, hl with | [_, _], _ => rfl
  have b__law_cells : Binds K fd__law_cells ["deck", "many"] [] := FunD.bindsN F__law_cells fun _ _ _ _ _ _ us hl => match us, hl with | [_, _], _ => rfl
  have b__law_page : Binds K fd__law_page ["deck", "most"] [] := FunD.bindsN F__law_page fun _ _ _ _ _ _ us hl => match us, hl with | [_, _], _ => rfl
  have b__law_lot : Binds K fd__law_lot ["deck", "page"] [] := FunD.bindsN F__law_lot fun _ _ _ _ _ _ us hl => match us, hl with | [_, _], _ => rfl
  have b__law_keys : Binds K fd__law_keys ["page", "cell"] [] := FunD.bindsN F__law_keys fun _ _ _ _ _ _ us hl => match us, hl with | [_, _], _ => rfl
  have b__law_cells_of : Binds K fd__law_cells_of ["page", "lot"] [] := FunD.bindsN F__law_cells_of fun _ _ _ _ _ _ us hl => match us, hl with | [_, _], _ => rfl
  have b__law_house : Binds K fd__law_house ["deck"] [] := FunD.bindsN F__law_house fun _ _ _ _ _ _ us hl => match us, hl with | [_], _ => rfl
  have b__law_places : Binds K fd__law_places ["word"] [] := FunD.bindsN F__law_places fun _ _ _ _ _ _ us hl => match us, hl with | [_], _ => rfl
  have b__law_due : Binds K fd__law_due ["house", "word"] [] := FunD.bindsN F__law_due fun _ _ _ _ _ _ us hl => match us, hl with | [_, _], _ => rfl
  have b__law_added_all : Binds K fd__law_added_all ["words"] [] := FunD.bindsN F__law_added_all fun _ _ _ _ _ _ us hl => match us, hl with | [_], _ => rfl
  have b__law_made : Binds K fd__law_made ["page"] [] := FunD.bindsN F__law_made fun _ _ _ _ _ _ us hl => match us, hl with | [_], _ => rfl
  have b__law_refused : Binds K fd__law_refused ["house"] [] := FunD.bindsN F__law_refused fun _ _ _ _ _ _ us hl => match us, hl with | [_], _ => rfl
  have b__law_told : Binds K fd__law_told ["house", "word"] [] := FunD.bindsN F__law_told fun _ _ _ _ _ _ us hl => match us, hl with | [_, _], _ => rfl
  have b_law : Binds K fd_law ["script"] [] := FunD.bindsN F_law fun _ _ _ _ _ _ us hl => match us, hl with | [_], _ => rfl
  have bA := FunD.bindsA (ps := ["script"]) F_law fun _ _ _ _ _ _ us hl => match us, hl with | [_], _ => rfl
  refine ⟨fd_law, fun s v => bA s [v] rfl, fun base _ _ => ?_⟩
  have hI := hI base
  have T_is_integer : FT P w K mg base "is_integer" 1 ["value"] sp_is_integer _ _ := ⟨ok_is_integer F_is_integer m_isinstance m_int m_bool, hm_is_integer, F_is_integer.kp, b_is_integer⟩
  have T_is_natural : FT P w K mg base "is_natural" 2 ["value"] sp_is_natural _ _ := ⟨ok_is_natural F_is_natural T_is_integer, hm_is_natural, F_is_natural.kp, b_is_natural⟩
  have T_is_below : FT P w K mg base "is_below" 3 ["value", "many"] sp_is_below _ _ := ⟨ok_is_below F_is_below T_is_natural, hm_is_below, F_is_below.kp, b_is_below⟩
  have T_is_pair : FT P w K mg base "is_pair" 1 ["value"] sp_is_pair _ _ := ⟨ok_is_pair F_is_pair m_isinstance m_tuple m_len, hm_is_pair, F_is_pair.kp, b_is_pair⟩
  have T_is_row_or_list : FT P w K mg base "is_row_or_list" 1 ["value"] sp_is_row_or_list _ _ := ⟨ok_is_row_or_list F_is_row_or_list m_isinstance m_list m_tuple, hm_is_row_or_list, F_is_row_or_list.kp, b_is_row_or_list⟩
  have T_is_ascending : FT P w K mg base "is_ascending" 1 ["row"] sp_is_ascending _ _ := ⟨ok_is_ascending F_is_ascending m_all m_range m_len, hm_is_ascending, F_is_ascending.kp, b_is_ascending⟩
  have T_is_ascending_below : FT P w K mg base "is_ascending_below" 4 ["value", "many"] sp_is_ascending_below _ _ := ⟨ok_is_ascending_below F_is_ascending_below T_is_below T_is_ascending m_isinstance m_tuple m_all, hm_is_ascending_below, F_is_ascending_below.kp, b_is_ascending_below⟩
  have T_sum_of_words : FT P w K mg base "sum_of_words" 1 ["words"] sp_sum_of_words _ _ := ⟨ok_sum_of_words F_sum_of_words, hm_sum_of_words, F_sum_of_words.kp, b_sum_of_words⟩
  have T_bits_of : FT P w K mg base "bits_of" 1 ["a"] sp_bits_of _ _ := ⟨ok_bits_of F_bits_of m_tuple, hm_bits_of, F_bits_of.kp, b_bits_of⟩
  have T_is_row_of : FT P w K mg base "is_row_of" 5 ["m", "told"] sp_is_row_of _ _ := ⟨ok_is_row_of F_is_row_of T_is_ascending_below, hm_is_row_of, F_is_row_of.kp, b_is_row_of⟩
  have T_is_book : FT P w K mg base "is_book" 6 ["told"] sp_is_book _ _ := ⟨ok_is_book F_is_book T_is_pair T_is_integer T_is_row_of m_isinstance m_tuple m_all, hm_is_book, F_is_book.kp, b_is_book⟩
  have T_check_book : FT P w K mg base "check_book" 7 ["book"] sp_check_book _ _ := ⟨ok_check_book F_check_book T_is_book hI x_InvalidBook c_InvalidBook, hm_check_book, F_check_book.kp, b_check_book⟩
  have T_check_cells : FT P w K mg base "check_cells" 4 ["m", "row"] sp_check_cells _ _ := ⟨ok_check_cells F_check_cells T_is_row_or_list T_is_below m_len m_all hI x_InvalidRow c_InvalidRow, hm_check_cells, F_check_cells.kp, b_check_cells⟩
  have T_check_key : FT P w K mg base "check_key" 4 ["book", "key"] sp_check_key _ _ := ⟨ok_check_key F_check_key T_is_below m_len hI x_InvalidKey c_InvalidKey, hm_check_key, F_check_key.kp, b_check_key⟩
  have T_check_cell : FT P w K mg base "check_cell" 4 ["book", "cell"] sp_check_cell _ _ := ⟨ok_check_cell F_check_cell T_is_below hI x_InvalidCell c_InvalidCell, hm_check_cell, F_check_cell.kp, b_check_cell⟩
  have T_is_lot_of : FT P w K mg base "is_lot_of" 5 ["book", "told"] sp_is_lot_of _ _ := ⟨ok_is_lot_of F_is_lot_of T_is_ascending_below m_len, hm_is_lot_of, F_is_lot_of.kp, b_is_lot_of⟩
  have T_check_lot : FT P w K mg base "check_lot" 6 ["book", "lot"] sp_check_lot _ _ := ⟨ok_check_lot F_check_lot T_is_lot_of hI x_InvalidLot c_InvalidLot, hm_check_lot, F_check_lot.kp, b_check_lot⟩
  have T_row_of_cells : FT P w K mg base "row_of_cells" 1 ["cells"] sp_row_of_cells _ _ := ⟨ok_row_of_cells F_row_of_cells m_tuple m_sorted, hm_row_of_cells, F_row_of_cells.kp, b_row_of_cells⟩
  have T_book : FT P w K mg base "book" 5 ["m", "rows"] sp_book _ _ := ⟨ok_book F_book T_is_integer T_check_cells T_row_of_cells m_tuple hI x_InvalidBook c_InvalidBook, hm_book, F_book.kp, b_book⟩
  have T_with_key : FT P w K mg base "with_key" 8 ["book", "row"] sp_with_key _ _ := ⟨ok_with_key F_with_key T_check_book T_check_cells T_row_of_cells, hm_with_key, F_with_key.kp, b_with_key⟩
  have T_without_key : FT P w K mg base "without_key" 8 ["book", "key"] sp_without_key _ _ := ⟨ok_without_key F_without_key T_check_book T_check_key, hm_without_key, F_without_key.kp, b_without_key⟩
  have T_keys_at : FT P w K mg base "keys_at" 1 ["book", "cell"] sp_keys_at _ _ := ⟨ok_keys_at F_keys_at m_tuple m_enumerate, hm_keys_at, F_keys_at.kp, b_keys_at⟩
  have T_keys_of : FT P w K mg base "keys_of" 8 ["book", "cell"] sp_keys_of _ _ := ⟨ok_keys_of F_keys_of T_check_book T_check_cell T_keys_at, hm_keys_of, F_keys_of.kp, b_keys_of⟩
  have T_cells_in : FT P w K mg base "cells_in" 2 ["book", "lot"] sp_cells_in _ _ := ⟨ok_cells_in F_cells_in T_row_of_cells, hm_cells_in, F_cells_in.kp, b_cells_in⟩
  have T_cells_of : FT P w K mg base "cells_of" 8 ["book", "lot"] sp_cells_of _ _ := ⟨ok_cells_of F_cells_of T_check_book T_check_lot T_cells_in, hm_cells_of, F_cells_of.kp, b_cells_of⟩
  have T_part_of : FT P w K mg base "part_of" 1 ["book", "lot"] sp_part_of _ _ := ⟨ok_part_of F_part_of m_tuple, hm_part_of, F_part_of.kp, b_part_of⟩
  have T_part : FT P w K mg base "part" 8 ["book", "lot"] sp_part _ _ := ⟨ok_part F_part T_check_book T_check_lot T_part_of, hm_part, F_part.kp, b_part⟩
  have T_check_word : FT P w K mg base "check_word" 3 ["a"] sp_check_word _ _ := ⟨ok_check_word F_check_word T_is_natural hI x_InvalidWord c_InvalidWord, hm_check_word, F_check_word.kp, b_check_word⟩
  have T_check_wide : FT P w K mg base "check_wide" 3 ["w"] sp_check_wide _ _ := ⟨ok_check_wide F_check_wide T_is_integer hI x_InvalidNumber c_InvalidNumber, hm_check_wide, F_check_wide.kp, b_check_wide⟩
  have T_added : FT P w K mg base "added" 4 ["a", "b"] sp_added _ _ := ⟨ok_added F_added T_check_word, hm_added, F_added.kp, b_added⟩
  have T_added_all : FT P w K mg base "added_all" 3 ["some"] sp_added_all _ _ := ⟨ok_added_all F_added_all T_is_row_or_list T_is_natural T_sum_of_words m_all hI x_InvalidWord c_InvalidWord, hm_added_all, F_added_all.kp, b_added_all⟩
  have T_bits : FT P w K mg base "bits" 4 ["a"] sp_bits _ _ := ⟨ok_bits F_bits T_check_word T_bits_of, hm_bits, F_bits.kp, b_bits⟩
  have T_width_of : FT P w K mg base "width_of" 2 ["a"] sp_width_of _ _ := ⟨ok_width_of F_width_of T_bits_of, hm_width_of, F_width_of.kp, b_width_of⟩
  have T_width : FT P w K mg base "width" 4 ["a"] sp_width _ _ := ⟨ok_width F_width T_check_word T_width_of, hm_width, F_width.kp, b_width⟩
  have T_is_word_of : FT P w K mg base "is_word_of" 3 ["w", "told"] sp_is_word_of _ _ := ⟨ok_is_word_of F_is_word_of T_is_natural T_width_of, hm_is_word_of, F_is_word_of.kp, b_is_word_of⟩
  have T_is_word : FT P w K mg base "is_word" 4 ["w", "told"] sp_is_word _ _ := ⟨ok_is_word F_is_word T_check_wide T_is_word_of, hm_is_word, F_is_word.kp, b_is_word⟩
  have T__law_deck : FT P w K mg base "_law_deck" 1 ["script", "at"] sp__law_deck _ _ := ⟨ok__law_deck F__law_deck m_len m_int, hm__law_deck, F__law_deck.kp, b__law_deck⟩
  have T__law_take : FT P w K mg base "_law_take" 1 ["deck", "many"] sp__law_take _ _ := ⟨ok__law_take F__law_take m_int, hm__law_take, F__law_take.kp, b__law_take⟩
  have T__law_same : FT P w K mg base "_law_same" 9 ["found", "due"] sp__law_same _ _ := ⟨ok__law_same F__law_same hm__law_same b__law_same m_isinstance m_tuple m_list m_len m_range m_str m_bool m_int, hm__law_same, F__law_same.kp, b__law_same⟩
  have T__law_word : FT P w K mg base "_law_word" 2 ["deck", "most"] sp__law_word _ _ := ⟨ok__law_word F__law_word T__law_take m_range, hm__law_word, F__law_word.kp, b__law_word⟩
  have T__law_sum : FT P w K mg base "_law_sum" 1 ["a_word", "b_word"] sp__law_sum _ _ := ⟨ok__law_sum F__law_sum m_int, hm__law_sum, F__law_sum.kp, b__law_sum⟩
  have T__law_cells : FT P w K mg base "_law_cells" 2 ["deck", "many"] sp__law_cells _ _ := ⟨ok__law_cells F__law_cells T__law_take m_range m_tuple, hm__law_cells, F__law_cells.kp, b__law_cells⟩
  have T__law_page : FT P w K mg base "_law_page" 3 ["deck", "most"] sp__law_page _ _ := ⟨ok__law_page F__law_page T__law_take T__law_cells m_range m_len m_tuple, hm__law_page, F__law_page.kp, b__law_page⟩
  have T__law_lot : FT P w K mg base "_law_lot" 2 ["deck", "page"] sp__law_lot _ _ := ⟨ok__law_lot F__law_lot T__law_take m_tuple m_range m_len, hm__law_lot, F__law_lot.kp, b__law_lot⟩
  have T__law_keys : FT P w K mg base "_law_keys" 1 ["page", "cell"] sp__law_keys _ _ := ⟨ok__law_keys F__law_keys m_tuple m_range m_len, hm__law_keys, F__law_keys.kp, b__law_keys⟩
  have T__law_cells_of : FT P w K mg base "_law_cells_of" 1 ["page", "lot"] sp__law_cells_of _ _ := ⟨ok__law_cells_of F__law_cells_of m_range m_tuple, hm__law_cells_of, F__law_cells_of.kp, b__law_cells_of⟩
  have T__law_house : FT P w K mg base "_law_house" 9 ["deck"] sp__law_house _ _ := ⟨ok__law_house F__law_house T__law_page T__law_take T_part T__law_lot T_with_key T__law_word T__law_cells m_len, hm__law_house, F__law_house.kp, b__law_house⟩
  have T__law_places : FT P w K mg base "_law_places" 1 ["word"] sp__law_places _ _ := ⟨ok__law_places F__law_places m_range m_int m_tuple, hm__law_places, F__law_places.kp, b__law_places⟩
  have T__law_due : FT P w K mg base "_law_due" 2 ["house", "word"] sp__law_due _ _ := ⟨ok__law_due F__law_due T__law_sum T__law_places T__law_keys T__law_cells_of m_max m_len m_tuple, hm__law_due, F__law_due.kp, b__law_due⟩
  have T__law_added_all : FT P w K mg base "_law_added_all" 4 ["words"] sp__law_added_all _ _ := ⟨ok__law_added_all F__law_added_all T_added_all, hm__law_added_all, F__law_added_all.kp, b__law_added_all⟩
  have T__law_made : FT P w K mg base "_law_made" 6 ["page"] sp__law_made _ _ := ⟨ok__law_made F__law_made T_book m_list, hm__law_made, F__law_made.kp, b__law_made⟩
  have T__law_refused : FT P w K mg base "_law_refused" 9 ["house"] sp__law_refused _ _ := ⟨ok__law_refused F__law_refused T_with_key T_added_all T_book T_part hI x_TellError c_TellError, hm__law_refused, F__law_refused.kp, b__law_refused⟩
  have T__law_told : FT P w K mg base "_law_told" 10 ["house", "word"] sp__law_told _ _ := ⟨ok__law_told F__law_told T_added T__law_added_all T_bits T_width T_is_word T__law_made T_with_key T_without_key T_part T_keys_of T_cells_of T_is_book T__law_refused m_list, hm__law_told, F__law_told.kp, b__law_told⟩
  exact ok_law F_law T__law_house T__law_deck T__law_take T__law_same T__law_due T__law_told m_repr m_range m_max m_min m_len hsm
end Lk
open PySem PySem.W PySem.Calls PyProof.Rows
theorem PySem.Challenge.cw_keytellers_k06_whole_any_question_behind_holds : PySem.Challenge.rw_keytellers_k06_whole_any_question_behind.Holds := by
  w_on; o_law
  refine HandSHeadRun.head_any (r := OpenLaw.row PySem.Challenge.rw_keytellers_k06_whole_any_question_behind) (q := view (OpenLaw.row PySem.Challenge.rw_keytellers_k06_whole_any_question_behind).prog [66]) (H := Lk.hk) (ob := Lk.ob) (M := 20000) (loose := Lk.loose) (d := HandSHeadRun.topDef (OpenLaw.row PySem.Challenge.rw_keytellers_k06_whole_any_question_behind).prog 66) (kwd := []) Lk.ob_eq
    (by kernel_rfl) (fun s => by kernel_rfl) Lk.run (by kernel_rfl) (by kernel_rfl) (by kernel_rfl) (by rfl) (by first | assumption | decide +kernel) (by decide +kernel) ⟨rfl, rfl, rfl, rfl, rfl, by decide +kernel⟩ ?hw ?hc
  case hw => w_witness2
  case hc =>
    refine Q.walk_ofG (l := PySem.Challenge.rw_keytellers_k06_whole_any_question_behind) (n := 63) (k := 11) (x := "script") rfl (by decide) (by kernel_rfl) ⟨rfl, by decide, by decide⟩ ?F
    intro w mg fa h Y G hmg0
    obtain ⟨K, KX, c⟩ := Y
    have hmg : mg ("law" : PySem.Str) = some (.ref fa) := by
      have e : (HandSHeadRun.topDef (OpenLaw.row PySem.Challenge.rw_keytellers_k06_whole_any_question_behind).prog 66).name = ("law" : PySem.Str) := by kernel_rfl
      rw [← e]
      exact hmg0
    obtain ⟨fd, hb, hF⟩ := Lk.facts (P := (PySem.Challenge.rw_keytellers_k06_whole_any_question_behind).prog) (w := w) KX G hmg c
    exact ⟨K, fd, _, ⟨KX, hb⟩, fun H a ns hl ho hS => Q.law_sp ho hS (Q.law_top ns hl), hF⟩
