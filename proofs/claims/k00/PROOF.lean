import PyProof.Rows.All
import KE.BitLaws
import Wide.All
import OpenK.AllK
import Wide.FinOn
import HandS.ForMost
import HandS.ForExc
import HandS.IsInst
import HandS.Wide
import HandS.Style
import HandS.Flow
import HandS.Defaults
import HandS.Exc
import HandS.ExcInit
import HandS.ExcField
import HandS.ExcOwn
import HandS.HeadHook1
import HandS.TupAny
import HandS.TupLe
import HandS.SortInts
import HandS.Flt
import HandS.More
import HandS.Gcd
import HandS.WordsExc
import HandS.Head0
import HandS.Head1
import HandS.Head2
import HandS.Head3
import HandS.HeadEnd
import HandS.HeadHook2
import HandS.DictComp
import HandS.Conv
import HandS.Zip
import HandS.Iter
import HandS.Comp
import HandS.Text
import HandS.SetFor
import HandS.Set
import HandS.Strs
import HandS.Small
import PyProof.SumAnyB
import KE.SortData
import KE.DataMinMax
import HandS.WideBits
import HandS.TupMul
import HandS.Deep
import HandS.NoneIn
import HandS.TryMany
import HandS.TryOnly
import KE.KExcIs
import PySem.Challenge.RW_keytellers_k00_errors
set_option Elab.async false
set_option linter.all false
set_option maxRecDepth 100000
set_option maxHeartbeats 5000000
namespace Q
open PySem
open Spec PyProof.Rows L2

/-! ### data, objects -/
inductive D where
  | non | bl (b : Bool) | int (i : Int) | str (x : Str) | tup (ds : List D) | ref (n : Nat)
inductive O where
  | lst (ds : List D) | ro (ds : List D) | dic (kvs : List (Key × D)) | exo (x : Str) (d : D) | oth
def O.mu : O → Bool
  | .lst _ => true
  | .dic _ => true
  | _ => false
abbrev Sto := List O
abbrev ExD := Str × D
abbrev Sl := List (Option D)
abbrev KD := D → Sto → Prop
abbrev XD := ExD → Sto → Prop
abbrev TED := Sl → Sto → KD → XD → Prop
abbrev TTD := Sl → Sto → (Bool → Sto → Prop) → XD → Prop
abbrev TAD := Sl → Sto → (List D → Sto → Prop) → XD → Prop
structure EndsD where
  nx : Sl → Sto → Prop
  rt : KD
  bk : Sl → Sto → Prop
  ct : Sl → Sto → Prop
  ex : XD
abbrev TSD := EndsD → Sl → Sto → Prop
abbrev SpD := List D → Sto → KD → XD → Prop

/-! ### exceptions' classes -/
def exNs : List Str := ["TellError", "InvalidBook", "InvalidWord", "InvalidNumber", "InvalidKey", "InvalidCell", "InvalidRow", "InvalidLot", "InvalidTable", "InvalidValues", "InvalidRoad", "InvalidSeats", "NotFree",
  "NoTable", "NoSeats", "InvalidPlacing", "InvalidChain", "InvalidMixing", "InvalidFilter", "InvalidName", "HasCore", "NotGood", "UnknownName", "NothingToUndo", "Unreadable", "Unorderly"]
/-- is a class of the first name one under that of the second -/
def exSub (x y : Str) : Bool := decide (x = y) || decide (y = "TellError")
def initA (K : PySem.W.Frag) : Addr := He.ma K (He.ga K "TellError") "__init__"
def oexB (K : PySem.W.Frag) (C : Addr) : Bool := match K.lookup C with
  | some ⟨.type "type", _, .cls cd, sl⟩ => (match cd.mro, sl.toList with
    | .ref C1 :: bm, [_, _, _, _, some (.builtin n), _] => C1 == C && (n == "ValueError.__new__" && (!cd.hasDel && (cd.hasDict && PySem.HandSPX.refsVE bm)))
    | _, _ => false)
  | _ => false
/-- what the head says of an exception's class: it has the common __init__, its value is told, what it is under -/
def exB (K : PySem.W.Frag) (x : Str) : Bool := oexB K (He.ga K x) && (decide (PySem.W.findIn K (.ref (He.ga K x)) "__setattr__" = some (some (.builtin "object.__setattr__"))) &&
  (decide (PySem.W.subIn K (.ref (He.ga K x)) (.type "BaseException") = some true) && (decide (PySem.W.typeIn K (.ref (He.ga K x)) = some (.type "type")) && (PySem.W.keepIn K (.ref (He.ga K x)) &&
  (xfB K (He.ga K x) && (decide (PySem.W.findIn K (.ref (He.ga K x)) "value" = some none) && (decide (PySem.W.findIn K (.ref (He.ga K x)) "__init__" = some (some (.ref (initA K)))) &&
  (decide (PySem.W.typeIn K (.ref (initA K)) = some (.type "function")) && (He.eqO (PySem.W.nsIn K mainGlobals x) (some (some (.ref (He.ga K x)))) &&
  exNs.all fun y => match PySem.W.nsIn K mainGlobals y with
    | some (some (.ref C)) => decide (PySem.W.exmOne K (.ref (He.ga K x)) (.ref C) = some (exSub x y))
    | _ => true)))))))))
/-- an exception at rest -/
def ExV (cls : Value) (d : Option Addr) (a : Addr) : HO := .ext fun h => ∃ (oe : Obj) (vs : Array Value), h.get? a = some oe ∧ Zc cls d oe ∧ oe.data = .fields vs

/-! ### how data lie in the heap -/
section
variable (K : PySem.W.Frag) (H : Hp) (al : List Addr)
mutual
def RD : D → V → Prop
  | .non, v => v = .non
  | .bl b, v => v = .bl b
  | .int i, v => v = .int i
  | .str x, v => v = .str x
  | .tup ds, v => ∃ a vs, v = .ref a ∧ SqT K H a vs ∧ RDs ds vs
  | .ref n, v => ∃ a, v = .ref a ∧ al[n]? = some a
def RDs : List D → List V → Prop
  | [], vs => vs = []
  | d :: ds, vs => ∃ v r, vs = v :: r ∧ RD d v ∧ RDs ds r
end
/-- a list that is only read -/
def RoL (a : Addr) (vs : List V) : Prop := (∃ o, H a = some (.frz o (.lst vs))) ∨
    ∃ (o : Obj) (its : Array Value) (n : Nat), K.lookup a = some o ∧ o.cls = .type "list" ∧ o.dict = none ∧ o.data = .seq its n ∧ its.size ≤ sizeLine ∧ Vals vs its.toList
def RKs : List (Key × D) → List (Key × V) → Prop
  | [], vs => vs = []
  | d :: ds, vs => ∃ v r, vs = (d.1, v) :: r ∧ RD K H al d.2 v ∧ RKs ds r
def RO : O → Addr → Prop
  | .lst ds, a => ∃ vs, H a = some (.lst vs) ∧ RDs K H al ds vs
  | .ro ds, a => ∃ vs, RoL K H a vs ∧ RDs K H al ds vs
  | .dic kvs, a => ∃ vs, H a = some (.dK vs) ∧ RKs K H al kvs vs
  | .exo x d, a => exB K x = true ∧ ∃ (dx : Addr) (v : V), H a = some (ExV (.ref (He.ga K x)) (some dx) a) ∧ H dx = some (.xd [("value", v)]) ∧ RD K H al d v
  | .oth, _ => True
structure RS (S : Sto) : Prop where
  len : al.length = S.length
  nd : ∀ (n m : Nat) (o u : O) (a : Addr), S[n]? = some o → S[m]? = some u → o.mu = true → u.mu = true → al[n]? = some a → al[m]? = some a → n = m
  ob : ∀ (n : Nat) (o : O) (a : Addr), S[n]? = some o → al[n]? = some a → RO K H al o a
structure RSl (sg : Sl) (sv : L2.St) : Prop where
  len : sg.length = sv.length
  at_ : ∀ (i : Nat) (d : D), sg[i]? = some (some d) → ∃ v, sv[i]? = some (some v) ∧ RD K H al d v
end

structure Keep (H H' : Hp) : Prop where
  tup : ∀ a xs, H a = some (.tup xs) → H' a = some (.tup xs)
  frz : ∀ a o u, H a = some (.frz o u) → H' a = some (.frz o u)
  xd : ∀ a fs, H a = some (.xd fs) → H' a = some (.xd fs)
  ext : ∀ a φ, H a = some (.ext φ) → H' a = some (.ext φ)
theorem Keep.refl (H : Hp) : Keep H H := ⟨fun _ _ h => h, fun _ _ _ h => h, fun _ _ h => h, fun _ _ h => h⟩
theorem Keep.trans {H H1 H2 : Hp} (a : Keep H H1) (b : Keep H1 H2) : Keep H H2 := ⟨fun c xs h => b.tup c xs (a.tup c xs h), fun c o u h => b.frz c o u (a.frz c o u h), fun c xs h => b.xd c xs (a.xd c xs h), fun c xs h => b.ext c xs (a.ext c xs h)⟩
theorem Keep.laid {H : Hp} {p : Addr} {o : HO} (h : H p = none) : Keep H (upd H p o) :=
  ⟨fun a xs e => by rw [upd_ne (ne_of_none e h)]; exact e, fun a ob u e => by rw [upd_ne (ne_of_none e h)]; exact e, fun a xs e => by rw [upd_ne (ne_of_none e h)]; exact e, fun a xs e => by rw [upd_ne (ne_of_none e h)]; exact e⟩
theorem Keep.write {H : Hp} {p : Addr} {o u : HO} (h : H p = some u) (hu : (∃ xs, u = .lst xs) ∨ ∃ xs, u = .dK xs) : Keep H (upd H p o) :=
  ⟨fun a xs e => by rw [upd_ne (ne_of e h (fun z => by rcases hu with ⟨y, hu⟩ | ⟨y, hu⟩ <;> (rw [hu] at z; cases z)))]; exact e, fun a ob u e => by rw [upd_ne (ne_of e h (fun z => by rcases hu with ⟨y, hu⟩ | ⟨y, hu⟩ <;> (rw [hu] at z; cases z)))]; exact e,
   fun a xs e => by rw [upd_ne (ne_of e h (fun z => by rcases hu with ⟨y, hu⟩ | ⟨y, hu⟩ <;> (rw [hu] at z; cases z)))]; exact e, fun a xs e => by rw [upd_ne (ne_of e h (fun z => by rcases hu with ⟨y, hu⟩ | ⟨y, hu⟩ <;> (rw [hu] at z; cases z)))]; exact e⟩
theorem sqt_keep {K : PySem.W.Frag} {H H' : Hp} {a : Addr} {xs : List V} (k : Keep H H') (h : SqT K H a xs) : SqT K H' a xs := by
  rcases h with (h | ⟨o, h⟩) | h
  · exact .inl (.inl (k.tup _ _ h))
  · exact .inl (.inr ⟨o, k.frz _ _ _ h⟩)
  · exact .inr h
theorem rol_keep {K : PySem.W.Frag} {H H' : Hp} {a : Addr} {xs : List V} (k : Keep H H') (h : RoL K H a xs) : RoL K H' a xs := by
  rcases h with ⟨o, h⟩ | h
  · exact .inl ⟨o, k.frz _ _ _ h⟩
  · exact .inr h
theorem rol_sq {K : PySem.W.Frag} {H : Hp} {a : Addr} {xs : List V} (h : RoL K H a xs) : SqL K H a xs := by
  rcases h with ⟨o, h⟩ | h
  · exact .inl (.inr ⟨o, h⟩)
  · exact .inr h

section
variable {K : PySem.W.Frag} {H H' : Hp} {al t : List Addr}
theorem getE {al t : List Addr} {n : Nat} {a : Addr} (h : al[n]? = some a) : (al ++ t)[n]? = some a := by
  rw [List.getElem?_append_left (by
    have := (List.getElem?_eq_some_iff.mp h).1
    exact this)]
  exact h
mutual
theorem RD.mono (k : Keep H H') : ∀ (d : D) (v : V), RD K H al d v → RD K H' (al ++ t) d v
  | .non, _, h => h
  | .bl _, _, h => h
  | .int _, _, h => h
  | .str _, _, h => h
  | .tup ds, _, ⟨a, vs, e, hs, hr⟩ => ⟨a, vs, e, sqt_keep k hs, RDs.mono k ds vs hr⟩
  | .ref n, _, ⟨a, e, h⟩ => ⟨a, e, getE h⟩
theorem RDs.mono (k : Keep H H') : ∀ (ds : List D) (vs : List V), RDs K H al ds vs → RDs K H' (al ++ t) ds vs
  | [], _, h => h
  | d :: ds, _, ⟨v, r, e, h1, h2⟩ => ⟨v, r, e, RD.mono k d v h1, RDs.mono k ds r h2⟩
end
theorem RKs.mono (k : Keep H H') : ∀ (ds : List (Key × D)) (vs : List (Key × V)), RKs K H al ds vs → RKs K H' (al ++ t) ds vs
  | [], _, h => h
  | d :: ds, _, ⟨v, r, e, h1, h2⟩ => ⟨v, r, e, RD.mono k d.2 v h1, RKs.mono k ds r h2⟩
theorem RSl.mono {sg : Sl} {sv : L2.St} (h : RSl K H al sg sv) (k : Keep H H') : RSl K H' (al ++ t) sg sv := ⟨h.len, fun i d e => by
  obtain ⟨v, e1, r⟩ := h.at_ i d e
  exact ⟨v, e1, RD.mono k _ _ r⟩⟩
theorem RDs.length : ∀ {ds : List D} {vs : List V}, RDs K H al ds vs → vs.length = ds.length
  | [], _, h => by cases (show _ = [] from h); rfl
  | d :: ds, _, ⟨v, r, e, _, h2⟩ => by rw [e, List.length_cons, List.length_cons, RDs.length h2]
theorem RDs.get : ∀ {ds : List D} {vs : List V} {i : Nat} {d : D}, RDs K H al ds vs → ds[i]? = some d → ∃ v, vs[i]? = some v ∧ RD K H al d v
  | [], _, _, _, _, e => by simp at e
  | x :: ds, _, 0, d, ⟨v, r, e, h1, h2⟩, q => by
    have q' : x = d := by simpa using q
    subst q'
    exact ⟨v, by rw [e]; rfl, h1⟩
  | x :: ds, _, i + 1, d, ⟨v, r, e, h1, h2⟩, q => by
    obtain ⟨u, e1, r1⟩ := RDs.get (i := i) (d := d) h2 (by simpa using q)
    exact ⟨u, by rw [e]; simpa using e1, r1⟩
theorem RDs.append : ∀ {ds es : List D} {vs us : List V}, RDs K H al ds vs → RDs K H al es us → RDs K H al (ds ++ es) (vs ++ us)
  | [], _, _, _, h, h' => by cases (show _ = [] from h); exact h'
  | d :: ds, _, _, _, ⟨v, r, e, h1, h2⟩, h' => ⟨v, _, by rw [e]; rfl, h1, RDs.append h2 h'⟩
theorem RDs.one {d : D} {v : V} (h : RD K H al d v) : RDs K H al [d] [v] := ⟨v, [], rfl, h, rfl⟩
theorem RDs.take : ∀ (n : Nat) {ds : List D} {vs : List V}, RDs K H al ds vs → RDs K H al (ds.take n) (vs.take n)
  | 0, _, _, _ => by simp [RDs]
  | n + 1, [], _, h => by cases (show _ = [] from h); rfl
  | n + 1, d :: ds, _, ⟨v, r, e, h1, h2⟩ => ⟨v, r.take n, by rw [e]; rfl, h1, RDs.take n h2⟩
theorem RDs.drop : ∀ (n : Nat) {ds : List D} {vs : List V}, RDs K H al ds vs → RDs K H al (ds.drop n) (vs.drop n)
  | 0, _, _, h => h
  | n + 1, [], _, h => by cases (show _ = [] from h); rfl
  | n + 1, d :: ds, _, ⟨v, r, e, h1, h2⟩ => by rw [e]; exact RDs.drop n h2
theorem RDs.set : ∀ (n : Nat) {ds : List D} {vs : List V} {d : D} {v : V}, RDs K H al ds vs → RD K H al d v → RDs K H al (ds.set n d) (vs.set n v)
  | _, [], _, _, _, h, _ => by cases (show _ = [] from h); exact rfl
  | 0, x :: ds, _, d, v, ⟨u, r, e, h1, h2⟩, q => ⟨v, r, by rw [e]; rfl, q, h2⟩
  | n + 1, x :: ds, _, d, v, ⟨u, r, e, h1, h2⟩, q => ⟨u, r.set n v, by rw [e]; rfl, h1, RDs.set n h2 q⟩
theorem RDs.reverse : ∀ {ds : List D} {vs : List V}, RDs K H al ds vs → RDs K H al ds.reverse vs.reverse
  | [], _, h => by cases (show _ = [] from h); exact rfl
  | d :: ds, _, ⟨v, r, e, h1, h2⟩ => by
    rw [e, List.reverse_cons, List.reverse_cons]
    exact RDs.append (RDs.reverse h2) (RDs.one h1)
/-- the future of a heap, an assignment of addresses -/
structure Fut (K : PySem.W.Frag) (H : Hp) (al : List Addr) (H' : Hp) (al' : List Addr) (S' : Sto) : Prop where
  ext : ∃ t, al' = al ++ t
  keep : Keep H H'
  rs : RS K H' al' S'
theorem Fut.trans {H1 H2 : Hp} {al al1 al2 : List Addr} {S1 S2 : Sto} (a : Fut K H al H1 al1 S1) (b : Fut K H1 al1 H2 al2 S2) : Fut K H al H2 al2 S2 := by
  obtain ⟨t, e⟩ := a.ext
  obtain ⟨u, e'⟩ := b.ext
  exact ⟨⟨t ++ u, by rw [e', e, List.append_assoc]⟩, a.keep.trans b.keep, b.rs⟩
theorem Fut.now {S : Sto} (r : RS K H al S) : Fut K H al H al S := ⟨⟨[], by simp⟩, .refl H, r⟩
theorem Fut.rd {al' : List Addr} {S' : Sto} (f : Fut K H al H' al' S') {d : D} {v : V} (h : RD K H al d v) : RD K H' al' d v := by
  obtain ⟨t, e⟩ := f.ext
  subst e
  exact RD.mono f.keep _ _ h
theorem Fut.rds {al' : List Addr} {S' : Sto} (f : Fut K H al H' al' S') {d : List D} {v : List V} (h : RDs K H al d v) : RDs K H' al' d v := by
  obtain ⟨t, e⟩ := f.ext
  subst e
  exact RDs.mono f.keep _ _ h
theorem Fut.rsl {al' : List Addr} {S' : Sto} (f : Fut K H al H' al' S') {d : Sl} {v : L2.St} (h : RSl K H al d v) : RSl K H' al' d v := by
  obtain ⟨t, e⟩ := f.ext
  subst e
  exact h.mono f.keep

/-! ### the store written -/
theorem RO.mono {o : O} {a : Addr} (k : Keep H H') (h : RO K H al o a) (hl : ∀ vs, H a = some (.lst vs) → H' a = some (.lst vs)) (hd : ∀ vs, H a = some (.dK vs) → H' a = some (.dK vs)) : RO K H' (al ++ t) o a := by
  cases o with
  | lst ds => obtain ⟨vs, e, r⟩ := h; exact ⟨vs, hl vs e, RDs.mono k _ _ r⟩
  | ro ds => obtain ⟨vs, e, r⟩ := h; exact ⟨vs, rol_keep k e, RDs.mono k _ _ r⟩
  | dic ds => obtain ⟨vs, e, r⟩ := h; exact ⟨vs, hd vs e, RKs.mono k _ _ r⟩
  | exo x d => obtain ⟨b, dx, v, e, e2, r⟩ := h; exact ⟨b, dx, v, k.ext _ _ e, k.xd _ _ e2, RD.mono k _ _ r⟩
  | oth => trivial
/-- something is laid that the store does not have -/
theorem Fut.lay {S : Sto} {p : Addr} {o : HO} (r : RS K H al S) (h : H p = none) : Fut K H al (upd H p o) al S := by
  refine ⟨⟨[], by simp⟩, Keep.laid h, r.len, r.nd, fun n ob a e1 e2 => ?_⟩
  have q := RO.mono (t := []) (Keep.laid (o := o) h) (r.ob n ob a e1 e2) (fun vs e => by rw [upd_ne (ne_of_none e h)]; exact e) (fun vs e => by rw [upd_ne (ne_of_none e h)]; exact e)
  rwa [List.append_nil] at q
theorem RO.there {o : O} {a : Addr} (h : RO K H al o a) (m : o.mu = true) : H a ≠ none := by
  intro z
  cases o with
  | lst ds => obtain ⟨vs, e, _⟩ := h; rw [z] at e; cases e
  | ro ds => cases m
  | dic ds => obtain ⟨vs, e, _⟩ := h; rw [z] at e; cases e
  | exo x d => cases m
  | oth => cases m
theorem getPush {S : Sto} {o : O} : (S ++ [o])[S.length]? = some o := by simp
theorem get_push_cases {α : Type} {l : List α} {x y : α} {n : Nat} (h : (l ++ [x])[n]? = some y) : l[n]? = some y ∨ (n = l.length ∧ y = x) := by
  by_cases hn : n < l.length
  · rw [List.getElem?_append_left hn] at h
    exact .inl h
  · by_cases e : n = l.length
    · subst e
      simp at h
      exact .inr ⟨rfl, h.symm⟩
    · rw [List.getElem?_append_right (by omega)] at h
      have : n - l.length ≠ 0 := by omega
      obtain ⟨k, hk⟩ : ∃ k, n - l.length = k + 1 := ⟨n - l.length - 1, by omega⟩
      rw [hk] at h
      simp at h
/-- a new object of the store -/
theorem Fut.push {S : Sto} {p : Addr} {ho : HO} {o : O} (r : RS K H al S) (h : H p = none) (q : RO K (upd H p ho) (al ++ [p]) o p) : Fut K H al (upd H p ho) (al ++ [p]) (S ++ [o]) := by
  refine ⟨⟨[p], rfl⟩, Keep.laid h, by simp [r.len], fun n m o1 o2 a e1 e2 m1 m2 a1 a2 => ?_, fun n ob a e1 e2 => ?_⟩
  · have key : ∀ (k : Nat) (ob : O), S[k]? = some ob → ob.mu = true → al[k]? ≠ some p := fun k ob e mu z => (r.ob k ob p e z).there mu h
    rcases get_push_cases e1 with f1 | ⟨rfl, rfl⟩
    · have n1 : n < S.length := (List.getElem?_eq_some_iff.mp f1).1
      rw [List.getElem?_append_left (by rw [r.len]; exact n1)] at a1
      rcases get_push_cases e2 with f2 | ⟨rfl, rfl⟩
      · have n2 : m < S.length := (List.getElem?_eq_some_iff.mp f2).1
        rw [List.getElem?_append_left (by rw [r.len]; exact n2)] at a2
        exact r.nd n m o1 o2 a f1 f2 m1 m2 a1 a2
      · rw [← r.len] at a2
        have : p = a := by simpa using a2
        subst this
        exact absurd a1 (key n o1 f1 m1)
    · rw [← r.len] at a1
      have : p = a := by simpa using a1
      subst this
      rcases get_push_cases e2 with f2 | ⟨rfl, rfl⟩
      · have n2 : m < S.length := (List.getElem?_eq_some_iff.mp f2).1
        rw [List.getElem?_append_left (by rw [r.len]; exact n2)] at a2
        exact absurd a2 (key m o2 f2 m2)
      · rfl
  · rcases get_push_cases e1 with e1 | ⟨rfl, rfl⟩
    · have n1 : n < S.length := (List.getElem?_eq_some_iff.mp e1).1
      rw [List.getElem?_append_left (by rw [r.len]; exact n1)] at e2
      exact RO.mono (Keep.laid h) (r.ob n ob a e1 e2) (fun vs e => by rw [upd_ne (ne_of_none e h)]; exact e) (fun vs e => by rw [upd_ne (ne_of_none e h)]; exact e)
    · rw [← r.len] at e2
      have : p = a := by simpa using e2
      subst this
      exact q
/-- an object of the store is written -/
theorem Fut.set {S : Sto} {n : Nat} {p : Addr} {ho : HO} {o u : O} (r : RS K H al S) (hu : S[n]? = some u) (mu : u.mu = true) (hp : al[n]? = some p) (q : RO K (upd H p ho) al o p) (mo : o.mu = true) : Fut K H al (upd H p ho) al (S.set n o) := by
  have hr := r.ob n u p hu hp
  have kp : Keep H (upd H p ho) := by
    cases u with
    | lst ds => obtain ⟨vs, e, _⟩ := hr; exact Keep.write e (.inl ⟨_, rfl⟩)
    | dic ds => obtain ⟨vs, e, _⟩ := hr; exact Keep.write e (.inr ⟨_, rfl⟩)
    | ro ds => cases mu
    | exo x d => cases mu
    | oth => cases mu
  have hn : n < S.length := (List.getElem?_eq_some_iff.mp hu).1
  have key : ∀ k ob, (S.set n o)[k]? = some ob → (k = n ∧ ob = o) ∨ (k ≠ n ∧ S[k]? = some ob) := fun k ob e => by
    by_cases hk : k = n
    · subst hk
      rw [List.getElem?_set_self hn] at e
      exact .inl ⟨rfl, (Option.some.inj e).symm⟩
    · rw [List.getElem?_set_ne (Ne.symm hk)] at e
      exact .inr ⟨hk, e⟩
  refine ⟨⟨[], by simp⟩, kp, by simp [r.len], fun k m o1 o2 a e1 e2 m1 m2 a1 a2 => ?_, fun k ob a e1 e2 => ?_⟩
  · rcases key k o1 e1 with ⟨rfl, rfl⟩ | ⟨k1, f1⟩
    · rcases key m o2 e2 with ⟨rfl, rfl⟩ | ⟨k2, f2⟩
      · rfl
      · exact r.nd k m u o2 a hu f2 mu m2 a1 a2
    · rcases key m o2 e2 with ⟨rfl, rfl⟩ | ⟨k2, f2⟩
      · exact r.nd k m o1 u a f1 hu m1 mu a1 a2
      · exact r.nd k m o1 o2 a f1 f2 m1 m2 a1 a2
  · rcases key k ob e1 with ⟨rfl, rfl⟩ | ⟨k1, e1⟩
    · rw [hp] at e2
      cases e2
      exact q
    · have ra := r.ob k ob a e1 e2
      by_cases hm : ob.mu = true
      · have ne : a ≠ p := fun z => by
          subst z
          exact k1 (r.nd k n ob u a e1 hu hm mu e2 hp)
        have q2 := RO.mono (t := []) kp ra (fun vs e => by rw [upd_ne ne]; exact e) (fun vs e => by rw [upd_ne ne]; exact e)
        rwa [List.append_nil] at q2
      · cases ob with
        | lst ds => exact absurd rfl hm
        | dic ds => exact absurd rfl hm
        | ro ds =>
          obtain ⟨vs, e, rr⟩ := ra
          refine ⟨vs, rol_keep kp e, ?_⟩
          have := RDs.mono (t := []) kp _ _ rr
          rwa [List.append_nil] at this
        | exo x d =>
          obtain ⟨b, dx, v, e, e3, rr⟩ := ra
          have := RD.mono (t := []) kp _ _ rr
          rw [List.append_nil] at this
          exact ⟨b, dx, v, kp.ext _ _ e, kp.xd _ _ e3, this⟩
        | oth => trivial
end
end Q
namespace Q
open PySem
open Spec PyProof.Rows L2

/-! ### judgements over data -/
structure Cy where
  K : PySem.W.Frag
  mg : Str → Option Value
  E : XK
abbrev cy (X : Cx) (E : XK) : Cy := ⟨X.K, X.mg, E⟩
/-- an exception: its class by name, its one value -/
def ExAt (Y : Cy) (H : Hp) (al : List Addr) (ex : ExD) (cls : Value) (d : Option Addr) : Prop :=
  exB Y.K ex.1 = true ∧ ∃ (dx : Addr) (v : V), cls = .ref (He.ga Y.K ex.1) ∧ d = some dx ∧ H dx = some (.xd [("value", v)]) ∧ RD Y.K H al ex.2 v
def Up (K : PySem.W.Frag) (H : Hp) (al : List Addr) (kd : KD) (Q : VK) : Prop := ∀ d S' al' H' v, Fut K H al H' al' S' → RD K H' al' d v → kd d S' → Q v H'
def UpB (K : PySem.W.Frag) (H : Hp) (al : List Addr) (kd : Bool → Sto → Prop) (Q : Bool → Hp → Prop) : Prop := ∀ b S' al' H', Fut K H al H' al' S' → kd b S' → Q b H'
def UpA (K : PySem.W.Frag) (H : Hp) (al : List Addr) (kd : List D → Sto → Prop) (Q : List V → Hp → Prop) : Prop := ∀ ds S' al' H' vs, Fut K H al H' al' S' → RDs K H' al' ds vs → kd ds S' → Q vs H'
def UpX (Y : Cy) (H : Hp) (al : List Addr) (xd : XD) : Prop := ∀ ex S' al' H' cls d, Fut Y.K H al H' al' S' → ExAt Y H' al' ex cls d → xd ex S' → Y.E cls d H'
def UpS (K : PySem.W.Frag) (H : Hp) (al : List Addr) (nd : Sl → Sto → Prop) (n : L2.St → Hp → Prop) : Prop := ∀ sg S' al' H' sv, Fut K H al H' al' S' → RSl K H' al' sg sv → nd sg S' → n sv H'
structure UpE (Y : Cy) (H : Hp) (al : List Addr) (Dd : EndsD) (De : Ends) : Prop where
  nx : UpS Y.K H al Dd.nx De.nx
  rt : Up Y.K H al Dd.rt De.rt
  bk : UpS Y.K H al Dd.bk De.bk
  ct : UpS Y.K H al Dd.ct De.ct
  ex : UpX Y H al Dd.ex
section
variable {K : PySem.W.Frag} {Y : Cy} {H H1 : Hp} {al al1 : List Addr} {S1 : Sto}
theorem Up.mono {kd : KD} {Q : VK} (u : Up K H al kd Q) (f : Fut K H al H1 al1 S1) : Up K H1 al1 kd Q := fun d S' al' H' v g r h => u d S' al' H' v (f.trans g) r h
theorem UpB.mono {kd : Bool → Sto → Prop} {Q : Bool → Hp → Prop} (u : UpB K H al kd Q) (f : Fut K H al H1 al1 S1) : UpB K H1 al1 kd Q := fun d S' al' H' g h => u d S' al' H' (f.trans g) h
theorem UpA.mono {kd : List D → Sto → Prop} {Q : List V → Hp → Prop} (u : UpA K H al kd Q) (f : Fut K H al H1 al1 S1) : UpA K H1 al1 kd Q := fun d S' al' H' v g r h => u d S' al' H' v (f.trans g) r h
theorem UpX.mono {xd : XD} (u : UpX Y H al xd) (f : Fut Y.K H al H1 al1 S1) : UpX Y H1 al1 xd := fun ex S' al' H' cls d g r h => u ex S' al' H' cls d (f.trans g) r h
theorem UpS.mono {nd : Sl → Sto → Prop} {n : L2.St → Hp → Prop} (u : UpS K H al nd n) (f : Fut K H al H1 al1 S1) : UpS K H1 al1 nd n := fun sg S' al' H' sv g r h => u sg S' al' H' sv (f.trans g) r h
theorem UpE.mono {Dd : EndsD} {De : Ends} (u : UpE Y H al Dd De) (f : Fut Y.K H al H1 al1 S1) : UpE Y H1 al1 Dd De := ⟨u.nx.mono f, u.rt.mono f, u.bk.mono f, u.ct.mono f, u.ex.mono f⟩
end
def LE (Y : Cy) (t : TED) : TE := fun sv H Q => ∃ sg al S kd xd, RS Y.K H al S ∧ RSl Y.K H al sg sv ∧ t sg S kd xd ∧ Up Y.K H al kd Q ∧ UpX Y H al xd
def LT (Y : Cy) (t : TTD) : TT := fun sv H Q => ∃ sg al S kd xd, RS Y.K H al S ∧ RSl Y.K H al sg sv ∧ t sg S kd xd ∧ UpB Y.K H al kd Q ∧ UpX Y H al xd
def LA (Y : Cy) (t : TAD) : TA := fun sv H Q => ∃ sg al S kd xd, RS Y.K H al S ∧ RSl Y.K H al sg sv ∧ t sg S kd xd ∧ UpA Y.K H al kd Q ∧ UpX Y H al xd
def LS (Y : Cy) (t : TSD) : TS := fun De sv H => ∃ sg al S Dd, RS Y.K H al S ∧ RSl Y.K H al sg sv ∧ t Dd sg S ∧ UpE Y H al Dd De
/-- by values -/
def L1 (Y : Cy) (r : D → Sto → KD → XD → Prop) : V → Hp → VK → Prop := fun x H Q => ∃ d al S kd xd, RS Y.K H al S ∧ RD Y.K H al d x ∧ r d S kd xd ∧ Up Y.K H al kd Q ∧ UpX Y H al xd
def LL2 (Y : Cy) (r : D → D → Sto → KD → XD → Prop) : R2 := fun x y H Q => ∃ d e al S kd xd, RS Y.K H al S ∧ RD Y.K H al d x ∧ RD Y.K H al e y ∧ r d e S kd xd ∧ Up Y.K H al kd Q ∧ UpX Y H al xd
def LLs (Y : Cy) (r : SpD) : List V → Hp → VK → Prop := fun vs H Q => ∃ ds al S kd xd, RS Y.K H al S ∧ RDs Y.K H al ds vs ∧ r ds S kd xd ∧ Up Y.K H al kd Q ∧ UpX Y H al xd

theorem pe_imp {X : Cx} {e : Expr} {t t' : TE} (h : PE X e t) (f : ∀ s H Q, t' s H Q → t s H Q) : PE X e t' := ⟨fun pins s σ H Q I q => h.run pins s σ H Q I (f σ H Q q)⟩
theorem pt_imp {X : Cx} {e : Expr} {t t' : TT} (h : PT X e t) (f : ∀ s H Q, t' s H Q → t s H Q) : PT X e t' := ⟨fun pins s σ H Q I q => h.run pins s σ H Q I (f σ H Q q)⟩
theorem pw_imp {X : Cx} {e : Expr} {t t' : TT} (h : PW X e t) (f : ∀ s H Q, t' s H Q → t s H Q) : PW X e t' := ⟨fun wh pins s σ H Q I q => h.run wh pins s σ H Q I (f σ H Q q)⟩
theorem pa_imp {X : Cx} {e : List Expr} {t t' : TA} (h : PA X e t) (f : ∀ s H Q, t' s H Q → t s H Q) : PA X e t' := ⟨fun pos pins s σ H Q I q => h.run pos pins s σ H Q I (f σ H Q q)⟩
theorem ps_imp {X : Cx} {e : Stmt} {t t' : TS} (h : PS X e t) (f : ∀ De s H, t' De s H → t De s H) : PS X e t' := ⟨fun pins s σ H De I q => h.run pins s σ H De I (f De σ H q)⟩
theorem pss_imp {X : Cx} {e : List Stmt} {t t' : TS} (h : PSs X e t) (f : ∀ De s H, t' De s H → t De s H) : PSs X e t' := ⟨fun pins s σ H De I q => h.run pins s σ H De I (f De σ H q)⟩

abbrev QE (X : Cx) (E : XK) (e : Expr) (t : TED) : Prop := PE X e (LE (cy X E) t)
abbrev QT (X : Cx) (E : XK) (e : Expr) (t : TTD) : Prop := PT X e (LT (cy X E) t)
abbrev QW (X : Cx) (E : XK) (e : Expr) (t : TTD) : Prop := PW X e (LT (cy X E) t)
abbrev QA (X : Cx) (E : XK) (e : List Expr) (t : TAD) : Prop := PA X e (LA (cy X E) t)
abbrev QS (X : Cx) (E : XK) (e : Stmt) (t : TSD) : Prop := PS X e (LS (cy X E) t)
abbrev QSs (X : Cx) (E : XK) (e : List Stmt) (t : TSD) : Prop := PSs X e (LS (cy X E) t)

/-! ### readings -/
def dC (d : D) : TED := fun _ S k _ => k d S
def dVar (i : Nat) : TED := fun sg S k _ => match sg[i]? with
  | some (some d) => k d S
  | _ => False
abbrev R1D := D → Sto → KD → XD → Prop
abbrev R2D := D → D → Sto → KD → XD → Prop
def dUn (r : R1D) (ta : TED) : TED := fun sg S k x => ta sg S (fun d S' => r d S' k x) x
def kOp2 (r : R2D) (k : KD) (x : XD) (d : D) : KD := fun e S => r d e S k x
def kOp1 (r : R2D) (tb : TED) (sg : Sl) (k : KD) (x : XD) : KD := fun d S => tb sg S (kOp2 r k x d) x
def dOp (r : R2D) (ta tb : TED) : TED := fun sg S k x => ta sg S (kOp1 r tb sg k x) x
def kB (k : Bool → Sto → Prop) : KD := fun d S => match d with
  | .bl b => k b S
  | _ => False
def dTst (t : TED) : TTD := fun sg S k x => t sg S (kB k) x
def kAnd (u : TTD) (sg : Sl) (k : Bool → Sto → Prop) (x : XD) : Bool → Sto → Prop := fun b S => (b = true → u sg S k x) ∧ (b = false → k false S)
def dAnd (t u : TTD) : TTD := fun sg S k x => t sg S (kAnd u sg k x) x
def kOr (u : TTD) (sg : Sl) (k : Bool → Sto → Prop) (x : XD) : Bool → Sto → Prop := fun b S => (b = true → k true S) ∧ (b = false → u sg S k x)
def dOr (t u : TTD) : TTD := fun sg S k x => t sg S (kOr u sg k x) x
def kNot (k : Bool → Sto → Prop) : Bool → Sto → Prop := fun b S => k (!b) S
def dNot (t : TTD) : TTD := fun sg S k x => t sg S (kNot k) x
def kAndV (u : TED) (sg : Sl) (k : KD) (x : XD) : Bool → Sto → Prop := fun b S => (b = true → u sg S k x) ∧ (b = false → k (.bl false) S)
def dAndV (t u : TED) : TED := fun sg S k x => t sg S (kB (kAndV u sg k x)) x
def kOrV (u : TED) (sg : Sl) (k : KD) (x : XD) : Bool → Sto → Prop := fun b S => (b = true → k (.bl true) S) ∧ (b = false → u sg S k x)
def dOrV (t u : TED) : TED := fun sg S k x => t sg S (kB (kOrV u sg k x)) x
def kNotV (k : KD) : Bool → Sto → Prop := fun b S => k (.bl (!b)) S
def dNotV (t : TED) : TED := fun sg S k x => t sg S (kB (kNotV k)) x
def kIfE (u v : TED) (sg : Sl) (k : KD) (x : XD) : Bool → Sto → Prop := fun b S => (b = true → u sg S k x) ∧ (b = false → v sg S k x)
def dIfE (t : TTD) (u v : TED) : TED := fun sg S k x => t sg S (kIfE u v sg k x) x
def dNil : TAD := fun _ S k _ => k [] S
def kCons2 (k : List D → Sto → Prop) (d : D) : List D → Sto → Prop := fun ds S => k (d :: ds) S
def kCons1 (u : TAD) (sg : Sl) (k : List D → Sto → Prop) (x : XD) : KD := fun d S => u sg S (kCons2 k d) x
def dCons (t : TED) (u : TAD) : TAD := fun sg S k x => t sg S (kCons1 u sg k x) x
def kTup (k : KD) : List D → Sto → Prop := fun ds S => ds.length ≤ sizeLine ∧ k (.tup ds) S
def dTup (t : TAD) : TED := fun sg S k x => t sg S (kTup k) x
def kLst (k : KD) : List D → Sto → Prop := fun ds S => ds.length ≤ sizeLine ∧ k (.ref S.length) (S ++ [.lst ds])
def dLst (t : TAD) : TED := fun sg S k x => t sg S (kLst k) x
def kCall (r : SpD) (k : KD) (x : XD) : List D → Sto → Prop := fun ds S => r ds S k x
/-- a call of anything by values -/
def dCall (r : SpD) (t : TAD) : TED := fun sg S k x => t sg S (kCall r k x) x

section
variable {X : Cx} {E : XK} {a b : Expr} {ta tb : TED} {pos : Pos}
/-! ### names, constants -/
theorem q_val {e : Expr} {d : D} {v : V} (h : PE X e (tC v)) (r : ∀ H al, RD X.K H al d v) : QE X E e (dC d) := pe_imp h fun s H Q ⟨sg, al, S, kd, xd, rs, rl, q, up, ux⟩ => up d S al H v (.now rs) (r H al) q
theorem q_int {i j} : QE X E (.Constant (.int i) j pos) (dC (.int i)) := q_val pe_int fun _ _ => rfl
theorem q_bl {i j} : QE X E (.Constant (.bool i) j pos) (dC (.bl i)) := q_val pe_bl fun _ _ => rfl
theorem q_str {i j} : QE X E (.Constant (.str i) j pos) (dC (.str i)) := q_val pe_str fun _ _ => rfl
theorem q_non {j} : QE X E (.Constant .none j pos) (dC .non) := q_val pe_non fun _ _ => rfl
theorem q_var {x : Str} (i : Nat) (hN : X.N[i]? = some x := by rfl) (hv : Vis X.env.scope x := by first | exact Or.inl rfl | exact Or.inr (Or.inl rfl) | exact Or.inr (Or.inr rfl)) (hd : (x == ("__debug__" : Str)) = false := by decide)
    (hcd : (x == ("__classdict__" : Str)) = false := by decide) : QE X E (.Name x pos) (dVar i) := by
  refine pe_imp (pe_var hN hv hd hcd) fun s H Q ⟨sg, al, S, kd, xd, rs, rl, q, up, ux⟩ => ?_
  unfold dVar at q
  cases e : sg[i]? with
  | none => rw [e] at q; exact q.elim
  | some o =>
    cases o with
    | none => rw [e] at q; exact q.elim
    | some d =>
      rw [e] at q
      obtain ⟨v, e1, r⟩ := rl.at_ i d e
      exact ⟨v, e1, up d S al H v (.now rs) r q⟩

/-! ### operators -/
theorem q_op {op : Operator} {r : R2D} (ho : OpR X (binaryOp op) (LL2 (cy X E) r)) (ha : QE X E a ta) (hb : QE X E b tb) : QE X E (.BinOp a op b pos) (dOp r ta tb) :=
  pe_imp (pe_op ho ha hb) fun s H Q ⟨sg, al, S, kd, xd, rs, rl, q, up, ux⟩ => ⟨sg, al, S, kOp1 r tb sg kd xd, xd, rs, rl, q,
    fun d1 S1 al1 H1 v1 f1 r1 q1 => ⟨sg, al1, S1, kOp2 r kd xd d1, xd, f1.rs, f1.rsl rl, q1, fun d2 S2 al2 H2 v2 f2 r2 q2 =>
      ⟨d1, d2, al2, S2, kd, xd, f2.rs, f2.rd r1, r2, q2, up.mono (f1.trans f2), ux.mono (f1.trans f2)⟩, ux.mono f1⟩, ux⟩
theorem q_un {op : UnaryOp} {r : R1D} (ho : UnR X (unaryOp op) (L1 (cy X E) r)) (ha : QE X E a ta) : QE X E (.UnaryOp op a pos) (dUn r ta) :=
  pe_imp (pe_un ho ha) fun s H Q ⟨sg, al, S, kd, xd, rs, rl, q, up, ux⟩ => ⟨sg, al, S, fun d S' => r d S' kd xd, xd, rs, rl, q,
    fun d1 S1 al1 H1 v1 f1 r1 q1 => ⟨d1, al1, S1, kd, xd, f1.rs, r1, q1, up.mono f1, ux.mono f1⟩, ux⟩
theorem q_cmp {op : CmpOp} {r : R2D} (ho : OpR X (compareOp op) (LL2 (cy X E) r)) (ha : QE X E a ta) (hb : QE X E b tb) (hm : behindInMarks op b = false := by rfl) : QE X E (.Compare a [op] [b] pos) (dOp r ta tb) :=
  pe_imp (pe_cmpR ho ha hb hm) fun s H Q ⟨sg, al, S, kd, xd, rs, rl, q, up, ux⟩ => ⟨sg, al, S, kOp1 r tb sg kd xd, xd, rs, rl, q,
    fun d1 S1 al1 H1 v1 f1 r1 q1 => ⟨sg, al1, S1, kOp2 r kd xd d1, xd, f1.rs, f1.rsl rl, q1, fun d2 S2 al2 H2 v2 f2 r2 q2 =>
      ⟨d1, d2, al2, S2, kd, xd, f2.rs, f2.rd r1, r2, q2, up.mono (f1.trans f2), ux.mono (f1.trans f2)⟩, ux.mono f1⟩, ux⟩
theorem upB {H : Hp} {al : List Addr} {kd : Bool → Sto → Prop} {Q : Bool → Hp → Prop} {K : PySem.W.Frag} (u : UpB K H al kd Q) : Up K H al (kB kd) (fun x H' => ∃ c, x = .bl c ∧ Q c H') := fun d S' al' H' v f r h => by
  cases d with
  | bl c => exact ⟨c, r, u c S' al' H' f h⟩
  | _ => exact h.elim
theorem q_tcmp {op : CmpOp} {r : R2D} (ho : OpR X (compareOp op) (LL2 (cy X E) r)) (ha : QE X E a ta) (hb : QE X E b tb) (hm : behindInMarks op b = false := by rfl) : QT X E (.Compare a [op] [b] pos) (dTst (dOp r ta tb)) :=
  pt_imp (pt_cmpR ho ha hb hm) fun s H Q ⟨sg, al, S, kd, xd, rs, rl, q, up, ux⟩ => ⟨sg, al, S, kOp1 r tb sg (kB kd) xd, xd, rs, rl, q,
    fun d1 S1 al1 H1 v1 f1 r1 q1 => ⟨sg, al1, S1, kOp2 r (kB kd) xd d1, xd, f1.rs, f1.rsl rl, q1, fun d2 S2 al2 H2 v2 f2 r2 q2 =>
      ⟨d1, d2, al2, S2, kB kd, xd, f2.rs, f2.rd r1, r2, q2, (upB up).mono (f1.trans f2), ux.mono (f1.trans f2)⟩, ux.mono f1⟩, ux⟩
theorem le_tst {Y : Cy} {t : TED} {s : L2.St} {H : Hp} {Q : Bool → Hp → Prop} (h : LT Y (dTst t) s H Q) : LE Y t s H (fun x H' => ∃ c, x = .bl c ∧ Q c H') := by
  obtain ⟨sg, al, S, kd, xd, rs, rl, q, up, ux⟩ := h
  exact ⟨sg, al, S, kB kd, xd, rs, rl, q, upB up, ux⟩
/-- an expression whose value is a bool, as a test -/
theorem q_tval {e : Expr} {t : TED} (h : QE X E e t) (he : ∀ whole, isTrue e X.env whole = (do let v ← whole; standAt e.pos; holding [v] (truthy v)) := by intro _; rfl) : QT X E e (dTst t) :=
  pt_imp (pt_val h he) fun s H Q q => le_tst q
variable {t u : TTD} {rest : List Expr}
theorem q_and1 (ha : QT X E a t) : QW X E (.BoolOp .And [a] pos) t := pw_and1 ha
theorem q_or1 (ha : QT X E a t) : QW X E (.BoolOp .Or [a] pos) t := pw_or1 ha
theorem ite_of {c : Bool} {A B : Prop} (h : (c = true → A) ∧ (c = false → B)) : if c = true then A else B := by
  cases c with
  | true => exact h.1 rfl
  | false => exact h.2 rfl
theorem q_and (ha : QT X E a t) (hb : QW X E (.BoolOp .And (b :: rest) pos) u) : QW X E (.BoolOp .And (a :: b :: rest) pos) (dAnd t u) :=
  pw_imp (pw_and ha hb) fun s H Q ⟨sg, al, S, kd, xd, rs, rl, q, up, ux⟩ => ⟨sg, al, S, kAnd u sg kd xd, xd, rs, rl, q, fun c S1 al1 H1 f1 q1 =>
    ite_of ⟨fun e => ⟨sg, al1, S1, kd, xd, f1.rs, f1.rsl rl, q1.1 e, up.mono f1, ux.mono f1⟩, fun e => up false S1 al1 H1 f1 (q1.2 e)⟩, ux⟩
theorem q_or (ha : QT X E a t) (hb : QW X E (.BoolOp .Or (b :: rest) pos) u) : QW X E (.BoolOp .Or (a :: b :: rest) pos) (dOr t u) :=
  pw_imp (pw_or ha hb) fun s H Q ⟨sg, al, S, kd, xd, rs, rl, q, up, ux⟩ => ⟨sg, al, S, kOr u sg kd xd, xd, rs, rl, q, fun c S1 al1 H1 f1 q1 =>
    ite_of ⟨fun e => up true S1 al1 H1 f1 (q1.1 e), fun e => ⟨sg, al1, S1, kd, xd, f1.rs, f1.rsl rl, q1.2 e, up.mono f1, ux.mono f1⟩⟩, ux⟩
theorem q_w {e : Expr} (h : QW X E e t) : QT X E e t := h.pt
theorem q_not (ha : QT X E a t) : QT X E (.UnaryOp .Not a pos) (dNot t) :=
  pt_imp (pt_not ha) fun s H Q ⟨sg, al, S, kd, xd, rs, rl, q, up, ux⟩ => ⟨sg, al, S, kNot kd, xd, rs, rl, q, fun c S1 al1 H1 f1 q1 => up (!c) S1 al1 H1 f1 q1, ux⟩
theorem q_one {op} (ha : QE X E a ta) : QE X E (.BoolOp op [a] pos) ta := pe_one ha
theorem q_andV (ha : QE X E a ta) (hb : QE X E (.BoolOp .And (b :: rest) pos) tb) : QE X E (.BoolOp .And (a :: b :: rest) pos) (dAndV ta tb) :=
  pe_imp (pe_and ha hb) fun s H Q ⟨sg, al, S, kd, xd, rs, rl, q, up, ux⟩ => ⟨sg, al, S, kB (kAndV tb sg kd xd), xd, rs, rl, q, fun d S1 al1 H1 v f1 r1 q1 => by
    cases d with
    | bl c => exact ⟨c, r1, ite_of ⟨fun e => ⟨sg, al1, S1, kd, xd, f1.rs, f1.rsl rl, q1.1 e, up.mono f1, ux.mono f1⟩, fun e => up (.bl false) S1 al1 H1 _ f1 rfl (q1.2 e)⟩⟩
    | _ => exact q1.elim, ux⟩
theorem q_orV (ha : QE X E a ta) (hb : QE X E (.BoolOp .Or (b :: rest) pos) tb) : QE X E (.BoolOp .Or (a :: b :: rest) pos) (dOrV ta tb) :=
  pe_imp (pe_or ha hb) fun s H Q ⟨sg, al, S, kd, xd, rs, rl, q, up, ux⟩ => ⟨sg, al, S, kB (kOrV tb sg kd xd), xd, rs, rl, q, fun d S1 al1 H1 v f1 r1 q1 => by
    cases d with
    | bl c => exact ⟨c, r1, ite_of ⟨fun e => up (.bl true) S1 al1 H1 _ f1 rfl (q1.1 e), fun e => ⟨sg, al1, S1, kd, xd, f1.rs, f1.rsl rl, q1.2 e, up.mono f1, ux.mono f1⟩⟩⟩
    | _ => exact q1.elim, ux⟩
theorem q_notV (ha : QE X E a ta) : QE X E (.UnaryOp .Not a pos) (dNotV ta) :=
  pe_imp (pe_not ha) fun s H Q ⟨sg, al, S, kd, xd, rs, rl, q, up, ux⟩ => ⟨sg, al, S, kB (kNotV kd), xd, rs, rl, q, fun d S1 al1 H1 v f1 r1 q1 => by
    cases d with
    | bl c => exact ⟨c, r1, up (.bl (!c)) S1 al1 H1 _ f1 rfl q1⟩
    | _ => exact q1.elim, ux⟩
theorem q_ifE {c : Expr} (hc : QT X E c t) (ha : QE X E a ta) (hb : QE X E b tb) : QE X E (.IfExp c a b pos) (dIfE t ta tb) :=
  pe_imp (pe_ifExp hc ha hb) fun s H Q ⟨sg, al, S, kd, xd, rs, rl, q, up, ux⟩ => ⟨sg, al, S, kIfE ta tb sg kd xd, xd, rs, rl, q, fun d S1 al1 H1 f1 q1 =>
    ite_of ⟨fun e => ⟨sg, al1, S1, kd, xd, f1.rs, f1.rsl rl, q1.1 e, up.mono f1, ux.mono f1⟩, fun e => ⟨sg, al1, S1, kd, xd, f1.rs, f1.rsl rl, q1.2 e, up.mono f1, ux.mono f1⟩⟩, ux⟩

/-! ### arguments, displays -/
variable {e : Expr} {es : List Expr} {te : TED} {tr : TAD}
theorem q_nil : QA X E [] dNil := pa_imp pa_nil fun s H Q ⟨sg, al, S, kd, xd, rs, rl, q, up, ux⟩ => up [] S al H [] (.now rs) rfl q
theorem q_cons (ha : QE X E e te) (hr : QA X E es tr) (hs : starEach (e :: es) X.env = (false, eval e X.env) :: starEach es X.env := by rfl) : QA X E (e :: es) (dCons te tr) :=
  pa_imp (pa_cons ha hr hs) fun s H Q ⟨sg, al, S, kd, xd, rs, rl, q, up, ux⟩ => ⟨sg, al, S, kCons1 tr sg kd xd, xd, rs, rl, q, fun d S1 al1 H1 v f1 r1 q1 =>
    ⟨sg, al1, S1, kCons2 kd d, xd, f1.rs, f1.rsl rl, q1, fun ds S2 al2 H2 vs f2 r2 q2 => up (d :: ds) S2 al2 H2 (v :: vs) (f1.trans f2) ⟨v, vs, rfl, f2.rd r1, r2⟩ q2, ux.mono f1⟩, ux⟩
theorem q_tup {x1} (h : QA X E es tr) : QE X E (.Tuple es x1 pos) (dTup tr) :=
  pe_imp (pe_tup h) fun s H Q ⟨sg, al, S, kd, xd, rs, rl, q, up, ux⟩ => ⟨sg, al, S, kTup kd, xd, rs, rl, q, fun ds S1 al1 H1 vs f1 r1 q1 => ⟨by rw [RDs.length r1]; exact q1.1, fun p hp => by
    have f2 : Fut X.K H1 al1 (upd H1 p (.tup vs)) al1 S1 := Fut.lay f1.rs hp
    exact up (.tup ds) S1 al1 _ (.ref p) (f1.trans f2) ⟨p, vs, rfl, .inl (.inl upd_same), f2.rds r1⟩ q1.2⟩, ux⟩
theorem ref_new {H : Hp} {al : List Addr} {S : Sto} {p : Addr} {K : PySem.W.Frag} (r : RS K H al S) (H' : Hp) : RD K H' (al ++ [p]) (.ref S.length) (.ref p) := ⟨p, rfl, by rw [← r.len]; simp⟩
theorem new_lst {K : PySem.W.Frag} {H : Hp} {al : List Addr} {S : Sto} {p : Addr} {ds : List D} {vs : List V} (r : RS K H al S) (hp : H p = none) (rd : RDs K H al ds vs) : Fut K H al (upd H p (.lst vs)) (al ++ [p]) (S ++ [.lst ds]) :=
  Fut.push r hp ⟨vs, upd_same, RDs.mono (Keep.laid hp) _ _ rd⟩
theorem q_lst (h : QA X E es tr) : QE X E (.List es pos) (dLst tr) :=
  pe_imp (pe_lst h) fun s H Q ⟨sg, al, S, kd, xd, rs, rl, q, up, ux⟩ => ⟨sg, al, S, kLst kd, xd, rs, rl, q, fun ds S1 al1 H1 vs f1 r1 q1 => ⟨by rw [RDs.length r1]; exact q1.1, fun p hp =>
    up (.ref S1.length) _ _ _ (.ref p) (f1.trans (new_lst f1.rs hp r1)) (ref_new f1.rs _) q1.2⟩, ux⟩

/-! ### calls of built-ins -/
theorem lls {H : Hp} {r : SpD} {s : L2.St} {Q : VK} {Y : Cy} {t : TAD} (h : LE Y (dCall r t) s H Q) : LA Y t s H (fun vs H1 => LLs Y r vs H1 Q) := by
  obtain ⟨sg, al, S, kd, xd, rs, rl, q, up, ux⟩ := h
  exact ⟨sg, al, S, kCall r kd xd, xd, rs, rl, q, fun ds S1 al1 H1 vs f1 r1 q1 => ⟨ds, al1, S1, kd, xd, f1.rs, r1, q1, up.mono f1, ux.mono f1⟩, ux⟩
theorem q_callB {x : Str} {id : String} {r : SpD} {p : Pos} (hc : CallR X (.builtin id) (LLs (cy X E) r)) (hg : Gl X x) (hm : X.mg x = none) (hv : bootBuiltins x = some (.builtin id)) (ha : QA X E (e :: es) tr) (hn : x ≠ "__name__" := by decide) (hdb : (x == ("__debug__" : Str)) = false := by decide)
    (he : starEach (e :: es) X.env = (false, eval e X.env) :: starEach es X.env := by rfl) (hpl : (backTo pos (starEach es X.env)).any (·.1) = false := by rfl) : QE X E (.Call (.Name x p) (e :: es) [] pos) (dCall r tr) :=
  pe_imp (pe_callB hc hg hm hv ha hn hdb he hpl) fun s H Q q => lls q
theorem q_callTy {x : Str} {T : String} {r : SpD} {p : Pos} (hc : CallR X (.type T) (LLs (cy X E) r)) (hg : Gl X x) (hm : X.mg x = none) (hv : bootBuiltins x = some (.type T)) (ha : QA X E (e :: es) tr) (hn : x ≠ "__name__" := by decide) (hdb : (x == ("__debug__" : Str)) = false := by decide)
    (he : starEach (e :: es) X.env = (false, eval e X.env) :: starEach es X.env := by rfl) (hpl : (backTo pos (starEach es X.env)).any (·.1) = false := by rfl) : QE X E (.Call (.Name x p) (e :: es) [] pos) (dCall r tr) :=
  pe_imp (pe_callTy hc hg hm hv ha hn hdb he hpl) fun s H Q q => lls q
/-! ### calls of defs -/
/-- a def's promise over data -/
def LSp (Y : Cy) (n : Nat) (sp : SpD) : List V → Hp → VK → Prop := fun vs H Q => vs.length = n ∧ LLs Y sp vs H Q
def LP (K : PySem.W.Frag) (mg : Str → Option Value) (n : Nat) (sp : SpD) : Sp := fun vs H Q E => LSp ⟨K, mg, E⟩ n sp vs H Q
/-- with the number of arguments -/
def spN (n : Nat) (sp : SpD) : SpD := fun ds S k x => ds.length = n ∧ sp ds S k x
variable {k n : Nat} {f : Addr} {fd : FuncData} {ps : List Str} {sp : SpD} {x : Str} {p : Pos}
theorem q_call (F : FnOk X.prog X.w X.K X.mg X.base (L2.CX X.prog X.w) k f fd ps (LP X.K X.mg n sp)) (hr : Room k X.A) (hg : Gl X x) (hm : X.mg x = some (.ref f)) (hk : PySem.W.keepIn X.K (.ref f) = true) (hb : Binds X.K fd ps []) (hx : Passes (L2.CX X.prog X.w) X E)
    (ha : QA X E (e :: es) tr) (hdb : (x == ("__debug__" : Str)) = false := by decide) (he : starEach (e :: es) X.env = (false, eval e X.env) :: starEach es X.env := by rfl) (hpl : (backTo pos (starEach es X.env)).any (·.1) = false := by rfl) :
    QE X E (.Call (.Name x p) (e :: es) [] pos) (dCall (spN n sp) tr) :=
  pe_imp (pe_call (dvs := []) F hr hg hm hk hb .nil hx ha hdb he hpl) fun s H Q ⟨sg, al, S, kd, xd, rs, rl, q, up, ux⟩ => ⟨sg, al, S, kCall (spN n sp) kd xd, xd, rs, rl, q,
    fun ds S1 al1 H1 vs f1 r1 q1 => by
      show LP X.K X.mg n sp (vs ++ []) H1 Q E
      rw [List.append_nil]
      exact ⟨by rw [RDs.length r1]; exact q1.1, ds, al1, S1, kd, xd, f1.rs, r1, q1.2, up.mono f1, ux.mono f1⟩, ux⟩
end
end Q
namespace Q
open PySem
open Spec PyProof.Rows L2

/-! ### operators by value -/
/-- a list that is read -/
def isL (S : Sto) (n : Nat) (ds : List D) : Prop := S[n]? = some (.lst ds) ∨ S[n]? = some (.ro ds)
def rAdd : R2D := fun d e S k _ => match d, e with
  | .int i, .int j => k (.int (i + j)) S
  | .str i, .str j => i.length + j.length ≤ sizeLine ∧ k (.str (i ++ j)) S
  | .tup i, .tup j => i.length + j.length ≤ sizeLine ∧ k (.tup (i ++ j)) S
  | .ref n, .ref m => ∃ xs ys, S[n]? = some (.lst xs) ∧ S[m]? = some (.lst ys) ∧ xs.length + ys.length ≤ sizeLine ∧ k (.ref S.length) (S ++ [.lst (xs ++ ys)])
  | _, _ => False
def rSub : R2D := fun d e S k _ => match d, e with
  | .int i, .int j => k (.int (i - j)) S
  | _, _ => False
def MulOk (i j : Int) : Prop := CMul i j ∨ CMulW i j
def rMul : R2D := fun d e S k _ => match d, e with
  | .int i, .int j => MulOk i j ∧ k (.int (i * j)) S
  | .ref n, .int j => ∃ xs, S[n]? = some (.lst xs) ∧ j < 2 ^ 63 ∧ -(2 ^ 63) ≤ j ∧ xs.length * j.toNat ≤ sizeLine ∧ k (.ref S.length) (S ++ [.lst (List.replicate j.toNat xs).flatten])
  | _, _ => False
def rFdiv : R2D := fun d e S k _ => match d, e with
  | .int i, .int j => CDivW i j ∧ k (.int (i / j)) S
  | _, _ => False
def rMod : R2D := fun d e S k _ => match d, e with
  | .int i, .int j => 0 < j ∧ k (.int (i % j)) S
  | _, _ => False
/-- a power that is worked out: of a plain base, or of a wide base to a few -/
def PowOk (i j : Int) : Prop := CPow i j ∨ (0 ≤ j ∧ j ≤ 1000 ∧ i.natAbs < 2 ^ 10000)
def rPow : R2D := fun d e S k _ => match d, e with
  | .int i, .int j => PowOk i j ∧ k (.int (i ^ j.toNat)) S
  | _, _ => False
def rShl : R2D := fun d e S k _ => match d, e with
  | .int i, .int j => CPow i j ∧ k (.int (i * 2 ^ j.toNat)) S
  | _, _ => False
def rShr : R2D := fun d e S k _ => match d, e with
  | .int i, .int j => 0 ≤ j ∧ k (.int (i / 2 ^ j.toNat)) S
  | _, _ => False
def rAnd : R2D := fun d e S k _ => match d, e with
  | .int i, .int j => k (.int (Builtin.bitAnd i j)) S
  | _, _ => False
def rOr : R2D := fun d e S k _ => match d, e with
  | .int i, .int j => k (.int (Builtin.bitOr i j)) S
  | _, _ => False
def rXor : R2D := fun d e S k _ => match d, e with
  | .int i, .int j => k (.int (Builtin.bitXor i j)) S
  | _, _ => False
def rNeg : R1D := fun d S k _ => match d with
  | .int i => k (.int (-i)) S
  | _ => False
mutual
inductive DPy (S : Sto) : D → PyData → Prop
  | non : DPy S .non .none
  | bl (b : Bool) : DPy S (.bl b) (.bool b)
  | int (i : Int) : DPy S (.int i) (.int i)
  | str (x : Str) : DPy S (.str x) (.str x)
  | tup {ds : List D} {ps : List PyData} : DPys S ds ps → DPy S (.tup ds) (.tuple ps)
  | ref {n : Nat} {ds : List D} {ps : List PyData} : isL S n ds → DPys S ds ps → DPy S (.ref n) (.list ps)
inductive DPys (S : Sto) : List D → List PyData → Prop
  | nil : DPys S [] []
  | cons {d : D} {ds : List D} {p : PyData} {ps : List PyData} : DPy S d p → DPys S ds ps → DPys S (d :: ds) (p :: ps)
end
/-- == of data at any depth -/
def eqG (d e : D) (S : Sto) (k : Bool → Prop) : Prop := ∃ p q, DPy S d p ∧ DPy S e q ∧ SeqAt.shaped p = true ∧ SeqAt.shaped q = true ∧ k (PyData.eqv p q)
def rEq : R2D := fun d e S k _ => match d, e with
  | .int i, .int j => k (.bl (decide (i = j))) S
  | .str i, .str j => k (.bl (decide (i = j))) S
  | .bl i, .bl j => k (.bl (decide (i = j))) S
  | d, e => eqG d e S fun b => k (.bl b) S
def rNe : R2D := fun d e S k _ => match d, e with
  | .int i, .int j => k (.bl (!decide (i = j))) S
  | .str i, .str j => k (.bl (!decide (i = j))) S
  | .bl i, .bl j => k (.bl (!decide (i = j))) S
  | d, e => eqG d e S fun b => k (.bl (!b)) S
def rLt : R2D := fun d e S k _ => match d, e with
  | .int i, .int j => k (.bl (decide (i < j))) S
  | .str i, .str j => k (.bl (decide (i.cps.toList < j.cps.toList))) S
  | _, _ => False
def rLe : R2D := fun d e S k _ => match d, e with
  | .int i, .int j => k (.bl (decide (i ≤ j))) S
  | _, _ => False
def rGt : R2D := fun d e S k _ => match d, e with
  | .int i, .int j => k (.bl (decide (j < i))) S
  | _, _ => False
def rGe : R2D := fun d e S k _ => match d, e with
  | .int i, .int j => k (.bl (decide (j ≤ i))) S
  | _, _ => False
def isNon : D → Bool
  | .non => true
  | _ => false
/-- is None; is of two truths -/
def rIs : R2D := fun d e S k _ => match e with
  | .non => k (.bl (isNon d)) S
  | .bl j => match d with
    | .bl i => k (.bl (decide (i = j))) S
    | _ => False
  | _ => False
def rIsNot : R2D := fun d e S k _ => match e with
  | .non => k (.bl (!isNon d)) S
  | .bl j => match d with
    | .bl i => k (.bl (!decide (i = j))) S
    | _ => False
  | _ => False
def flatD : D → Bool
  | .non => true
  | .bl _ => true
  | .int _ => true
  | .str _ => true
  | _ => false
def eqF : D → D → Bool
  | .non, .non => true
  | .bl a, .bl b => a == b
  | .bl a, .int b => (if a then 1 else 0) == b
  | .int a, .bl b => a == (if b then 1 else 0)
  | .int a, .int b => a == b
  | .str a, .str b => a == b
  | _, _ => false
def inF (d : D) (ds : List D) : Bool := ds.any fun e => eqF e d
def rIn : R2D := fun d e S k _ => match e with
  | .tup ds => flatD d = true ∧ ds.all flatD = true ∧ k (.bl (inF d ds)) S
  | .ref n => ∃ ds, isL S n ds ∧ flatD d = true ∧ ds.all flatD = true ∧ k (.bl (inF d ds)) S
  | _ => False
def rNotIn : R2D := fun d e S k _ => match e with
  | .tup ds => flatD d = true ∧ ds.all flatD = true ∧ k (.bl (!inF d ds)) S
  | .ref n => ∃ ds, isL S n ds ∧ flatD d = true ∧ ds.all flatD = true ∧ k (.bl (!inF d ds)) S
  | _ => False

section
variable {X : Cx} {E : XK}
theorem up_at {K : PySem.W.Frag} {H : Hp} {al : List Addr} {S : Sto} {kd : KD} {Q : VK} {d : D} {v : V} (up : Up K H al kd Q) (rs : RS K H al S) (r : RD K H al d v) (h : kd d S) : Q v H := up d S al H v (.now rs) r h
theorem isL_at {K : PySem.W.Frag} {H : Hp} {al : List Addr} {S : Sto} {n : Nat} {ds : List D} {v : V} (rs : RS K H al S) (h : isL S n ds) (r : RD K H al (.ref n) v) : ∃ a vs, v = .ref a ∧ al[n]? = some a ∧ SqL K H a vs ∧ RDs K H al ds vs := by
  obtain ⟨a, e, ha⟩ := r
  rcases h with h | h
  · obtain ⟨vs, e1, r1⟩ := rs.ob n _ a h ha
    exact ⟨a, vs, e, ha, .inl (.inl e1), r1⟩
  · obtain ⟨vs, e1, r1⟩ := rs.ob n _ a h ha
    exact ⟨a, vs, e, ha, rol_sq e1, r1⟩
theorem lst_at {K : PySem.W.Frag} {H : Hp} {al : List Addr} {S : Sto} {n : Nat} {ds : List D} {v : V} (rs : RS K H al S) (h : S[n]? = some (.lst ds)) (r : RD K H al (.ref n) v) : ∃ a vs, v = .ref a ∧ al[n]? = some a ∧ H a = some (.lst vs) ∧ RDs K H al ds vs := by
  obtain ⟨a, e, ha⟩ := r
  obtain ⟨vs, e1, r1⟩ := rs.ob n _ a h ha
  exact ⟨a, vs, e, ha, e1, r1⟩
theorem up_new {K : PySem.W.Frag} {H : Hp} {al : List Addr} {S : Sto} {kd : KD} {Q : VK} {ds : List D} {vs : List V} {p : Addr} (up : Up K H al kd Q) (rs : RS K H al S) (hp : H p = none) (r : RDs K H al ds vs) (h : kd (.ref S.length) (S ++ [.lst ds])) : Q (.ref p) (upd H p (.lst vs)) :=
  up (.ref S.length) _ _ _ (.ref p) (new_lst rs hp r) (ref_new rs _) h
theorem up_tup {K : PySem.W.Frag} {H : Hp} {al : List Addr} {S : Sto} {kd : KD} {Q : VK} {ds : List D} {vs : List V} {p : Addr} (up : Up K H al kd Q) (rs : RS K H al S) (hp : H p = none) (r : RDs K H al ds vs) (h : kd (.tup ds) S) : Q (.ref p) (upd H p (.tup vs)) := by
  have f2 : Fut K H al (upd H p (.tup vs)) al S := Fut.lay rs hp
  exact up (.tup ds) S al _ (.ref p) f2 ⟨p, vs, rfl, .inl (.inl upd_same), f2.rds r⟩ h
/-- an operator of two ints -/
theorem o_int2 {f : Value → Value → Sem Value} {C : Int → Int → Prop} {g : Int → Int → V} {g' : Int → Int → D} (h : OpR X f (rI C g)) (hg : ∀ i j H al, RD X.K H al (g' i j) (g i j)) :
    OpR X f (LL2 (cy X E) fun d e S k _ => match d, e with | .int i, .int j => C i j ∧ k (g' i j) S | _, _ => False) := by
  intro pins s σ H x y v u Q I rx ry ⟨d, e, al, S, kd, xd, rs, rd, re, q, up, ux⟩
  cases d <;> cases e <;> try exact q.elim
  case int.int i j =>
    have rd : x = .int i := rd
    have re : y = .int j := re
    exact h pins s σ H x y v u Q I rx ry ⟨i, j, rd, re, q.1, up_at up rs (hg i j H al) q.2⟩
theorem o_int0 {f : Value → Value → Sem Value} {g : Int → Int → V} {g' : Int → Int → D} (h : OpR X f (rI0 g)) (hg : ∀ i j H al, RD X.K H al (g' i j) (g i j)) :
    OpR X f (LL2 (cy X E) fun d e S k _ => match d, e with | .int i, .int j => k (g' i j) S | _, _ => False) := by
  intro pins s σ H x y v u Q I rx ry ⟨d, e, al, S, kd, xd, rs, rd, re, q, up, ux⟩
  cases d <;> cases e <;> try exact q.elim
  case int.int i j =>
    have rd : x = .int i := rd
    have re : y = .int j := re
    exact h pins s σ H x y v u Q I rx ry ⟨i, j, rd, re, up_at up rs (hg i j H al) q⟩
theorem o_sub : OpR X (binaryOp .Sub) (LL2 (cy X E) rSub) := o_int0 op_sub fun _ _ _ _ => rfl
theorem o_fdiv : OpR X (binaryOp .FloorDiv) (LL2 (cy X E) rFdiv) := o_int2 op_fdivW fun _ _ _ _ => rfl
theorem o_mod : OpR X (binaryOp .Mod) (LL2 (cy X E) rMod) := o_int2 op_mod fun _ _ _ _ => rfl
theorem log_lt {a : Nat} {n : Nat} (h : a < 2 ^ n) (h0 : 0 < n) : a.log2 < n := by
  by_cases ha : a = 0
  · subst ha; simpa using h0
  · exact (Nat.log2_lt ha).mpr h
theorem bits_wide {a n : Int} (hn : 0 ≤ n) (hn2 : n ≤ 1000) (ha : a.natAbs < 2 ^ 10000) : (Builtin.Int.intBits a : Int) * n ≤ 2 ^ 27 := by
  have h : Builtin.Int.intBits a ≤ 10000 := by
    unfold Builtin.Int.intBits
    split
    · exact Nat.zero_le _
    · exact log_lt ha (by decide)
  have h1 : (Builtin.Int.intBits a : Int) * n ≤ 10000 * 1000 := by
    refine Int.le_trans (Int.mul_le_mul_of_nonneg_right (show (Builtin.Int.intBits a : Int) ≤ 10000 by omega) hn) ?_
    omega
  exact Int.le_trans h1 (by decide)
theorem op_powW : OpR X (binaryOp .Pow) (rI PowOk fun i j => .int (i ^ j.toNat)) := opI fun _ _ _ _ _ _ _ hc q => by
  rcases hc with hc | hc
  · exact pow_int_small hc.1 hc.2.1 hc.2.2 q
  · exact pow_int hc.1 (bits_wide hc.1 hc.2.1 hc.2.2) q
theorem o_pow : OpR X (binaryOp .Pow) (LL2 (cy X E) rPow) := o_int2 op_powW fun _ _ _ _ => rfl
theorem o_shl : OpR X (binaryOp .LShift) (LL2 (cy X E) rShl) := o_int2 op_shl fun _ _ _ _ => rfl
theorem o_shr : OpR X (binaryOp .RShift) (LL2 (cy X E) rShr) := o_int2 op_shr fun _ _ _ _ => rfl
theorem o_and : OpR X (binaryOp .BitAnd) (LL2 (cy X E) rAnd) := o_int0 op_and fun _ _ _ _ => rfl
theorem o_or : OpR X (binaryOp .BitOr) (LL2 (cy X E) rOr) := o_int0 op_or fun _ _ _ _ => rfl
theorem o_xor : OpR X (binaryOp .BitXor) (LL2 (cy X E) rXor) := o_int0 op_xor fun _ _ _ _ => rfl
theorem o_le : OpR X (compareOp .LtE) (LL2 (cy X E) rLe) := o_int0 op_le fun _ _ _ _ => rfl
theorem o_gt : OpR X (compareOp .Gt) (LL2 (cy X E) rGt) := o_int0 op_gt fun _ _ _ _ => rfl
theorem o_ge : OpR X (compareOp .GtE) (LL2 (cy X E) rGe) := o_int0 op_ge fun _ _ _ _ => rfl
theorem o_lt : OpR X (compareOp .Lt) (LL2 (cy X E) rLt) := by
  intro pins s σ H x y v u Q I rx ry ⟨d, e, al, S, kd, xd, rs, rd, re, q, up, ux⟩
  cases d <;> cases e <;> try exact q.elim
  case int.int i j =>
    have rd : x = .int i := rd
    have re : y = .int j := re
    exact op_lt pins s σ H x y v u Q I rx ry ⟨i, j, rd, re, up_at up rs (d := .bl (decide (i < j))) rfl q⟩
  case str.str i j =>
    have rd : x = .str i := rd
    have re : y = .str j := re
    exact op_lt_str pins s σ H x y v u Q I rx ry ⟨i, j, rd, re, up_at up rs (d := .bl (decide (i.cps.toList < j.cps.toList))) rfl q⟩
theorem o_neg : UnR X (unaryOp .USub) (L1 (cy X E) rNeg) := by
  intro pins s σ H x v Q I rx ⟨d, al, S, kd, xd, rs, rd, q, up, ux⟩
  cases d <;> try exact q.elim
  case int i =>
    have rd : x = .int i := rd
    exact un_neg pins s σ H x v Q I rx ⟨i, rd, up_at up rs (d := .int (-i)) rfl q⟩
theorem o_add : OpR X (binaryOp .Add) (LL2 (cy X E) rAdd) := by
  intro pins s σ H x y v u Q I rx ry ⟨d, e, al, S, kd, xd, rs, rd, re, q, up, ux⟩
  cases d <;> cases e <;> try exact q.elim
  case int.int i j =>
    have rd : x = .int i := rd
    have re : y = .int j := re
    exact op_add pins s σ H x y v u Q I rx ry ⟨i, j, rd, re, up_at up rs (d := .int (i + j)) rfl q⟩
  case str.str i j =>
    have rd : x = .str i := rd
    have re : y = .str j := re
    exact op_add_str pins s σ H x y v u Q I rx ry ⟨i, j, rd, re, q.1, up_at up rs (d := .str (i ++ j)) rfl q.2⟩
  case tup.tup i j =>
    obtain ⟨a, xs, ex, hx, r1⟩ := rd
    obtain ⟨b, ys, ey, hy, r2⟩ := re
    obtain ⟨hl, q⟩ := q
    refine op_catA pins s σ H x y v u Q I rx ry ⟨a, b, xs, ys, ex, ey, hx, hy, by rw [RDs.length r1, RDs.length r2]; exact hl, fun e => ?_, fun n e => ?_, fun n m p hp => ?_⟩
    · have ei : i = [] := by
        have := RDs.length r1
        rw [e] at this
        exact List.length_eq_zero_iff.mp this.symm
      subst ei
      exact up_at up rs (d := .tup j) ⟨b, ys, rfl, hy, r2⟩ q
    · have ei : j = [] := by
        have := RDs.length r2
        rw [e] at this
        exact List.length_eq_zero_iff.mp this.symm
      subst ei
      rw [List.append_nil] at q
      exact up_at up rs (d := .tup i) ⟨a, xs, rfl, hx, r1⟩ q
    · exact up_tup up rs hp (RDs.append r1 r2) q
  case ref.ref n m =>
    obtain ⟨xs, ys, h1, h2, hl, q⟩ := q
    obtain ⟨a, vs, ex, _, e1, r1⟩ := lst_at rs h1 rd
    obtain ⟨b, us, ey, _, e2, r2⟩ := lst_at rs h2 re
    exact op_cat pins s σ H x y v u Q I rx ry ⟨a, b, vs, us, ex, ey, e1, e2, by rw [RDs.length r1, RDs.length r2]; exact hl, fun p hp => up_new up rs hp (RDs.append r1 r2) q⟩
theorem rds_rep {K : PySem.W.Frag} {H : Hp} {al : List Addr} {ds : List D} {vs : List V} (r : RDs K H al ds vs) : ∀ n : Nat, RDs K H al (List.replicate n ds).flatten (List.replicate n vs).flatten
  | 0 => rfl
  | n + 1 => by
    rw [List.replicate_succ, List.replicate_succ, List.flatten_cons, List.flatten_cons]
    exact RDs.append r (rds_rep r n)
theorem o_mul : OpR X (binaryOp .Mult) (LL2 (cy X E) rMul) := by
  intro pins s σ H x y v u Q I rx ry ⟨d, e, al, S, kd, xd, rs, rd, re, q, up, ux⟩
  cases d <;> cases e <;> try exact q.elim
  case int.int i j =>
    have rd : x = .int i := rd
    have re : y = .int j := re
    rcases q.1 with h | h
    · exact op_mul pins s σ H x y v u Q I rx ry ⟨i, j, rd, re, h, up_at up rs (d := .int (i * j)) rfl q.2⟩
    · exact op_mulW pins s σ H x y v u Q I rx ry ⟨i, j, rd, re, h, up_at up rs (d := .int (i * j)) rfl q.2⟩
  case ref.int n j =>
    obtain ⟨xs, h1, hj, hj2, hl, q⟩ := q
    obtain ⟨a, vs, ex, _, e1, r1⟩ := lst_at rs h1 rd
    have re : y = .int j := re
    exact op_rep pins s σ H x y v u Q I rx ry ⟨a, j, vs, ex, re, e1, hj2, hj, by rw [RDs.length r1]; exact hl, fun p hp => up_new up rs hp (rds_rep r1 _) q⟩
mutual
theorem DPy.dp {K : PySem.W.Frag} {H : Hp} {al : List Addr} {S : Sto} (rs : RS K H al S) : ∀ (p : PyData) (d : D) (v : V), DPy S d p → RD K H al d v → Dp K H v p
  | .none, _, _, h, r => by cases h; cases (show _ = V.non from r); exact .non
  | .bool b, _, _, h, r => by cases h; cases (show _ = V.bl b from r); exact .bl b
  | .int b, _, _, h, r => by cases h; cases (show _ = V.int b from r); exact .int b
  | .str b, _, _, h, r => by cases h; cases (show _ = V.str b from r); exact .str b
  | .tuple ps, _, _, h, r => by
    cases h with
    | tup hs =>
      obtain ⟨a, vs, e, h1, r1⟩ := r
      subst e
      exact .tup h1 (DPys.dp rs ps _ vs hs r1)
  | .list ps, _, _, h, r => by
    cases h with
    | ref hl hs =>
      obtain ⟨a, vs, e, _, h1, r1⟩ := isL_at rs hl r
      subst e
      exact .lst h1 (DPys.dp rs ps _ vs hs r1)
  | .dict _, _, _, h, _ => by cases h
theorem DPys.dp {K : PySem.W.Frag} {H : Hp} {al : List Addr} {S : Sto} (rs : RS K H al S) : ∀ (p : List PyData) (d : List D) (v : List V), DPys S d p → RDs K H al d v → DpAll K H v p
  | [], _, _, h, r => by cases h; cases (show _ = [] from r); exact .nil
  | p :: ps, _, _, h, r => by
    cases h with
    | cons h1 h2 =>
      obtain ⟨v, u, e, r1, r2⟩ := r
      subst e
      exact .cons (DPy.dp rs p _ v h1 r1) (DPys.dp rs ps _ u h2 r2)
end
theorem o_eq (hu : X.A.units + 64 < cLine) : OpR X (compareOp .Eq) (LL2 (cy X E) rEq) := by
  intro pins s σ H x y v u Q I rx ry ⟨d, e, al, S, kd, xd, rs, rd, re, q, up, ux⟩
  have gen : (∃ p q, DPy S d p ∧ DPy S e q ∧ SeqAt.shaped p = true ∧ SeqAt.shaped q = true ∧ kd (.bl (PyData.eqv p q)) S) → wpAny (model X.prog X.w) X.A (compareOp .Eq v u) (EP X pins σ Q) X.xe s := fun ⟨p, p', h1, h2, s1, s2, q⟩ =>
    op_eqD hu pins s σ H x y v u Q I rx ry ⟨p, p', DPy.dp rs p d x h1 rd, DPy.dp rs p' e y h2 re, s1, s2, up_at up rs (d := .bl (PyData.eqv p p')) rfl q⟩
  cases d <;> cases e <;> try exact gen q
  case int.int i j =>
    have rd : x = .int i := rd
    have re : y = .int j := re
    subst rd re
    refine op_eq pins s σ H _ _ v u Q I rx ry ⟨rfl, ?_⟩
    have e : decide (V.int i = V.int j) = decide (i = j) := by simp
    rw [e]
    exact up_at up rs (d := .bl (decide (i = j))) rfl q
  case str.str i j =>
    have rd : x = .str i := rd
    have re : y = .str j := re
    subst rd re
    refine op_eq pins s σ H _ _ v u Q I rx ry ⟨rfl, ?_⟩
    have e : decide (V.str i = V.str j) = decide (i = j) := by simp
    rw [e]
    exact up_at up rs (d := .bl (decide (i = j))) rfl q
  case bl.bl i j =>
    have rd : x = .bl i := rd
    have re : y = .bl j := re
    subst rd re
    refine op_eq pins s σ H _ _ v u Q I rx ry ⟨rfl, ?_⟩
    have e : decide (V.bl i = V.bl j) = decide (i = j) := by simp
    rw [e]
    exact up_at up rs (d := .bl (decide (i = j))) rfl q
theorem o_ne (hu : X.A.units + 64 < cLine) : OpR X (compareOp .NotEq) (LL2 (cy X E) rNe) := by
  intro pins s σ H x y v u Q I rx ry ⟨d, e, al, S, kd, xd, rs, rd, re, q, up, ux⟩
  have gen : (∃ p q, DPy S d p ∧ DPy S e q ∧ SeqAt.shaped p = true ∧ SeqAt.shaped q = true ∧ kd (.bl (!PyData.eqv p q)) S) → wpAny (model X.prog X.w) X.A (compareOp .NotEq v u) (EP X pins σ Q) X.xe s := fun ⟨p, p', h1, h2, s1, s2, q⟩ =>
    op_neD hu pins s σ H x y v u Q I rx ry ⟨p, p', DPy.dp rs p d x h1 rd, DPy.dp rs p' e y h2 re, s1, s2, up_at up rs (d := .bl (!PyData.eqv p p')) rfl q⟩
  cases d <;> cases e <;> try exact gen q
  case int.int i j =>
    have rd : x = .int i := rd
    have re : y = .int j := re
    subst rd re
    refine op_ne pins s σ H _ _ v u Q I rx ry ⟨rfl, ?_⟩
    have e : decide (V.int i = V.int j) = decide (i = j) := by simp
    rw [e]
    exact up_at up rs (d := .bl (!decide (i = j))) rfl q
  case str.str i j =>
    have rd : x = .str i := rd
    have re : y = .str j := re
    subst rd re
    refine op_ne pins s σ H _ _ v u Q I rx ry ⟨rfl, ?_⟩
    have e : decide (V.str i = V.str j) = decide (i = j) := by simp
    rw [e]
    exact up_at up rs (d := .bl (!decide (i = j))) rfl q
  case bl.bl i j =>
    have rd : x = .bl i := rd
    have re : y = .bl j := re
    subst rd re
    refine op_ne pins s σ H _ _ v u Q I rx ry ⟨rfl, ?_⟩
    have e : decide (V.bl i = V.bl j) = decide (i = j) := by simp
    rw [e]
    exact up_at up rs (d := .bl (!decide (i = j))) rfl q
theorem non_iff {K : PySem.W.Frag} {H : Hp} {al : List Addr} {d : D} {x : V} (r : RD K H al d x) : decide (x = .non) = isNon d := by
  cases d with
  | non => cases (show x = .non from r); rfl
  | bl b => cases (show x = .bl b from r); rfl
  | int b => cases (show x = .int b from r); rfl
  | str b => cases (show x = .str b from r); simp [isNon]
  | tup ds => obtain ⟨a, vs, e, _⟩ := r; subst e; simp [isNon]
  | ref n => obtain ⟨a, e, _⟩ := r; subst e; simp [isNon]
theorem o_is : OpR X (compareOp .Is) (LL2 (cy X E) rIs) := by
  intro pins s σ H x y v u Q I rx ry ⟨d, e, al, S, kd, xd, rs, rd, re, q, up, ux⟩
  cases e <;> try exact q.elim
  case non =>
    refine op_isN pins s σ H x y v u Q I rx ry ⟨re, ?_⟩
    rw [non_iff rd]
    exact up_at up rs (d := .bl (isNon d)) rfl q
  case bl j =>
    cases d <;> try exact q.elim
    case bl i => exact op_is_bl pins s σ H x y v u Q I rx ry ⟨i, j, rd, re, up_at up rs (d := .bl (decide (i = j))) rfl q⟩
theorem o_isNot : OpR X (compareOp .IsNot) (LL2 (cy X E) rIsNot) := by
  intro pins s σ H x y v u Q I rx ry ⟨d, e, al, S, kd, xd, rs, rd, re, q, up, ux⟩
  cases e <;> try exact q.elim
  case non =>
    refine op_notN pins s σ H x y v u Q I rx ry ⟨re, ?_⟩
    rw [non_iff rd]
    exact up_at up rs (d := .bl (!isNon d)) rfl q
  case bl j =>
    cases d <;> try exact q.elim
    case bl i => exact op_isnot_bl pins s σ H x y v u Q I rx ry ⟨i, j, rd, re, up_at up rs (d := .bl (!decide (i = j))) rfl q⟩
theorem flat_v {K : PySem.W.Frag} {H : Hp} {al : List Addr} {d : D} {x : V} (r : RD K H al d x) (f : flatD d = true) : flatV x = true := by
  cases d with
  | non => cases (show x = .non from r); rfl
  | bl b => cases (show x = .bl b from r); rfl
  | int b => cases (show x = .int b from r); rfl
  | str b => cases (show x = .str b from r); rfl
  | tup ds => cases f
  | ref n => cases f
theorem eqF_v {K : PySem.W.Frag} {H : Hp} {al : List Addr} {d e : D} {x y : V} (r : RD K H al d x) (r' : RD K H al e y) (f : flatD d = true) (f' : flatD e = true) : eqV x y = eqF d e := by
  cases d <;> (try cases f) <;> cases e <;> (try cases f') <;> (have r1 : x = _ := r; have r2 : y = _ := r'; subst r1 r2; rfl)
theorem inF_v {K : PySem.W.Frag} {H : Hp} {al : List Addr} {d : D} {x : V} (r : RD K H al d x) (f : flatD d = true) : ∀ {ds : List D} {vs : List V}, RDs K H al ds vs → ds.all flatD = true → vs.all flatV = true ∧ inV x vs = inF d ds
  | [], _, h, _ => by cases (show _ = [] from h); exact ⟨rfl, rfl⟩
  | e :: ds, _, ⟨v, u, e1, h1, h2⟩, g => by
    rw [List.all_cons, Bool.and_eq_true] at g
    subst e1
    obtain ⟨q1, q2⟩ := inF_v r f h2 g.2
    refine ⟨by rw [List.all_cons, flat_v h1 g.1, q1]; rfl, ?_⟩
    show (eqV v x || inV x u) = (eqF e d || inF d ds)
    rw [eqF_v h1 r g.1 f, q2]
theorem o_in : OpR X (compareOp .In) (LL2 (cy X E) rIn) := by
  intro pins s σ H x y v u Q I rx ry ⟨d, e, al, S, kd, xd, rs, rd, re, q, up, ux⟩
  cases e <;> try exact q.elim
  case tup ds =>
    obtain ⟨a, vs, ey, hs, r1⟩ := re
    obtain ⟨f1, f2, q⟩ := q
    obtain ⟨g1, g2⟩ := inF_v rd f1 r1 f2
    refine op_in_seq pins s σ H x y v u Q I rx ry ⟨a, vs, ey, .inr hs, flat_v rd f1, g1, ?_⟩
    show Q (.bl (inV x vs)) H
    rw [g2]
    exact up_at up rs (d := .bl _) rfl q
  case ref n =>
    obtain ⟨ds, hl, f1, f2, q⟩ := q
    obtain ⟨a, vs, ey, _, hs, r1⟩ := isL_at rs hl re
    obtain ⟨g1, g2⟩ := inF_v rd f1 r1 f2
    refine op_in_seq pins s σ H x y v u Q I rx ry ⟨a, vs, ey, .inl hs, flat_v rd f1, g1, ?_⟩
    show Q (.bl (inV x vs)) H
    rw [g2]
    exact up_at up rs (d := .bl _) rfl q
theorem o_notIn : OpR X (compareOp .NotIn) (LL2 (cy X E) rNotIn) := by
  intro pins s σ H x y v u Q I rx ry ⟨d, e, al, S, kd, xd, rs, rd, re, q, up, ux⟩
  cases e <;> try exact q.elim
  case tup ds =>
    obtain ⟨a, vs, ey, hs, r1⟩ := re
    obtain ⟨f1, f2, q⟩ := q
    obtain ⟨g1, g2⟩ := inF_v rd f1 r1 f2
    refine op_notIn_seq pins s σ H x y v u Q I rx ry ⟨a, vs, ey, .inr hs, flat_v rd f1, g1, ?_⟩
    show Q (.bl (!inV x vs)) H
    rw [g2]
    exact up_at up rs (d := .bl _) rfl q
  case ref n =>
    obtain ⟨ds, hl, f1, f2, q⟩ := q
    obtain ⟨a, vs, ey, _, hs, r1⟩ := isL_at rs hl re
    obtain ⟨g1, g2⟩ := inF_v rd f1 r1 f2
    refine op_notIn_seq pins s σ H x y v u Q I rx ry ⟨a, vs, ey, .inl hs, flat_v rd f1, g1, ?_⟩
    show Q (.bl (!inV x vs)) H
    rw [g2]
    exact up_at up rs (d := .bl _) rfl q
end
end Q
namespace Q
open PySem
open Spec PyProof.Rows L2

/-! ### types -/
inductive Ty | non | bool | int | str | tuple | list | dict
  deriving DecidableEq
def Ty.name : Ty → String
  | .non => "NoneType" | .bool => "bool" | .int => "int" | .str => "str" | .tuple => "tuple" | .list => "list" | .dict => "dict"
/-- is a thing of the first type one of the second -/
def isTy : Ty → Ty → Bool
  | .bool, .int => true
  | .non, .non => true
  | .bool, .bool => true
  | .int, .int => true
  | .str, .str => true
  | .tuple, .tuple => true
  | .list, .list => true
  | .dict, .dict => true
  | _, _ => false
theorem kitB_ty : ∀ a b : Ty, b ≠ .non → kitB a.name b.name = some (isTy a b) := by
  intro a b h
  cases b <;> (first | exact absurd rfl h | (cases a <;> decide +kernel))
/-- the kind of an object of the store -/
def tyR (S : Sto) (n : Nat) : Option Ty := match S[n]? with
  | some (.lst _) => some .list
  | some (.ro _) => some .list
  | some (.dic _) => some .dict
  | _ => none
def rIsi (T : Ty) : R1D := fun d S k _ => match d with
  | .non => k (.bl (isTy .non T)) S
  | .bl _ => k (.bl (isTy .bool T)) S
  | .int _ => k (.bl (isTy .int T)) S
  | .str _ => k (.bl (isTy .str T)) S
  | .tup _ => k (.bl (isTy .tuple T)) S
  | .ref n => ∃ t, tyR S n = some t ∧ k (.bl (isTy t T)) S
def rIsi2 (T U : Ty) : R1D := fun d S k _ => match d with
  | .non => k (.bl (isTy .non T || isTy .non U)) S
  | .bl _ => k (.bl (isTy .bool T || isTy .bool U)) S
  | .int _ => k (.bl (isTy .int T || isTy .int U)) S
  | .str _ => k (.bl (isTy .str T || isTy .str U)) S
  | .tup _ => k (.bl (isTy .tuple T || isTy .tuple U)) S
  | .ref n => ∃ t, tyR S n = some t ∧ k (.bl (isTy t T || isTy t U)) S
section
variable {X : Cx} {E : XK} {e : Expr} {te : TED} {pos p p2 p3 : Pos}
theorem tyx_of {K : PySem.W.Frag} {H : Hp} {al : List Addr} {S : Sto} {d : D} {x : V} (rs : RS K H al S) (r : RD K H al d x) {R : Ty → Prop}
    (h : match d with | .non => R .non | .bl _ => R .bool | .int _ => R .int | .str _ => R .str | .tup _ => R .tuple | .ref n => ∃ t, tyR S n = some t ∧ R t) :
    ∃ t, TyX K H x (.type (Ty.name t)) ∧ R t := by
  cases d with
  | non => cases (show x = .non from r); exact ⟨.non, .base .non, h⟩
  | bl b => cases (show x = .bl b from r); exact ⟨.bool, .base (.bl b), h⟩
  | int b => cases (show x = .int b from r); exact ⟨.int, .base (.int b), h⟩
  | str b => cases (show x = .str b from r); exact ⟨.str, .base (.str b), h⟩
  | tup ds =>
    obtain ⟨a, vs, e, hs, _⟩ := r
    subst e
    refine ⟨.tuple, ?_, h⟩
    rcases hs with (hs | ⟨o, hs⟩) | ⟨o, its, n, lk, hc, _⟩
    · exact .base (.tup hs)
    · exact .fTuple hs
    · exact .kTuple lk hc
  | ref n =>
    obtain ⟨a, e, ha⟩ := r
    subst e
    obtain ⟨t, ht, h⟩ := h
    unfold tyR at ht
    cases eS : S[n]? with
    | none => rw [eS] at ht; cases ht
    | some o =>
      rw [eS] at ht
      have ro := rs.ob n o a eS ha
      cases o with
      | lst ds =>
        cases ht
        obtain ⟨vs, e1, _⟩ := ro
        exact ⟨.list, .base (.lst e1), h⟩
      | ro ds =>
        cases ht
        obtain ⟨vs, e1, _⟩ := ro
        rcases e1 with ⟨o, e1⟩ | ⟨o, its, m, lk, hc, _⟩
        · exact ⟨.list, .base (.frz e1), h⟩
        · exact ⟨.list, .kList lk hc, h⟩
      | dic ds =>
        cases ht
        obtain ⟨vs, e1, _⟩ := ro
        exact ⟨.dict, .base (.dK e1), h⟩
      | exo x d => cases ht
      | oth => cases ht
theorem q_isi {T : Str} (t : Ty) (ht : t ≠ .non) (he : QE X E e te) (hg : Gl X "isinstance") (hm : X.mg "isinstance" = none) (gT : Gl X T) (mT : X.mg T = none) (bT : bootBuiltins T = some (.type t.name)) (hn : T ≠ "__name__" := by decide) (hd : (T == ("__debug__" : Str)) = false := by decide)
    (hs1 : starEach [e, .Name T p2] X.env = (false, eval e X.env) :: starEach [.Name T p2] X.env := by rfl) (hs2 : starEach [.Name T p2] X.env = (false, eval (.Name T p2) X.env) :: starEach [] X.env := by rfl) (hpl : (backTo pos (starEach [.Name T p2] X.env)).any (·.1) = false := by rfl) :
    QE X E (.Call (.Name "isinstance" p) [e, .Name T p2] [] pos) (dUn (rIsi t) te) := by
  refine pe_imp (pe_callB call_isi hg hm boot_isinstance (pa_cons he (pa_cons (pe_bltn (v := .ty t.name) gT mT bT rfl hn hd) pa_nil hs2) hs1) (by decide) (by decide) hs1 hpl) fun s H Q ⟨sg, al, S, kd, xd, rs, rl, q, up, ux⟩ => ?_
  refine ⟨sg, al, S, _, xd, rs, rl, q, fun d S1 al1 H1 v f1 r1 q1 => ?_, ux⟩
  obtain ⟨t', h1, h2⟩ := tyx_of (R := fun t' => kd (.bl (isTy t' t)) S1) f1.rs r1 (by cases d <;> exact q1)
  exact ⟨v, .ty t.name, .type t'.name, .type t.name, isTy t' t, rfl, .ty _, h1, kit_ty (kitB_ty t' t ht), (up.mono f1) (.bl (isTy t' t)) S1 al1 H1 _ (.now f1.rs) rfl h2⟩
theorem q_isi2 {T U : Str} (t u : Ty) (ht : t ≠ .non) (hu : u ≠ .non) {k0 : Nat} (he : QE X E e te) (hg : Gl X "isinstance") (hm : X.mg "isinstance" = none) (gT : Gl X T) (mT : X.mg T = none) (bT : bootBuiltins T = some (.type t.name)) (gU : Gl X U) (mU : X.mg U = none) (bU : bootBuiltins U = some (.type u.name))
    (hn : T ≠ "__name__" := by decide) (hd : (T == ("__debug__" : Str)) = false := by decide) (hn' : U ≠ "__name__" := by decide) (hd' : (U == ("__debug__" : Str)) = false := by decide) {pt : Pos}
    (hs1 : starEach [e, .Tuple [.Name T p2, .Name U p3] k0 pt] X.env = (false, eval e X.env) :: starEach [.Tuple [.Name T p2, .Name U p3] k0 pt] X.env := by rfl) (hs2 : starEach [.Tuple [.Name T p2, .Name U p3] k0 pt] X.env = (false, eval (.Tuple [.Name T p2, .Name U p3] k0 pt) X.env) :: starEach [] X.env := by rfl)
    (hs3 : starEach [.Name T p2, .Name U p3] X.env = (false, eval (.Name T p2) X.env) :: starEach [.Name U p3] X.env := by rfl) (hs4 : starEach [.Name U p3] X.env = (false, eval (.Name U p3) X.env) :: starEach [] X.env := by rfl)
    (hpl : (backTo pos (starEach [.Tuple [.Name T p2, .Name U p3] k0 pt] X.env)).any (·.1) = false := by rfl) :
    QE X E (.Call (.Name "isinstance" p) [e, .Tuple [.Name T p2, .Name U p3] k0 pt] [] pos) (dUn (rIsi2 t u) te) := by
  refine pe_imp (pe_callB call_isiT hg hm boot_isinstance (pa_cons he (pa_cons (pe_tup (pa_cons (pe_bltn (v := .ty t.name) gT mT bT rfl hn hd) (pa_cons (pe_bltn (v := .ty u.name) gU mU bU rfl hn' hd') pa_nil hs4) hs3)) pa_nil hs2) hs1) (by decide) (by decide) hs1 hpl) fun s H Q ⟨sg, al, S, kd, xd, rs, rl, q, up, ux⟩ => ?_
  refine ⟨sg, al, S, _, xd, rs, rl, q, fun d S1 al1 H1 v f1 r1 q1 => ?_, ux⟩
  refine ⟨by show 2 ≤ sizeLine; decide, fun tp hp => ?_⟩
  have f2 : Fut X.K H1 al1 (upd H1 tp (.tup [V.ty t.name, V.ty u.name])) al1 S1 := Fut.lay f1.rs hp
  obtain ⟨t', h1, h2⟩ := tyx_of (R := fun t' => kd (.bl (isTy t' t || isTy t' u)) S1) f2.rs (f2.rd r1) (by cases d <;> exact q1)
  refine ⟨v, tp, [.ty t.name, .ty u.name], .type t'.name, [.type t.name, .type u.name], (isTy t' t || isTy t' u), rfl, upd_same, .cons (.ty _) (.cons (.ty _) .nil), h1, ?_, up (.bl (isTy t' t || isTy t' u)) S1 al1 _ _ (f1.trans f2) rfl h2⟩
  refine kitAny_cons (kit_ty (kitB_ty t' t ht)) (fun e0 => ?_) (fun e0 => by rw [e0]; rfl)
  rw [e0]
  exact kitAny_cons (kit_ty (kitB_ty t' u hu)) (fun e1 => by rw [e1]; rfl) (fun e1 => by rw [e1]; rfl)
end

/-! ### subscripts, slices -/
def rIx : R2D := fun d e S k _ => match d, e with
  | .tup ds, .int i => ∃ x, atI ds i = some x ∧ k x S
  | .ref n, .int i => ∃ ds x, isL S n ds ∧ atI ds i = some x ∧ k x S
  | .str z, .int i => z.length ≤ sizeLine ∧ ∃ c, atI z.cps.toList i = some c ∧ k (.str ⟨#[c]⟩) S
  | _, _ => False
abbrev TOD := Sl → Sto → (Option Int → Sto → Prop) → XD → Prop
def LO (Y : Cy) (t : TOD) : TO := fun sv H Q => ∃ sg al S kd xd, RS Y.K H al S ∧ RSl Y.K H al sg sv ∧ t sg S kd xd ∧ (∀ o S' al' H', Fut Y.K H al H' al' S' → kd o S' → Q o H') ∧ UpX Y H al xd
def dNoP : TOD := fun _ S k _ => k none S
def kPart (k : Option Int → Sto → Prop) : KD := fun d S => match d with
  | .int i => k (some i) S
  | _ => False
def dPart (t : TED) : TOD := fun sg S k x => t sg S (kPart k) x
def cutD (ds : List D) (lo hi : Option Int) : List D := (ds.drop (HT.sIx ds.length 0 lo)).take (HT.sIx ds.length ds.length hi - HT.sIx ds.length 0 lo)
abbrev RSlD := D → Option Int → Option Int → Sto → KD → XD → Prop
def rSl : RSlD := fun d lo hi S k _ => match d with
  | .tup ds => k (.tup (cutD ds lo hi)) S
  | .ref n => ∃ ds, isL S n ds ∧ k (.ref S.length) (S ++ [.lst (cutD ds lo hi)])
  | .str z => z.length ≤ sizeLine ∧ k (.str (cutS z lo hi)) S
  | _ => False
def kSl3 (k : KD) (x : XD) (d : D) (lo : Option Int) : Option Int → Sto → Prop := fun hi S => rSl d lo hi S k x
def kSl2 (th : TOD) (sg : Sl) (k : KD) (x : XD) (d : D) : Option Int → Sto → Prop := fun lo S => th sg S (kSl3 k x d lo) x
def kSl1 (tl th : TOD) (sg : Sl) (k : KD) (x : XD) : KD := fun d S => tl sg S (kSl2 th sg k x d) x
def dSl (te : TED) (tl th : TOD) : TED := fun sg S k x => te sg S (kSl1 tl th sg k x) x
section
variable {X : Cx} {E : XK} {a b e : Expr} {ta tb te : TED} {pos p2 : Pos} {lo hi : Option Expr} {tl th : TOD}
theorem atI_rd {K : PySem.W.Frag} {H : Hp} {al : List Addr} {ds : List D} {vs : List V} {i : Int} {d : D} (r : RDs K H al ds vs) (h : atI ds i = some d) : ∃ v, atI vs i = some v ∧ RD K H al d v := by
  unfold atI at h ⊢
  rw [RDs.length r]
  cases e : ixN ds.length i with
  | none => rw [e] at h; cases h
  | some j =>
    rw [e] at h
    exact RDs.get r h
theorem o_ix : IxR X (LL2 (cy X E) rIx) := by
  intro value slice pins s σ H x y v u Q I rx ry ⟨d, e, al, S, kd, xd, rs, rd, re, q, up, ux⟩ hs
  cases d <;> cases e <;> try exact q.elim
  case tup.int ds i =>
    obtain ⟨z, hz, q⟩ := q
    obtain ⟨a, vs, e1, h1, r1⟩ := rd
    obtain ⟨w, hw, rw'⟩ := atI_rd r1 hz
    exact ix_tup value slice pins s σ H x y v u Q I rx ry ⟨a, vs, i, w, e1, re, h1, hw, up_at up rs rw' q⟩ hs
  case ref.int n i =>
    obtain ⟨ds, z, hl, hz, q⟩ := q
    obtain ⟨a, vs, e1, _, h1, r1⟩ := isL_at rs hl rd
    obtain ⟨w, hw, rw'⟩ := atI_rd r1 hz
    exact ix_list value slice pins s σ H x y v u Q I rx ry ⟨a, vs, i, w, e1, re, h1, hw, up_at up rs rw' q⟩ hs
  case str.int z i =>
    obtain ⟨hz, c, hc, q⟩ := q
    exact ix_str value slice pins s σ H x y v u Q I rx ry ⟨z, i, c, rd, re, hz, hc, up_at up rs (d := .str ⟨#[c]⟩) rfl q⟩ hs
theorem q_ix (ha : QE X E a ta) (hb : QE X E b tb) (hs : PlainIx b := by intro _ _; rfl) : QE X E (.Subscript a b pos) (dOp rIx ta tb) :=
  pe_imp (pe_ix o_ix ha hb hs) fun s H Q ⟨sg, al, S, kd, xd, rs, rl, q, up, ux⟩ => ⟨sg, al, S, kOp1 rIx tb sg kd xd, xd, rs, rl, q,
    fun d1 S1 al1 H1 v1 f1 r1 q1 => ⟨sg, al1, S1, kOp2 rIx kd xd d1, xd, f1.rs, f1.rsl rl, q1, fun d2 S2 al2 H2 v2 f2 r2 q2 =>
      ⟨d1, d2, al2, S2, kd, xd, f2.rs, f2.rd r1, r2, q2, up.mono (f1.trans f2), ux.mono (f1.trans f2)⟩, ux.mono f1⟩, ux⟩
abbrev QO (X : Cx) (E : XK) (e : Option Expr) (t : TOD) : Prop := PO X e (LO (cy X E) t)
theorem po_imp {e : Option Expr} {t t' : TO} (h : PO X e t) (f : ∀ s H Q, t' s H Q → t s H Q) : PO X e t' := ⟨fun pins s σ H Q I q => h.run pins s σ H Q I (f σ H Q q)⟩
theorem q_noP : QO X E none dNoP := po_imp po_none fun s H Q ⟨sg, al, S, kd, xd, rs, rl, q, up, ux⟩ => up none S al H (.now rs) q
theorem q_part (h : QE X E e te) : QO X E (some e) (dPart te) := po_imp (po_some h) fun s H Q ⟨sg, al, S, kd, xd, rs, rl, q, up, ux⟩ => ⟨sg, al, S, kPart kd, xd, rs, rl, q, fun d S1 al1 H1 v f1 r1 q1 => by
  cases d with
  | int i => exact ⟨i, r1, up (some i) S1 al1 H1 f1 q1⟩
  | _ => exact q1.elim, ux⟩
def LLsl (Y : Cy) (r : RSlD) : V → Option Int → Option Int → Hp → VK → Prop := fun x lo hi H Q => ∃ d al S kd xd, RS Y.K H al S ∧ RD Y.K H al d x ∧ r d lo hi S kd xd ∧ Up Y.K H al kd Q ∧ UpX Y H al xd
theorem cut_rd {K : PySem.W.Frag} {H : Hp} {al : List Addr} {ds : List D} {vs : List V} (r : RDs K H al ds vs) (lo hi : Option Int) : RDs K H al (cutD ds lo hi) (cutV vs lo hi) := by
  unfold cutD cutV
  rw [RDs.length r]
  exact RDs.take _ (RDs.drop _ r)
theorem o_sl : SlR X (LLsl (cy X E) rSl) := by
  intro pins s σ H x v vl vu lo hi sl Q I rx hs pl pu ⟨d, al, S, kd, xd, rs, rd, q, up, ux⟩
  cases d <;> try exact q.elim
  case tup ds =>
    obtain ⟨a, vs, e1, h1, r1⟩ := rd
    refine sl_tupA pins s σ H x v vl vu lo hi sl Q I rx hs pl pu ⟨a, vs, e1, h1, fun hw => ?_, fun hw p hp => up_tup up rs hp (cut_rd r1 lo hi) q⟩
    have e : cutD ds lo hi = ds := by
      unfold cutD
      rw [RDs.length r1] at hw
      rw [hw.1, hw.2]
      simp
    have q : kd (.tup (cutD ds lo hi)) S := q
    rw [e] at q
    exact up_at up rs (d := .tup ds) ⟨a, vs, rfl, h1, r1⟩ q
  case ref n =>
    obtain ⟨ds, hl, q⟩ := q
    obtain ⟨a, vs, e1, _, h1, r1⟩ := isL_at rs hl rd
    exact sl_list pins s σ H x v vl vu lo hi sl Q I rx hs pl pu ⟨a, vs, e1, h1, fun p hp => up_new up rs hp (cut_rd r1 lo hi) q⟩
  case str z =>
    exact sl_str pins s σ H x v vl vu lo hi sl Q I rx hs pl pu ⟨z, rd, q.1, up_at up rs (d := .str (cutS z lo hi)) rfl q.2⟩
theorem q_slice (he : QE X E e te) (hl : QO X E lo tl) (hu : QO X E hi th) : QE X E (.Subscript e (.Slice lo hi none p2) pos) (dSl te tl th) :=
  pe_imp (pe_slice (o_sl (E := E)) he hl hu) fun s H Q ⟨sg, al, S, kd, xd, rs, rl, q, up, ux⟩ => ⟨sg, al, S, kSl1 tl th sg kd xd, xd, rs, rl, q,
    fun d1 S1 al1 H1 v1 f1 r1 q1 => ⟨sg, al1, S1, kSl2 th sg kd xd d1, xd, f1.rs, f1.rsl rl, q1, fun l S2 al2 H2 f2 q2 =>
      ⟨sg, al2, S2, kSl3 kd xd d1 l, xd, f2.rs, (f1.trans f2).rsl rl, q2, fun u S3 al3 H3 f3 q3 => ⟨d1, al3, S3, kd, xd, f3.rs, (f2.trans f3).rd r1, q3, up.mono ((f1.trans f2).trans f3), ux.mono ((f1.trans f2).trans f3)⟩, ux.mono (f1.trans f2)⟩, ux.mono f1⟩, ux⟩
end

/-! ### built-ins by values -/
def spLen : SpD := fun ds S k _ => match ds with
  | [.tup xs] => k (.int xs.length) S
  | [.ref n] => ∃ xs, isL S n xs ∧ k (.int xs.length) S
  | [.str z] => z.length ≤ sizeLine ∧ k (.int z.length) S
  | _ => False
def spInt : SpD := fun ds S k _ => match ds with
  | [.int i] => k (.int i) S
  | [.bl b] => k (.int (if b then 1 else 0)) S
  | _ => False
def spTuple : SpD := fun ds S k _ => match ds with
  | [.tup xs] => k (.tup xs) S
  | [.ref n] => ∃ xs, isL S n xs ∧ k (.tup xs) S
  | _ => False
def spList : SpD := fun ds S k _ => match ds with
  | [.tup xs] => k (.ref S.length) (S ++ [.lst xs])
  | [.ref n] => ∃ xs, isL S n xs ∧ k (.ref S.length) (S ++ [.lst xs])
  | _ => False
def spAll : SpD := fun ds S k _ => match ds with
  | [.ref n] => ∃ bs : List Bool, isL S n (bs.map D.bl) ∧ k (.bl (bs.all id)) S
  | _ => False
def spAny : SpD := fun ds S k _ => match ds with
  | [.ref n] => ∃ bs : List Bool, isL S n (bs.map D.bl) ∧ k (.bl (bs.any id)) S
  | _ => False
def spSum : SpD := fun ds S k _ => match ds with
  | [.ref n] => ∃ ns : List Int, isL S n (ns.map D.int) ∧ k (.int ns.sum) S
  | _ => False
def spSorted : SpD := fun ds S k _ => match ds with
  | [.ref n] => ∃ ns : List Int, isL S n (ns.map D.int) ∧ ∀ ms : List Int, ms.Perm ns → ms.Pairwise (· ≤ ·) → k (.ref S.length) (S ++ [.lst (ms.map D.int)])
  | _ => False
def spAbs : SpD := fun ds S k _ => match ds with
  | [.int i] => k (.int (if i < 0 then -i else i)) S
  | _ => False
def spMax : SpD := fun ds S k _ => match ds with
  | [.int i, .int j] => k (.int (if j > i then j else i)) S
  | [.ref n] => ∃ ns : List Int, isL S n (ns.map D.int) ∧ 0 < ns.length ∧ ∀ m, m ∈ ns → (∀ y, y ∈ ns → y ≤ m) → k (.int m) S
  | _ => False
def spMin : SpD := fun ds S k _ => match ds with
  | [.int i, .int j] => k (.int (if j < i then j else i)) S
  | [.int i, .int j, .int l] => k (.int (if l < (if j < i then j else i) then l else if j < i then j else i)) S
  | [.ref n] => ∃ ns : List Int, isL S n (ns.map D.int) ∧ 0 < ns.length ∧ ∀ m, m ∈ ns → (∀ y, y ∈ ns → m ≤ y) → k (.int m) S
  | _ => False
section
variable {X : Cx} {E : XK} {e : Expr} {es : List Expr} {tr : TAD} {pos p : Pos}
theorem rds1 {K : PySem.W.Frag} {H : Hp} {al : List Addr} {d : D} {vs : List V} (r : RDs K H al [d] vs) : ∃ v, vs = [v] ∧ RD K H al d v := by
  obtain ⟨v, u, e, h1, h2⟩ := r
  cases (show u = [] from h2)
  exact ⟨v, e, h1⟩
theorem rds2 {K : PySem.W.Frag} {H : Hp} {al : List Addr} {d d' : D} {vs : List V} (r : RDs K H al [d, d'] vs) : ∃ v v', vs = [v, v'] ∧ RD K H al d v ∧ RD K H al d' v' := by
  obtain ⟨v, u, e, h1, h2⟩ := r
  obtain ⟨v', e', h3⟩ := rds1 h2
  subst e'
  exact ⟨v, v', e, h1, h3⟩
theorem rd_ints {K : PySem.W.Frag} {H : Hp} {al : List Addr} : ∀ {ns : List Int} {vs : List V}, RDs K H al (ns.map D.int) vs → vs = ns.map V.int
  | [], _, h => h
  | n :: ns, _, ⟨v, u, e, h1, h2⟩ => by
    rw [e, rd_ints h2, show v = .int n from h1]
    rfl
theorem ints_rd {K : PySem.W.Frag} {H : Hp} {al : List Addr} : ∀ (ns : List Int), RDs K H al (ns.map D.int) (ns.map V.int)
  | [] => rfl
  | n :: ns => ⟨_, _, rfl, rfl, ints_rd ns⟩
theorem rd_bls {K : PySem.W.Frag} {H : Hp} {al : List Addr} : ∀ {ns : List Bool} {vs : List V}, RDs K H al (ns.map D.bl) vs → vs = ns.map V.bl
  | [], _, h => h
  | n :: ns, _, ⟨v, u, e, h1, h2⟩ => by
    rw [e, rd_bls h2, show v = .bl n from h1]
    rfl
theorem c_len : CallR X (.builtin "len") (LLs (cy X E) spLen) := by
  intro pins s σ H xs us Q I r ⟨ds, al, S, kd, xd, rs, rd, q, up, ux⟩
  unfold spLen at q
  split at q
  · obtain ⟨v, e, a, vs, e2, h1, r1⟩ := rds1 rd
    subst e e2
    refine call_len_seq pins s σ H _ us Q I r ⟨a, vs, rfl, .inr h1, ?_⟩
    rw [RDs.length r1]
    exact up_at up rs (d := .int _) rfl q
  · obtain ⟨xs, hl, q⟩ := q
    obtain ⟨v, e, rv⟩ := rds1 rd
    obtain ⟨a, vs, e2, _, h1, r1⟩ := isL_at rs hl rv
    subst e e2
    refine call_len_seq pins s σ H _ us Q I r ⟨a, vs, rfl, .inl h1, ?_⟩
    rw [RDs.length r1]
    exact up_at up rs (d := .int _) rfl q
  · obtain ⟨v, e, rv⟩ := rds1 rd
    cases (show v = _ from rv)
    subst e
    exact call_len_str pins s σ H _ us Q I r ⟨_, rfl, q.1, up_at up rs (d := .int _) rfl q.2⟩
  · exact q.elim
theorem c_int : CallR X (.type "int") (LLs (cy X E) spInt) := by
  intro pins s σ H xs us Q I r ⟨ds, al, S, kd, xd, rs, rd, q, up, ux⟩
  unfold spInt at q
  split at q
  · obtain ⟨v, e, rv⟩ := rds1 rd
    cases (show v = _ from rv)
    subst e
    exact call_int1 pins s σ H _ us Q I r (.inl ⟨_, rfl, up_at up rs (d := .int _) rfl q⟩)
  · obtain ⟨v, e, rv⟩ := rds1 rd
    cases (show v = _ from rv)
    subst e
    exact call_int1 pins s σ H _ us Q I r (.inr ⟨_, rfl, up_at up rs (d := .int _) rfl q⟩)
  · exact q.elim
theorem c_tuple : CallR X (.type "tuple") (LLs (cy X E) spTuple) := by
  intro pins s σ H xs us Q I r ⟨ds, al, S, kd, xd, rs, rd, q, up, ux⟩
  unfold spTuple at q
  split at q
  · obtain ⟨v, e, a, vs, e2, h1, r1⟩ := rds1 rd
    subst e e2
    exact call_tuple_of pins s σ H _ us Q I r ⟨a, vs, rfl, .inr ⟨h1, up_at up rs (d := .tup _) ⟨a, vs, rfl, h1, r1⟩ q⟩⟩
  · obtain ⟨xs, hl, q⟩ := q
    obtain ⟨v, e, rv⟩ := rds1 rd
    obtain ⟨a, vs, e2, _, h1, r1⟩ := isL_at rs hl rv
    subst e e2
    exact call_tuple_of pins s σ H _ us Q I r ⟨a, vs, rfl, .inl ⟨h1, fun l hl => up_tup up rs hl r1 q⟩⟩
  · exact q.elim
theorem c_list : CallR X (.type "list") (LLs (cy X E) spList) := by
  intro pins s σ H xs us Q I r ⟨ds, al, S, kd, xd, rs, rd, q, up, ux⟩
  unfold spList at q
  split at q
  · obtain ⟨v, e, a, vs, e2, h1, r1⟩ := rds1 rd
    subst e e2
    exact call_list_of pins s σ H _ us Q I r ⟨a, vs, rfl, .inr h1, fun l hl => up_new up rs hl r1 q⟩
  · obtain ⟨xs, hl, q⟩ := q
    obtain ⟨v, e, rv⟩ := rds1 rd
    obtain ⟨a, vs, e2, _, h1, r1⟩ := isL_at rs hl rv
    subst e e2
    exact call_list_of pins s σ H _ us Q I r ⟨a, vs, rfl, .inl h1, fun l hl => up_new up rs hl r1 q⟩
  · exact q.elim
theorem c_all (hc : X.calm = true) : CallR X (.builtin "all") (LLs (cy X E) spAll) := by
  intro pins s σ H xs us Q I r ⟨ds, al, S, kd, xd, rs, rd, q, up, ux⟩
  unfold spAll at q
  split at q
  · obtain ⟨bs, hl, q⟩ := q
    obtain ⟨v, e, rv⟩ := rds1 rd
    obtain ⟨a, vs, e2, _, h1, r1⟩ := isL_at rs hl rv
    have e3 := rd_bls r1
    subst e e2 e3
    exact cr_all hc pins s σ H _ us Q I r ⟨a, bs, rfl, h1, up_at up rs (d := .bl _) rfl q⟩
  · exact q.elim
theorem c_any (hc : X.calm = true) : CallR X (.builtin "any") (LLs (cy X E) spAny) := by
  intro pins s σ H xs us Q I r ⟨ds, al, S, kd, xd, rs, rd, q, up, ux⟩
  unfold spAny at q
  split at q
  · obtain ⟨bs, hl, q⟩ := q
    obtain ⟨v, e, rv⟩ := rds1 rd
    obtain ⟨a, vs, e2, _, h1, r1⟩ := isL_at rs hl rv
    have e3 := rd_bls r1
    subst e e2 e3
    exact cr_any hc pins s σ H _ us Q I r ⟨a, bs, rfl, h1, up_at up rs (d := .bl _) rfl q⟩
  · exact q.elim
theorem c_sum (hc : X.calm = true) : CallR X (.builtin "sum") (LLs (cy X E) spSum) := by
  intro pins s σ H xs us Q I r ⟨ds, al, S, kd, xd, rs, rd, q, up, ux⟩
  unfold spSum at q
  split at q
  · obtain ⟨bs, hl, q⟩ := q
    obtain ⟨v, e, rv⟩ := rds1 rd
    obtain ⟨a, vs, e2, _, h1, r1⟩ := isL_at rs hl rv
    have e3 := rd_ints r1
    subst e e2 e3
    exact cr_sum hc pins s σ H _ us Q I r ⟨a, bs, rfl, h1, up_at up rs (d := .int _) rfl q⟩
  · exact q.elim
theorem c_sorted : CallR X (.builtin "sorted") (LLs (cy X E) spSorted) := by
  intro pins s σ H xs us Q I r ⟨ds, al, S, kd, xd, rs, rd, q, up, ux⟩
  unfold spSorted at q
  split at q
  · obtain ⟨bs, hl, q⟩ := q
    obtain ⟨v, e, rv⟩ := rds1 rd
    obtain ⟨a, vs, e2, _, h1, r1⟩ := isL_at rs hl rv
    have e3 := rd_ints r1
    subst e e2 e3
    exact cr_sortedI pins s σ H _ us Q I r ⟨a, bs, rfl, h1, fun ms p hp hs hn => up_new up rs hn (ints_rd ms) (q ms hp hs)⟩
  · exact q.elim
theorem c_abs : CallR X (.builtin "abs") (LLs (cy X E) spAbs) := by
  intro pins s σ H xs us Q I r ⟨ds, al, S, kd, xd, rs, rd, q, up, ux⟩
  unfold spAbs at q
  split at q
  · obtain ⟨v, e, rv⟩ := rds1 rd
    cases (show v = _ from rv)
    subst e
    exact call_abs pins s σ H _ us Q I r ⟨_, rfl, up_at up rs (d := .int _) rfl q⟩
  · exact q.elim
theorem c_max (hc : X.calm = true) : CallR X (.builtin "max") (LLs (cy X E) spMax) := by
  intro pins s σ H xs us Q I r ⟨ds, al, S, kd, xd, rs, rd, q, up, ux⟩
  unfold spMax at q
  split at q
  · obtain ⟨v, v', e, rv, rv'⟩ := rds2 rd
    cases (show v = _ from rv)
    cases (show v' = _ from rv')
    subst e
    exact call_max2 hc pins s σ H _ us Q I r ⟨_, _, rfl, up_at up rs (d := .int _) rfl q⟩
  · obtain ⟨bs, hl, h0, q⟩ := q
    obtain ⟨v, e, rv⟩ := rds1 rd
    obtain ⟨a, vs, e2, _, h1, r1⟩ := isL_at rs hl rv
    have e3 := rd_ints r1
    subst e e2 e3
    exact cr_max hc pins s σ H _ us Q I r ⟨a, bs, rfl, h1, h0, fun m hm hy => up_at up rs (d := .int m) rfl (q m hm hy)⟩
  · exact q.elim
theorem c_min (hc : X.calm = true) : CallR X (.builtin "min") (LLs (cy X E) spMin) := by
  intro pins s σ H xs us Q I r ⟨ds, al, S, kd, xd, rs, rd, q, up, ux⟩
  unfold spMin at q
  split at q
  · obtain ⟨v, v', e, rv, rv'⟩ := rds2 rd
    cases (show v = _ from rv)
    cases (show v' = _ from rv')
    subst e
    exact call_min2 hc pins s σ H _ us Q I r ⟨_, _, rfl, up_at up rs (d := .int _) rfl q⟩
  · obtain ⟨v, vs, e, rv, rt⟩ := rd
    obtain ⟨v', v'', e', rv', rv''⟩ := rds2 rt
    cases (show v = _ from rv)
    cases (show v' = _ from rv')
    cases (show v'' = _ from rv'')
    subst e'
    subst e
    have mi : ∀ i j : Int, nuMin2 (.int i) (.int j) = some (.int (if j < i then j else i)) := fun i j => by
      show some (if decide (j < i) = true then V.int j else V.int i) = _
      by_cases h : j < i <;> simp [h]
    exact call_min3Nu hc pins s σ H _ us Q I r ⟨_, _, _, _, rfl, by unfold nuMin3; rw [mi]; exact mi _ _, up_at up rs (d := .int _) rfl q⟩
  · obtain ⟨bs, hl, h0, q⟩ := q
    obtain ⟨v, e, rv⟩ := rds1 rd
    obtain ⟨a, vs, e2, _, h1, r1⟩ := isL_at rs hl rv
    have e3 := rd_ints r1
    subst e e2 e3
    exact cr_min hc pins s σ H _ us Q I r ⟨a, bs, rfl, h1, h0, fun m hm hy => up_at up rs (d := .int m) rfl (q m hm hy)⟩
  · exact q.elim
end

/-! ### methods of lists -/
abbrev RMD := D → List D → Sto → KD → XD → Prop
def rApp : RMD := fun d ds S k _ => match d, ds with
  | .ref n, [y] => ∃ xs, S[n]? = some (.lst xs) ∧ xs.length < sizeLine ∧ k .non (S.set n (.lst (xs ++ [y])))
  | _, _ => False
def rPop0 : RMD := fun d ds S k _ => match d, ds with
  | .ref n, [] => ∃ xs y, S[n]? = some (.lst xs) ∧ xs[xs.length - 1]? = some y ∧ k y (S.set n (.lst xs.dropLast))
  | _, _ => False
def rPop1 : RMD := fun d ds S k _ => match d, ds with
  | .ref n, [.int i] => ∃ xs j y, S[n]? = some (.lst xs) ∧ -(2 ^ 63) ≤ i ∧ i < 2 ^ 63 ∧ seqIndex? i xs.length = some j ∧ xs[j]? = some y ∧ k y (S.set n (.lst (xs.eraseIdx j)))
  | _, _ => False
def rRev : RMD := fun d ds S k _ => match d, ds with
  | .ref n, [] => ∃ xs, S[n]? = some (.lst xs) ∧ k .non (S.set n (.lst xs.reverse))
  | _, _ => False
def isLst (S : Sto) (d : D) : Prop := match d with
  | .ref n => ∃ ds, isL S n ds
  | _ => False
def kM2 (r : RMD) (k : KD) (x : XD) (d : D) : List D → Sto → Prop := fun ds S => r d ds S k x
def kM1 (r : RMD) (ta : TAD) (sg : Sl) (k : KD) (x : XD) : KD := fun d S => isLst S d ∧ ta sg S (kM2 r k x d) x
/-- a list's method -/
def dMet (r : RMD) (to : TED) (ta : TAD) : TED := fun sg S k x => to sg S (kM1 r ta sg k x) x
def LLm (Y : Cy) (r : RMD) : V → List V → Hp → VK → Prop := fun x vs H Q => ∃ d ds al S kd xd, RS Y.K H al S ∧ RD Y.K H al d x ∧ RDs Y.K H al ds vs ∧ r d ds S kd xd ∧ Up Y.K H al kd Q ∧ UpX Y H al xd
section
variable {X : Cx} {E : XK} {o e : Expr} {es : List Expr} {to : TED} {tr : TAD} {name : Str} {apos cpos : Pos} {id : String} {r : RMD}
theorem set_lst {K : PySem.W.Frag} {H : Hp} {al : List Addr} {S : Sto} {n : Nat} {p : Addr} {ds xs : List D} {vs : List V} (rs : RS K H al S) (h : S[n]? = some (.lst xs)) (hp : al[n]? = some p) (r : RDs K H al ds vs) : Fut K H al (upd H p (.lst vs)) al (S.set n (.lst ds)) := by
  obtain ⟨us, e1, r1⟩ := rs.ob n _ p h hp
  have kp : Keep H (upd H p (.lst vs)) := Keep.write e1 (.inl ⟨_, rfl⟩)
  refine Fut.set rs h rfl hp ⟨vs, upd_same, ?_⟩ rfl
  have := RDs.mono (t := []) kp _ _ r
  rwa [List.append_nil] at this
theorem m_app : MtR X "list.append" (LLm (cy X E) rApp) := by
  intro pins s σ H x vs v us Q I rx rv ⟨d, ds, al, S, kd, xd, rs, rd, rds, q, up, ux⟩
  unfold rApp at q
  split at q
  · obtain ⟨xs, h1, hz, q⟩ := q
    obtain ⟨a, us', e1, ha, hH, r1⟩ := lst_at rs h1 rd
    obtain ⟨y, e2, ry⟩ := rds1 rds
    exact mt_append pins s σ H x vs v us Q I rx rv ⟨a, us', y, e1, e2, hH, by rw [RDs.length r1]; exact hz, up .non _ al _ .non (set_lst rs h1 ha (RDs.append r1 (RDs.one ry))) rfl q⟩
  · exact q.elim
theorem rds_dropLast {K : PySem.W.Frag} {H : Hp} {al : List Addr} {ds : List D} {vs : List V} (r : RDs K H al ds vs) : RDs K H al ds.dropLast vs.dropLast := by
  rw [List.dropLast_eq_take, List.dropLast_eq_take, RDs.length r]
  exact RDs.take _ r
theorem rds_erase {K : PySem.W.Frag} {H : Hp} {al : List Addr} : ∀ (n : Nat) {ds : List D} {vs : List V}, RDs K H al ds vs → RDs K H al (ds.eraseIdx n) (vs.eraseIdx n)
  | _, [], _, h => by cases (show _ = [] from h); exact rfl
  | 0, d :: ds, _, ⟨v, r, e, h1, h2⟩ => by rw [e]; exact h2
  | n + 1, d :: ds, _, ⟨v, r, e, h1, h2⟩ => ⟨v, r.eraseIdx n, by rw [e]; rfl, h1, rds_erase n h2⟩
theorem m_pop0 : MtR X "list.pop" (LLm (cy X E) rPop0) := by
  intro pins s σ H x vs v us Q I rx rv ⟨d, ds, al, S, kd, xd, rs, rd, rds, q, up, ux⟩
  unfold rPop0 at q
  split at q
  · obtain ⟨xs, y, h1, hy, q⟩ := q
    obtain ⟨a, us', e1, ha, hH, r1⟩ := lst_at rs h1 rd
    obtain ⟨z, ez, rz⟩ := RDs.get r1 hy
    have f := set_lst rs h1 ha (rds_dropLast r1)
    exact mt_pop pins s σ H x vs v us Q I rx rv ⟨a, us', z, e1, rds, hH, by rw [RDs.length r1]; exact ez, up y _ al _ z f (f.rd rz) q⟩
  · exact q.elim
theorem m_pop1 : MtR X "list.pop" (LLm (cy X E) rPop1) := by
  intro pins s σ H x vs v us Q I rx rv ⟨d, ds, al, S, kd, xd, rs, rd, rds, q, up, ux⟩
  unfold rPop1 at q
  split at q
  · obtain ⟨xs, j, y, h1, i1, i2, hj, hy, q⟩ := q
    obtain ⟨a, us', e1, ha, hH, r1⟩ := lst_at rs h1 rd
    obtain ⟨z, ez, rz⟩ := RDs.get r1 hy
    obtain ⟨w, e2, rw'⟩ := rds1 rds
    cases (show w = _ from rw')
    have f := set_lst rs h1 ha (rds_erase j r1)
    exact mt_popAt pins s σ H x vs v us Q I rx rv ⟨a, us', _, j, z, e1, e2, hH, i1, i2, by rw [RDs.length r1]; exact hj, ez, up y _ al _ z f (f.rd rz) q⟩
  · exact q.elim
theorem m_rev : MtR X "list.reverse" (LLm (cy X E) rRev) := by
  intro pins s σ H x vs v us Q I rx rv ⟨d, ds, al, S, kd, xd, rs, rd, rds, q, up, ux⟩
  unfold rRev at q
  split at q
  · obtain ⟨xs, h1, q⟩ := q
    obtain ⟨a, us', e1, ha, hH, r1⟩ := lst_at rs h1 rd
    exact mt_reverse pins s σ H x vs v us Q I rx rv ⟨a, us', e1, rds, hH, up .non _ al _ .non (set_lst rs h1 ha (RDs.reverse r1)) rfl q⟩
  · exact q.elim
theorem isLst_ty {K : PySem.W.Frag} {H : Hp} {al : List Addr} {S : Sto} {d : D} {v : V} (rs : RS K H al S) (h : isLst S d) (r : RD K H al d v) : tyV K "list" v H := by
  cases d with
  | ref n =>
    obtain ⟨ds, hl⟩ := h
    obtain ⟨a, vs, e, _, h1, _⟩ := isL_at rs hl r
    subst e
    exact .inl ⟨rfl, vs, h1⟩
  | _ => exact h.elim
theorem q_met (slot : Slot "list" name id) (hty : typeOf (.builtin id) = pure (.type "method_descriptor")) (hm : MtR X id (LLm (cy X E) r)) (ho : QE X E o to) (ha : QA X E (e :: es) tr) (hbase : attributeBase o name X.env (eval o X.env) = eval o X.env := by rfl) (hfew : ((backTo cpos (starEach (e :: es) X.env)).all (fun x => !x.1) && (backToKw cpos (keywordEach [] X.env)).all (fun x => x.1.isSome) && decide ((e :: es).length + ([] : List Keyword).length + (if ([] : List Keyword).isEmpty then 0 else 1) < 30)) = true := by rfl)
    (hline : (apos.endLine == cpos.line) = true := by rfl) (hs : starEach (e :: es) X.env = (false, eval e X.env) :: starEach es X.env := by rfl) (hplain : (backTo cpos (starEach es X.env)).any (·.1) = false := by rfl) :
    QE X E (.Call (.Attribute o name apos) (e :: es) [] cpos) (dMet r to tr) :=
  pe_imp (pe_bm PySem.F.plainAttrs_list slot hty hm ho ha hbase hfew hline hs hplain) fun s H Q ⟨sg, al, S, kd, xd, rs, rl, q, up, ux⟩ => ⟨sg, al, S, kM1 r tr sg kd xd, xd, rs, rl, q, fun d S1 al1 H1 v f1 r1 q1 =>
    ⟨isLst_ty f1.rs q1.1 r1, sg, al1, S1, kM2 r kd xd d, xd, f1.rs, f1.rsl rl, q1.2, fun ds S2 al2 H2 vs f2 r2 q2 => ⟨d, ds, al2, S2, kd, xd, f2.rs, f2.rd r1, r2, q2, up.mono (f1.trans f2), ux.mono (f1.trans f2)⟩, ux.mono f1⟩, ux⟩
theorem q_met0 (slot : Slot "list" name id) (hty : typeOf (.builtin id) = pure (.type "method_descriptor")) (hm : MtR X id (LLm (cy X E) r)) (ho : QE X E o to)
    (hbase : attributeBase o name X.env (eval o X.env) = eval o X.env := by rfl) (hline : (apos.endLine == cpos.line) = true := by rfl) : QE X E (.Call (.Attribute o name apos) [] [] cpos) (dMet r to dNil) :=
  pe_imp (pe_bm0 PySem.F.plainAttrs_list slot hty hm ho hbase hline) fun s H Q ⟨sg, al, S, kd, xd, rs, rl, q, up, ux⟩ => ⟨sg, al, S, kM1 r dNil sg kd xd, xd, rs, rl, q, fun d S1 al1 H1 v f1 r1 q1 =>
    ⟨isLst_ty f1.rs q1.1 r1, d, [], al1, S1, kd, xd, f1.rs, r1, rfl, q1.2, up.mono f1, ux.mono f1⟩, ux⟩
end
end Q
namespace Q
open PySem
open Spec PyProof.Rows L2

/-! ### statements -/
def dNext : TSD := fun M sg S => M.nx sg S
def dSeq (t u : TSD) : TSD := fun M sg S => t { M with nx := u M } sg S
def kDrop (M : EndsD) (sg : Sl) : KD := fun _ S => M.nx sg S
def dDrop (te : TED) : TSD := fun M sg S => te sg S (kDrop M sg) M.ex
def dRet (te : TED) : TSD := fun M sg S => te sg S M.rt M.ex
def dRetN : TSD := fun M _ S => M.rt .non S
def kIf (t u : TSD) (M : EndsD) (sg : Sl) : Bool → Sto → Prop := fun b S => (b = true → t M sg S) ∧ (b = false → u M sg S)
def dIf (c : TTD) (t u : TSD) : TSD := fun M sg S => c sg S (kIf t u M sg) M.ex
def dNever : TSD := fun _ _ _ => False
def dBreak : TSD := fun M sg S => M.bk sg S
def dCont : TSD := fun M sg S => M.ct sg S
def kSet (i : Nat) (M : EndsD) (sg : Sl) : KD := fun d S => M.nx (sg.set i (some d)) S
def dSet (i : Nat) (te : TED) : TSD := fun M sg S => te sg S (kSet i M sg) M.ex
def kPar (i j : Nat) (M : EndsD) (sg : Sl) : List D → Sto → Prop := fun ds S => match ds with
  | [d, e] => M.nx ((sg.set i (some d)).set j (some e)) S
  | _ => False
def dPar (i j : Nat) (ta : TAD) : TSD := fun M sg S => ta sg S (kPar i j M sg) M.ex
def kPar3 (i j l : Nat) (M : EndsD) (sg : Sl) : List D → Sto → Prop := fun ds S => match ds with
  | [d, e, f] => M.nx (((sg.set i (some d)).set j (some e)).set l (some f)) S
  | _ => False
def dPar3 (i j l : Nat) (ta : TAD) : TSD := fun M sg S => ta sg S (kPar3 i j l M sg) M.ex
def kAug (i : Nat) (r : R2D) (M : EndsD) (sg : Sl) (x : D) : KD := fun y S => r x y S (kSet i M sg) M.ex
def dAug (i : Nat) (r : R2D) (te : TED) : TSD := fun M sg S => match sg[i]? with
  | some (some x) => te sg S (kAug i r M sg x) M.ex
  | _ => False
abbrev TGD := D → Sl → Sto → (Sl → Sto → Prop) → XD → Prop
def kAsg (g : TGD) (M : EndsD) (sg : Sl) : KD := fun d S => g d sg S M.nx M.ex
def dAsg (te : TED) (g : TGD) : TSD := fun M sg S => te sg S (kAsg g M sg) M.ex
def gNm (i : Nat) : TGD := fun d sg S q _ => q (sg.set i (some d)) S
abbrev TGDs := List D → Sl → Sto → (Sl → Sto → Prop) → XD → Prop
def gsNil : TGDs := fun ds sg S q _ => match ds with
  | [] => q sg S
  | _ => False
def gsCons (g : TGD) (u : TGDs) : TGDs := fun ds sg S q x => match ds with
  | d :: r => g d sg S (fun sg' S' => u r sg' S' q x) x
  | _ => False
def gTp (n : Nat) (u : TGDs) : TGD := fun d sg S q x => match d with
  | .tup ds => ds.length = n ∧ u ds sg S q x
  | _ => False
def rSet : D → D → D → Sto → (Sto → Prop) → Prop := fun o i v S q => match o, i with
  | .ref n, .int k => ∃ xs j, S[n]? = some (.lst xs) ∧ ixN xs.length k = some j ∧ q (S.set n (.lst (xs.set j v)))
  | _, _ => False
def kGs2 (o : D) (v : D) (sg : Sl) (q : Sl → Sto → Prop) : KD := fun i S => rSet o i v S (fun S' => q sg S')
def kGs1 (ti : TED) (v : D) (sg : Sl) (q : Sl → Sto → Prop) (x : XD) : KD := fun o S => ti sg S (kGs2 o v sg q) x
def gSb (to ti : TED) : TGD := fun v sg S q x => to sg S (kGs1 ti v sg q x) x
def dWhile (c : TTD) (tb : TSD) : TSD := fun M sg S => ∃ W : Nat → Sl → Sto → Prop, (∃ m, W m sg S) ∧ ∀ m sg S, W m sg S →
  c sg S (fun b S1 => (b = true → tb { M with nx := fun sg' S' => ∃ m', m' < m ∧ W m' sg' S', ct := fun sg' S' => ∃ m', m' < m ∧ W m' sg' S', bk := M.nx } sg S1) ∧ (b = false → M.nx sg S1)) M.ex
/-- what a loop walks -/
structure ItD where
  items : List D
  grd : Sto → Prop
abbrev TID := Sl → Sto → (ItD → Sto → Prop) → XD → Prop
def wFor (grd : Sto → Prop) (g : TGD) (tb : TSD) (M : EndsD) : List D → Sl → Sto → Prop
  | [], sg, S => grd S ∧ M.nx sg S
  | d :: r, sg, S => grd S ∧ g d sg S (fun sg1 S1 => tb { M with nx := wFor grd g tb M r, ct := wFor grd g tb M r, bk := M.nx } sg1 S1) M.ex
def kFor (g : TGD) (tb : TSD) (M : EndsD) (sg : Sl) : ItD → Sto → Prop := fun it S => wFor it.grd g tb M it.items sg S
def dFor (ti : TID) (g : TGD) (tb : TSD) : TSD := fun M sg S => ti sg S (kFor g tb M sg) M.ex
abbrev XF : XD := fun _ _ => False
def wipeD (sg : Sl) : List Nat → Sl
  | [] => sg
  | v :: vs => (wipeD sg vs).set v none
def kLc3 (n0 : Nat) (k : Sto → Prop) : KD := fun y S => ∃ acc, S[n0]? = some (.lst acc) ∧ acc.length < sizeLine ∧ k (S.set n0 (.lst (acc ++ [y])))
def wLc (grd : Sto → Prop) (g : TGD) (tt : TTD) (te : TED) (sg : Sl) (n0 : Nat) (k : Sto → Prop) : List D → Sto → Prop
  | [], S => grd S ∧ k S
  | d :: r, S => grd S ∧ g d sg S (fun sg1 S1 => tt sg1 S1 (fun b S2 => (b = true → te sg1 S2 (kLc3 n0 (wLc grd g tt te sg n0 k r)) XF) ∧ (b = false → wLc grd g tt te sg n0 k r S2)) XF) XF
def kLc (g : TGD) (tt : TTD) (te : TED) (sg : Sl) (k : KD) : ItD → Sto → Prop := fun it S => wLc it.grd g tt te sg S.length (fun S' => k (.ref S.length) S') it.items (S ++ [.lst []])
def dLc (ti : TID) (g : TGD) (tt : TTD) (te : TED) (vs : List Nat) : TED := fun sg S k x => ti sg S (kLc g tt te (wipeD sg vs) k) x
def dYes : TTD := fun _ S k _ => k true S

/-- an iterator walks these -/
structure ItOK (K : PySem.W.Frag) (J : It) (it : ItD) (H : Hp) (al : List Addr) : Prop where
  go : ∀ i H' al' S', Fut K H al H' al' S' → it.grd S' → i < it.items.length → J.go i H'
  yld : ∀ i d H' al' S' x H'', Fut K H al H' al' S' → it.grd S' → it.items[i]? = some d → J.yld i H' x H'' → Fut K H' al' H'' al' S' ∧ RD K H'' al' d x
  stop : ∀ H' al' S', Fut K H al H' al' S' → it.grd S' → J.stop it.items.length H'
def LI (Y : Cy) (t : TID) : TI := fun sv H R => ∃ sg al S kd xd, RS Y.K H al S ∧ RSl Y.K H al sg sv ∧ t sg S kd xd ∧ (∀ it S' al' H' J, Fut Y.K H al H' al' S' → ItOK Y.K J it H' al' → kd it S' → R J H') ∧ UpX Y H al xd
def LG (Y : Cy) (t : TGD) : TG := fun v sv H Q => ∃ d sg al S qd xd, RS Y.K H al S ∧ RSl Y.K H al sg sv ∧ RD Y.K H al d v ∧ t d sg S qd xd ∧ UpS Y.K H al qd Q ∧ UpX Y H al xd
def LGs (Y : Cy) (t : TGDs) : TGs := fun vs sv H Q => ∃ ds sg al S qd xd, RS Y.K H al S ∧ RSl Y.K H al sg sv ∧ RDs Y.K H al ds vs ∧ t ds sg S qd xd ∧ UpS Y.K H al qd Q ∧ UpX Y H al xd
abbrev QI (X : Cx) (E : XK) (tg iter : Expr) (t : TID) : Prop := PI X tg iter (LI (cy X E) t)
def WipeOK (vs : List Nat) (t : TG) : Prop := ∀ v s H Q Q', (∀ s2 H2, wipe s2 vs = wipe s vs → Q s2 H2 → Q' s2 H2) → t v s H Q → t v s H Q'
def WipesOK (vs : List Nat) (t : TGs) : Prop := ∀ v s H Q Q', (∀ s2 H2, wipe s2 vs = wipe s vs → Q s2 H2 → Q' s2 H2) → t v s H Q → t v s H Q'
/-- a target; is: the names it stores -/
def QG (X : Cx) (E : XK) (tg : Expr) (t : TGD) (tV : TG) (is : List Nat) : Prop := PG X tg tV ∧ (∀ v s H Q, LG (cy X E) t v s H Q → tV v s H Q) ∧ ∀ vs, (∀ i ∈ is, i ∈ vs) → WipeOK vs tV
def QGs (X : Cx) (E : XK) (tg : List Expr) (t : TGDs) (tV : TGs) (is : List Nat) : Prop := PGs X tg tV ∧ (∀ v s H Q, LGs (cy X E) t v s H Q → tV v s H Q) ∧ ∀ vs, (∀ i ∈ is, i ∈ vs) → WipesOK vs tV
abbrev QGp (X : Cx) (E : XK) (tg : Expr) (t : TGD) : Prop := PG X tg (LG (cy X E) t)
theorem pg_imp {X : Cx} {e : Expr} {t t' : TG} (h : PG X e t) (f : ∀ v s H Q, t' v s H Q → t v s H Q) : PG X e t' := ⟨fun pins s σ H v u Q I r q => h.run pins s σ H v u Q I r (f v σ H Q q)⟩
theorem QG.p {X : Cx} {E : XK} {tg : Expr} {t : TGD} {tV : TG} {is : List Nat} (h : QG X E tg t tV is) : QGp X E tg t := by
  obtain ⟨h1, h2, _⟩ := h
  exact pg_imp h1 h2
section
variable {X : Cx} {E : XK} {e : Expr} {te : TED} {pos : Pos} {st : Stmt} {rest a b : List Stmt} {t u : TSD}
theorem q_snil : QSs X E [] dNext := pss_imp pss_nil fun De s H ⟨sg, al, S, Dd, rs, rl, q, ue⟩ => ue.nx sg S al H s (.now rs) rl q
theorem q_scons (h1 : QS X E st t) (h2 : QSs X E rest u) : QSs X E (st :: rest) (dSeq t u) :=
  pss_imp (pss_cons h1 h2) fun De s H ⟨sg, al, S, Dd, rs, rl, q, ue⟩ => ⟨sg, al, S, { Dd with nx := u Dd }, rs, rl, q,
    ⟨fun sg1 S1 al1 H1 sv1 f1 r1 q1 => ⟨sg1, al1, S1, Dd, f1.rs, r1, q1, ue.mono f1⟩, ue.rt, ue.bk, ue.ct, ue.ex⟩⟩
theorem q_one1 (h1 : QS X E st t) : QSs X E [st] t := pss_one h1
theorem q_pass : QS X E (.Pass pos) dNext := ps_imp ps_pass fun De s H ⟨sg, al, S, Dd, rs, rl, q, ue⟩ => ue.nx sg S al H s (.now rs) rl q
theorem q_break : QS X E (.Break pos) dBreak := ps_imp ps_break fun De s H ⟨sg, al, S, Dd, rs, rl, q, ue⟩ => ue.bk sg S al H s (.now rs) rl q
theorem q_cont : QS X E (.Continue pos) dCont := ps_imp ps_continue fun De s H ⟨sg, al, S, Dd, rs, rl, q, ue⟩ => ue.ct sg S al H s (.now rs) rl q
theorem q_never : QS X E st dNever := ps_imp ps_never fun De s H ⟨sg, al, S, Dd, rs, rl, q, ue⟩ => q.elim
theorem q_snever : QSs X E rest dNever := pss_imp pss_never fun De s H ⟨sg, al, S, Dd, rs, rl, q, ue⟩ => q.elim
theorem q_expr (he : QE X E e te) (hs : swapsWith e none pos.line X.env = pure false := by rfl) : QS X E (.Expr e pos) (dDrop te) :=
  ps_imp (ps_expr he hs) fun De s H ⟨sg, al, S, Dd, rs, rl, q, ue⟩ => ⟨sg, al, S, kDrop Dd sg, Dd.ex, rs, rl, q, fun d S1 al1 H1 v f1 r1 q1 => ue.nx sg S1 al1 H1 s f1 (f1.rsl rl) q1, ue.ex⟩
theorem q_ret (he : QE X E e te) : QS X E (.Return (some e) pos) (dRet te) :=
  ps_imp (ps_ret he) fun De s H ⟨sg, al, S, Dd, rs, rl, q, ue⟩ => ⟨sg, al, S, Dd.rt, Dd.ex, rs, rl, q, ue.rt, ue.ex⟩
theorem q_retN : QS X E (.Return none pos) dRetN := ps_imp ps_retN fun De s H ⟨sg, al, S, Dd, rs, rl, q, ue⟩ => ue.rt .non S al H .non (.now rs) rfl q
theorem q_if {c : Expr} {tc : TTD} (hc : QT X E c tc) (ha : QSs X E a t) (hb : QSs X E b u) : QS X E (.If c a b pos) (dIf tc t u) :=
  ps_imp (ps_if hc ha hb) fun De s H ⟨sg, al, S, Dd, rs, rl, q, ue⟩ => ⟨sg, al, S, kIf t u Dd sg, Dd.ex, rs, rl, q, fun c S1 al1 H1 f1 q1 =>
    ite_of ⟨fun e => ⟨sg, al1, S1, Dd, f1.rs, f1.rsl rl, q1.1 e, ue.mono f1⟩, fun e => ⟨sg, al1, S1, Dd, f1.rs, f1.rsl rl, q1.2 e, ue.mono f1⟩⟩, ue.ex⟩
theorem rsl_set {K : PySem.W.Frag} {H : Hp} {al : List Addr} {sg : Sl} {sv : L2.St} {d : D} {v : V} (r : RSl K H al sg sv) (h : RD K H al d v) (i : Nat) : RSl K H al (sg.set i (some d)) (sv.set i (some v)) := by
  refine ⟨by simp [r.len], fun j e q => ?_⟩
  by_cases hj : i = j
  · subst hj
    by_cases hi : i < sg.length
    · rw [List.getElem?_set_self hi] at q
      have q' : some d = some e := Option.some.inj q
      cases q'
      exact ⟨v, by rw [List.getElem?_set_self (by rw [← r.len]; exact hi)], h⟩
    · rw [List.getElem?_eq_none (by simpa using hi)] at q
      cases q
  · rw [List.getElem?_set_ne hj] at q
    obtain ⟨w, e1, e2⟩ := r.at_ j e q
    exact ⟨w, by rw [List.getElem?_set_ne hj]; exact e1, e2⟩
theorem q_set {i : Nat} {x : Str} {pos' : Pos} (hN : X.N.Nodup) (he : QE X E e te) (hi : X.N[i]? = some x := by rfl) (hx : Loc X.env.scope x := by first | exact Or.inl rfl | exact Or.inr rfl) (hs : swapsWith e (some (.Name x pos')) pos.line X.env = pure false := by rfl)
    (hf : X.fn x = true ∨ X.env.scope.names.lookup x = some .local := by first | exact .inl rfl | exact .inr rfl) : QS X E (.Assign [.Name x pos'] e pos) (dSet i te) :=
  ps_imp (ps_set hN hi hx he hs hf) fun De s H ⟨sg, al, S, Dd, rs, rl, q, ue⟩ => ⟨sg, al, S, kSet i Dd sg, Dd.ex, rs, rl, q, fun d S1 al1 H1 v f1 r1 q1 => ue.nx _ S1 al1 H1 _ f1 (rsl_set (f1.rsl rl) r1 i) q1, ue.ex⟩
theorem q_par {i j : Nat} {x y : Str} {ea eb : Expr} {ta : TAD} {px py pt : Pos} {kt k2 : Nat} {pt2 : Pos} (hc : X.calm = true) (hN : X.N.Nodup) (ha : QA X E [ea, eb] ta)
    (hi : X.N[i]? = some x := by rfl) (hj : X.N[j]? = some y := by rfl) (hij : i ≠ j := by decide) (hx : X.env.scope.names.lookup x = some .local := by rfl) (hy : X.env.scope.names.lookup y = some .local := by rfl)
    (hw : swappedStores [.Tuple [.Name x px, .Name y py] kt pt] (.Tuple [ea, eb] k2 pt2) X.env = pure (some [x, y]) := by rfl)
    (hs : swapsWithSole [.Tuple [.Name x px, .Name y py] kt pt] (.Tuple [ea, eb] k2 pt2) pos.line X.env = pure false := by rfl) :
    QS X E (.Assign [.Tuple [.Name x px, .Name y py] kt pt] (.Tuple [ea, eb] k2 pt2) pos) (dPar i j ta) :=
  ps_imp (ps_par hc hN hi hj hij hx hy ha hw hs) fun De s H ⟨sg, al, S, Dd, rs, rl, q, ue⟩ => ⟨sg, al, S, kPar i j Dd sg, Dd.ex, rs, rl, q, fun ds S1 al1 H1 vs f1 r1 q1 => by
    unfold kPar at q1
    split at q1
    · obtain ⟨v, w, e, r2, r3⟩ := rds2 r1
      exact ⟨v, w, e, ue.nx _ S1 al1 H1 _ f1 (rsl_set (rsl_set (f1.rsl rl) r2 i) r3 j) q1⟩
    · exact q1.elim, ue.ex⟩
theorem rds3 {K : PySem.W.Frag} {H : Hp} {al : List Addr} {d d' d'' : D} {vs : List V} (r : RDs K H al [d, d', d''] vs) : ∃ v v' v'', vs = [v, v', v''] ∧ RD K H al d v ∧ RD K H al d' v' ∧ RD K H al d'' v'' := by
  obtain ⟨v, u, e, h1, h2⟩ := r
  obtain ⟨v', v'', e', h3, h4⟩ := rds2 h2
  subst e'
  exact ⟨v, v', v'', e, h1, h3, h4⟩
theorem q_par3 {i j l : Nat} {x y z : Str} {ea eb ec : Expr} {ta : TAD} {px py pz pt : Pos} {kt k2 : Nat} {pt2 : Pos} (hc : X.calm = true) (hN : X.N.Nodup) (ha : QA X E [ea, eb, ec] ta)
    (hi : X.N[i]? = some x := by rfl) (hj : X.N[j]? = some y := by rfl) (hl : X.N[l]? = some z := by rfl) (hij : i ≠ j := by decide) (hil : i ≠ l := by decide) (hjl : j ≠ l := by decide) (hx : X.env.scope.names.lookup x = some .local := by rfl) (hy : X.env.scope.names.lookup y = some .local := by rfl) (hz : X.env.scope.names.lookup z = some .local := by rfl)
    (hw : swappedStores [.Tuple [.Name x px, .Name y py, .Name z pz] kt pt] (.Tuple [ea, eb, ec] k2 pt2) X.env = pure (some [x, y, z]) := by rfl)
    (hs : swapsWithSole [.Tuple [.Name x px, .Name y py, .Name z pz] kt pt] (.Tuple [ea, eb, ec] k2 pt2) pos.line X.env = pure false := by rfl) :
    QS X E (.Assign [.Tuple [.Name x px, .Name y py, .Name z pz] kt pt] (.Tuple [ea, eb, ec] k2 pt2) pos) (dPar3 i j l ta) :=
  ps_imp (ps_par3 hc hN hi hj hl hij hil hjl hx hy hz ha hw hs) fun De s H ⟨sg, al, S, Dd, rs, rl, q, ue⟩ => ⟨sg, al, S, kPar3 i j l Dd sg, Dd.ex, rs, rl, q, fun ds S1 al1 H1 vs f1 r1 q1 => by
    unfold kPar3 at q1
    split at q1
    · obtain ⟨v, w, z, e, r2, r3, r4⟩ := rds3 r1
      exact ⟨v, w, z, e, ue.nx _ S1 al1 H1 _ f1 (rsl_set (rsl_set (rsl_set (f1.rsl rl) r2 i) r3 j) r4 l) q1⟩
    · exact q1.elim, ue.ex⟩
theorem q_aug {i : Nat} {x : Str} {op : Operator} {r : R2D} {pos' : Pos} (hN : X.N.Nodup) (ho : OpR X (inplaceOp op) (LL2 (cy X E) r)) (he : QE X E e te) (hi : X.N[i]? = some x := by rfl) (hx : Loc X.env.scope x := by first | exact Or.inl rfl | exact Or.inr rfl)
    (hf : X.fn x = true ∨ X.env.scope.names.lookup x = some .local := by first | exact .inl rfl | exact .inr rfl) : QS X E (.AugAssign (.Name x pos') op e pos) (dAug i r te) := by
  have hp : PIp X op (LL2 (cy X E) r) := fun pins s σ H x y v u Q I r1 r2 h => ho pins s σ H x y v u Q I r1 r2 h
  refine ps_imp (ps_aug hN hi hx he hp hf) fun De s H ⟨sg, al, S, Dd, rs, rl, q, ue⟩ => ?_
  unfold dAug at q
  split at q
  · rename_i d hd
    obtain ⟨v, e1, r1⟩ := rl.at_ i d hd
    exact ⟨v, e1, sg, al, S, kAug i r Dd sg d, Dd.ex, rs, rl, q, fun d2 S2 al2 H2 v2 f2 r2 q2 => ⟨d, d2, al2, S2, kSet i Dd sg, Dd.ex, f2.rs, f2.rd r1, r2, q2,
      fun d3 S3 al3 H3 v3 f3 r3 q3 => ue.nx _ S3 al3 H3 _ (f2.trans f3) (rsl_set ((f2.trans f3).rsl rl) r3 i) q3, ue.ex.mono f2⟩, ue.ex⟩
  · exact q.elim

/-! ### targets -/
theorem wipe_set_in {s : L2.St} {i : Nat} {v : Option V} : ∀ {vs : List Nat}, i ∈ vs → wipe (s.set i v) vs = wipe s vs := by
  have key : ∀ (vs : List Nat) (j : Nat), (wipe (s.set i v) vs)[j]? = if j = i ∧ i ∉ vs then (s.set i v)[j]? else (wipe s vs)[j]? := by
    intro vs
    induction vs with
    | nil =>
      intro j
      show (s.set i v)[j]? = _
      by_cases hj : j = i
      · rw [if_pos ⟨hj, by simp⟩]
      · rw [if_neg (fun z => hj z.1)]
        show (s.set i v)[j]? = s[j]?
        rw [List.getElem?_set_ne (Ne.symm hj)]
    | cons w vs ih =>
      intro j
      show ((wipe (s.set i v) vs).set w none)[j]? = if j = i ∧ i ∉ w :: vs then (s.set i v)[j]? else ((wipe s vs).set w none)[j]?
      have hl : (wipe (s.set i v) vs).length = (wipe s vs).length := by rw [wipe_length, wipe_length, List.length_set]
      by_cases hw : w = j
      · subst hw
        rw [if_neg (fun z => z.2 (by rw [z.1]; exact List.mem_cons_self))]
        by_cases hb : w < (wipe s vs).length
        · rw [List.getElem?_set_self hb, List.getElem?_set_self (by rw [hl]; exact hb)]
        · rw [List.getElem?_eq_none (by rw [List.length_set]; omega), List.getElem?_eq_none (by rw [List.length_set]; omega)]
      · rw [List.getElem?_set_ne hw, List.getElem?_set_ne hw, ih j]
        by_cases hj : j = i
        · subst hj
          by_cases hm : j ∈ vs
          · rw [if_neg (fun z => z.2 hm), if_neg (fun z => z.2 (List.mem_cons_of_mem _ hm))]
          · rw [if_pos ⟨rfl, hm⟩, if_pos ⟨rfl, fun z => (List.mem_cons.mp z).elim (fun e => hw e.symm) hm⟩]
        · rw [if_neg (fun z => hj z.1), if_neg (fun z => hj z.1)]
  intro vs hi
  refine List.ext_getElem? fun j => ?_
  rw [key vs j, if_neg (fun z => z.2 hi)]
theorem wipe_get (s : L2.St) : ∀ (vs : List Nat) (j : Nat), (wipe s vs)[j]? = if j ∈ vs then (s[j]?).map (fun _ => none) else s[j]?
  | [], j => by rw [if_neg (by simp)]; rfl
  | w :: vs, j => by
    show ((wipe s vs).set w none)[j]? = _
    by_cases hw : w = j
    · subst hw
      rw [if_pos List.mem_cons_self]
      by_cases hb : w < s.length
      · rw [List.getElem?_set_self (by rw [wipe_length]; exact hb), List.getElem?_eq_getElem hb]
        rfl
      · rw [List.getElem?_eq_none (by rw [List.length_set, wipe_length]; omega), List.getElem?_eq_none (by omega)]
        rfl
    · rw [List.getElem?_set_ne hw, wipe_get s vs j]
      by_cases hm : j ∈ vs
      · rw [if_pos hm, if_pos (List.mem_cons_of_mem _ hm)]
      · rw [if_neg hm, if_neg (fun z => (List.mem_cons.mp z).elim (fun e => hw e.symm) hm)]
theorem wipe_wipe (s : L2.St) (vs : List Nat) : wipe (wipe s vs) vs = wipe s vs := by
  refine List.ext_getElem? fun j => ?_
  rw [wipe_get, wipe_get]
  by_cases hm : j ∈ vs
  · rw [if_pos hm, if_pos hm]
    cases s[j]? <;> rfl
  · rw [if_neg hm, if_neg hm]
theorem q_gnm {i : Nat} {x : Str} (hN : X.N.Nodup) (hi : X.N[i]? = some x := by rfl) (hx : Loc X.env.scope x := by first | exact Or.inl rfl | exact Or.inr rfl) (hf : X.fn x = true ∨ X.env.scope.names.lookup x = some .local := by first | exact .inl rfl | exact .inr rfl) :
    QG X E (.Name x pos) (gNm i) (gName i) [i] :=
  ⟨pg_name hN hi hx hf, fun v s H Q ⟨d, sg, al, S, qd, xd, rs, rl, rd, q, up, ux⟩ => up _ S al H _ (.now rs) (rsl_set rl rd i) q, fun vs hv v s H Q Q' f q => f _ _ (wipe_set_in (hv i (by simp))) q⟩
variable {es : List Expr} {tg : Expr} {g : TGD} {gs : TGDs} {is js : List Nat} {tV : TG} {tVs : TGs}
theorem q_gsnil : QGs X E [] gsNil gNil [] :=
  ⟨pgs_nil, fun vs s H Q ⟨d, sg, al, S, qd, xd, rs, rl, rd, q, up, ux⟩ => by
    cases d with
    | nil => exact ⟨rd, up sg S al H s (.now rs) rl q⟩
    | cons _ _ => exact q.elim, fun vs hv v s H Q Q' f q => ⟨q.1, f _ _ rfl q.2⟩⟩
theorem q_gscons (h1 : QG X E tg g tV is) (h2 : QGs X E es gs tVs js) (hs : (assignEach (tg :: es) X.env).map (·.2) = assign tg X.env :: (assignEach es X.env).map (·.2) := by rfl) : QGs X E (tg :: es) (gsCons g gs) (gCons tV tVs) (is ++ js) := by
  obtain ⟨p1, l1, w1⟩ := h1
  obtain ⟨p2, l2, w2⟩ := h2
  refine ⟨pgs_cons p1 p2 hs, fun vs s H Q ⟨d, sg, al, S, qd, xd, rs, rl, rd, q, up, ux⟩ => ?_, fun vs hv v s H Q Q' f q => ?_⟩
  · cases d with
    | nil => exact q.elim
    | cons d r =>
      obtain ⟨v, u, e, r1, r2⟩ := rd
      exact ⟨v, u, e, l1 _ _ _ _ ⟨d, sg, al, S, _, xd, rs, rl, r1, q, fun sg1 S1 al1 H1 sv1 f1 rl1 q1 => l2 _ _ _ _ ⟨r, sg1, al1, S1, qd, xd, f1.rs, rl1, f1.rds r2, q1, up.mono f1, ux.mono f1⟩, ux⟩⟩
  · obtain ⟨a, r, e, q⟩ := q
    refine ⟨a, r, e, w1 vs (fun i hi => hv i (List.mem_append_left _ hi)) _ _ _ _ _ (fun s2 H2 e2 q2 => ?_) q⟩
    exact w2 vs (fun i hi => hv i (List.mem_append_right _ hi)) _ _ _ _ _ (fun s3 H3 e3 q3 => f s3 H3 (e3.trans e2) q3) q2
theorem q_gtp {k n : Nat} (hc : X.calm = true) (h : QGs X E es gs tVs is) (hn : (assignEach es X.env).length = n := by rfl) (hst : (assignEach es X.env).findIdx? (·.1) = none := by rfl) : QG X E (.Tuple es k pos) (gTp n gs) (gTup X.K n tVs) is := by
  obtain ⟨p1, l1, w1⟩ := h
  refine ⟨pg_tup hc p1 hn hst, fun v s H Q ⟨d, sg, al, S, qd, xd, rs, rl, rd, q, up, ux⟩ => ?_, fun vs hv v s H Q Q' f q => ?_⟩
  · cases d <;> try exact q.elim
    case tup ds =>
      obtain ⟨a, vs, e, h1, r1⟩ := rd
      exact ⟨a, vs, e, h1, by rw [RDs.length r1]; exact q.1, l1 _ _ _ _ ⟨ds, sg, al, S, qd, xd, rs, rl, r1, q.2, up, ux⟩⟩
  · obtain ⟨a, xs, e, h1, h2, q⟩ := q
    exact ⟨a, xs, e, h1, h2, w1 vs hv _ _ _ _ _ f q⟩
theorem q_gsb {o i : Expr} {to ti : TED} (ho : QE X E o to) (hi : QE X E i ti) (ha : ∀ v, assign (.Subscript o i pos) X.env v = (do
      let b ← holding [v] (eval o X.env)
      let c ← holding [v, b] (eval i X.env)
      standAt pos; holding [v, b, c] (setItem b c v); release [v, b, c] []) := by intro _; rfl) : QGp X E (.Subscript o i pos) (gSb to ti) := by
  refine pg_imp (pg_sub ho hi set_list ha) fun v s H Q ⟨d, sg, al, S, qd, xd, rs, rl, rd, q, up, ux⟩ => ?_
  refine ⟨sg, al, S, _, xd, rs, rl, q, fun d1 S1 al1 H1 v1 f1 r1 q1 => ⟨sg, al1, S1, _, xd, f1.rs, f1.rsl rl, q1, fun d2 S2 al2 H2 v2 f2 r2 q2 => ?_, ux.mono f1⟩, ux⟩
  have q2 : rSet d1 d2 d S2 (fun S' => qd sg S') := q2
  unfold rSet at q2
  split at q2
  · obtain ⟨xs, j, h1, hj, q2⟩ := q2
    obtain ⟨a, vs, e1, ha1, e2, r3⟩ := lst_at f2.rs h1 (f2.rd r1)
    have f3 := set_lst f2.rs h1 ha1 (RDs.set j r3 ((f1.trans f2).rd rd))
    exact ⟨a, vs, _, j, e1, r2, e2, by rw [RDs.length r3]; exact hj, up sg _ al2 _ s ((f1.trans f2).trans f3) (((f1.trans f2).trans f3).rsl rl) q2⟩
  · exact q2.elim
theorem q_asg (he : QE X E e te) (hg : QGp X E tg g) (hs : swapsWithSole [tg] e pos.line X.env = pure false := by rfl) (hw : swappedStores [tg] e X.env = pure none := by rfl)
    (h1 : (assignEach [tg] X.env).map (·.2) = [assign tg X.env] := by rfl) : QS X E (.Assign [tg] e pos) (dAsg te g) :=
  ps_imp (ps_asg he hg hs hw h1) fun De s H ⟨sg, al, S, Dd, rs, rl, q, ue⟩ => ⟨sg, al, S, kAsg g Dd sg, Dd.ex, rs, rl, q, fun d S1 al1 H1 v f1 r1 q1 =>
    ⟨d, sg, al1, S1, Dd.nx, Dd.ex, f1.rs, f1.rsl rl, r1, q1, ue.nx.mono f1, ue.ex.mono f1⟩, ue.ex⟩

/-! ### loops -/
theorem q_while {c : Expr} {body : List Stmt} {tc : TTD} {tb : TSD} (hp : PassesOwn (model X.prog X.w) X.A X.env X.xe) (hc : QT X E c tc) (hb : QSs X E body tb) : QS X E (.While c body [] pos) (dWhile tc tb) := by
  refine ps_imp (ps_while hp hc hb) fun De s H ⟨sg, al, S, Dd, rs, rl, q, ue⟩ => ?_
  obtain ⟨W, ⟨m0, w0⟩, turn⟩ := q
  refine ⟨fun m sv H' => ∃ sg' al' S', Fut X.K H al H' al' S' ∧ RSl X.K H' al' sg' sv ∧ W m sg' S', ⟨m0, sg, al, S, .now rs, rl, w0⟩, ?_⟩
  rintro m sv H1 ⟨sg1, al1, S1, f1, rl1, w1⟩
  refine ⟨sg1, al1, S1, _, Dd.ex, f1.rs, rl1, turn m sg1 S1 w1, fun b S2 al2 H2 f2 q2 => ite_of ⟨fun e => ?_, fun e => ?_⟩, ue.ex.mono f1⟩
  · refine ⟨fun sv' H' => ∃ m', m' < m ∧ ∃ sg' al' S', Fut X.K H al H' al' S' ∧ RSl X.K H' al' sg' sv' ∧ W m' sg' S', fun sv' H' h => h, ?_⟩
    have up : UpS X.K H2 al2 (fun sg' S' => ∃ m', m' < m ∧ W m' sg' S') (fun sv' H' => ∃ m', m' < m ∧ ∃ sg' al' S', Fut X.K H al H' al' S' ∧ RSl X.K H' al' sg' sv' ∧ W m' sg' S') :=
      fun sg3 S3 al3 H3 sv3 f3 r3 ⟨m', hm, w3⟩ => ⟨m', hm, sg3, al3, S3, (f1.trans f2).trans f3, r3, w3⟩
    exact ⟨sg1, al2, S2, _, f2.rs, f2.rsl rl1, q2.1 e, ⟨up, ue.rt.mono (f1.trans f2), ue.nx.mono (f1.trans f2), up, ue.ex.mono (f1.trans f2)⟩⟩
  · exact ue.nx sg1 S2 al2 H2 sv (f1.trans f2) (f2.rsl rl1) (q2.2 e)
theorem q_for {iter : Expr} {body : List Stmt} {ti : TID} {tb : TSD} (hp : PassesOwn (model X.prog X.w) X.A X.env X.xe) (hc : X.calm = true) (hi : QI X E tg iter ti) (hg : QG X E tg g tV is) (hb : QSs X E body tb)
    (hs : ∀ x, foldedSetIterable iter X.env x = pure x := by intro _; rfl) : QS X E (.For tg iter body [] pos) (dFor ti g tb) := by
  refine ps_imp (ps_for hp hc hi hg.p hb hs) fun De s H ⟨sg, al, S, Dd, rs, rl, q, ue⟩ => ?_
  refine ⟨sg, al, S, kFor g tb Dd sg, Dd.ex, rs, rl, q, fun it S1 al1 H1 J f1 iok q1 => ?_, ue.ex⟩
  have q1 : wFor it.grd g tb Dd it.items sg S1 := q1
  refine ⟨fun i m sv H' => ∃ sg' al' S', Fut X.K H1 al1 H' al' S' ∧ RSl X.K H' al' sg' sv ∧ wFor it.grd g tb Dd (it.items.drop i) sg' S' ∧ m = it.items.length - i ∧ i ≤ it.items.length, ⟨it.items.length, sg, al1, S1, .now f1.rs, f1.rsl rl, q1, by simp, Nat.zero_le _⟩, ?_⟩
  rintro i m sv H2 ⟨sg2, al2, S2, f2, rl2, w2, rfl, hi⟩
  by_cases hlt : i < it.items.length
  · rw [List.drop_eq_getElem_cons hlt] at w2
    obtain ⟨gr, w2⟩ := w2
    refine .inr ⟨iok.go i H2 al2 S2 f2 gr hlt, fun sv' H' => ∃ m', m' < it.items.length - i ∧ ∃ sg' al' S', Fut X.K H1 al1 H' al' S' ∧ RSl X.K H' al' sg' sv' ∧ wFor it.grd g tb Dd (it.items.drop (i + 1)) sg' S' ∧ m' = it.items.length - (i + 1) ∧ i + 1 ≤ it.items.length, fun sv' H' h => h, fun x H' hy => ?_⟩
    obtain ⟨f3, r3⟩ := iok.yld i _ H2 al2 S2 x H' f2 gr (List.getElem?_eq_getElem hlt) hy
    refine ⟨_, sg2, al2, S2, _, Dd.ex, f3.rs, f3.rsl rl2, r3, w2, fun sg4 S4 al4 H4 sv4 f4 rl4 q4 => ?_, ue.ex.mono ((f1.trans f2).trans f3)⟩
    have f := (f2.trans f3).trans f4
    have up : UpS X.K H4 al4 (wFor it.grd g tb Dd (it.items.drop (i + 1))) (fun sv' H' => ∃ m', m' < it.items.length - i ∧ ∃ sg' al' S', Fut X.K H1 al1 H' al' S' ∧ RSl X.K H' al' sg' sv' ∧ wFor it.grd g tb Dd (it.items.drop (i + 1)) sg' S' ∧ m' = it.items.length - (i + 1) ∧ i + 1 ≤ it.items.length) :=
      fun sg5 S5 al5 H5 sv5 f5 r5 q5 => ⟨it.items.length - (i + 1), by omega, sg5, al5, S5, f.trans f5, r5, q5, rfl, hlt⟩
    exact ⟨sg4, al4, S4, _, f4.rs, rl4, q4, ⟨up, ue.rt.mono (f1.trans f), ue.nx.mono (f1.trans f), up, ue.ex.mono (f1.trans f)⟩⟩
  · have e : i = it.items.length := by omega
    subst e
    rw [List.drop_length] at w2
    obtain ⟨gr, w2⟩ := w2
    exact .inl ⟨iok.stop H2 al2 S2 f2 gr, ue.nx sg2 S2 al2 H2 sv (f1.trans f2) rl2 w2⟩

/-! ### what is walked -/
def iSq (te : TED) : TID := fun sg S k x => te sg S (fun d S' => match d with
  | .tup ds => k ⟨ds, fun _ => True⟩ S'
  | .ref n => ∃ ds, isL S' n ds ∧ k ⟨ds, fun S => isL S n ds⟩ S'
  | .str z => k ⟨z.cps.toList.map fun c => D.str ⟨#[c]⟩, fun _ => True⟩ S'
  | _ => False) x
def iSeqV (K : PySem.W.Frag) (tl : TE) : TI := fun σ H R => tl σ H fun x H1 => (∃ a, x = .ref a ∧ (∃ xs, SqL K H1 a xs) ∧ R (Itl K a) H1) ∨ (∃ a, x = .ref a ∧ (∃ xs, SqT K H1 a xs) ∧ R (Itt K a) H1) ∨ (∃ z, x = .str z ∧ R (Its z) H1)
theorem pi_seqV {l : Expr} {tl : TE} (hl : PE X l tl) : PI X tg l (iSeqV X.K tl) := by
  constructor
  intro pins s σ H R I h
  refine thn (hl.run pins s σ H _ I h) ?_
  rintro v s1 ⟨x, H1, I1, r1, q1⟩
  have fresh : ∀ b, b ∈ [s1.heap.objs.size] → _ := fun b hb => (show b = s1.heap.objs.size by simpa using hb) ▸ I1.fpOk (Nat.le_refl _) (I1.hok.fresh (Nat.le_refl _))
  have kept := fun (o : Obj) => I1.kept (t' := s1.toks) fun b u (e : s1.heap.get? b = some u) => Heap.get?_push_of_some o e
  obtain ⟨a, rfl, ⟨xs, hq⟩, q⟩ | ⟨a, rfl, ⟨xs, hq⟩, q⟩ | ⟨z, rfl, q⟩ := q1
  · cases r1
    obtain ⟨its, _, p, _⟩ := I1.list hq
    exact wpAny_pyIter_list p.isList ⟨_, [_], _, _, H1, rfl, kept _, turn_list a _, ⟨_, Heap.get?_push_size _ rfl, rfl, rfl⟩, fresh, q⟩
  · cases r1
    obtain ⟨its, _, p, _⟩ := I1.tuple hq
    exact wpAny_pyIter_tuple (show s1.heap.IsTuple a its.toArray from p) ⟨_, [_], _, _, H1, rfl, kept _, turn_tuple a _, ⟨_, Heap.get?_push_size _ rfl, rfl, rfl⟩, fresh, q⟩
  · obtain ⟨t, rfl⟩ := r1
    cases hz : z.cps.all (· < 128) with
    | false => exact wpAny_pyIter_wide hz (pi_one (tk := s1.toks) I1 _ (turn_str _ z t "str_iterator" (.inr rfl)) ⟨_, Heap.get?_push_size _ rfl, rfl, rfl⟩ q)
    | true => exact wpAny_pyIter_ascii hz (pi_one (tk := s1.toks) I1 _ (turn_str _ z t "str_ascii_iterator" (.inl rfl)) ⟨_, Heap.get?_push_size _ rfl, rfl, rfl⟩ q)
theorem fut_same {K : PySem.W.Frag} {H H' H'' : Hp} {al al' : List Addr} {S' : Sto} (f : Fut K H al H' al' S') (e : H'' = H') : Fut K H' al' H'' al' S' := by
  subst e
  exact .now f.rs
theorem pi_imp {l : Expr} {t t' : TI} (h : PI X tg l t) (f : ∀ s H R, t' s H R → t s H R) : PI X tg l t' := ⟨fun pins s σ H R I q => h.run pins s σ H R I (f σ H R q)⟩
theorem isL_sq {K : PySem.W.Frag} {H : Hp} {al : List Addr} {S : Sto} {n : Nat} {ds : List D} {a : Addr} (rs : RS K H al S) (h : isL S n ds) (ha : al[n]? = some a) : ∃ vs, SqL K H a vs ∧ RDs K H al ds vs := by
  obtain ⟨b, vs, e, hb, h1, r1⟩ := isL_at rs h (v := .ref a) ⟨a, rfl, ha⟩
  cases e
  exact ⟨vs, h1, r1⟩
theorem getExt {al al' : List Addr} {K : PySem.W.Frag} {H H' : Hp} {S' : Sto} (f : Fut K H al H' al' S') {n : Nat} {a : Addr} (h : al[n]? = some a) : al'[n]? = some a := by
  obtain ⟨t, e⟩ := f.ext
  subst e
  exact getE h
theorem it_tup {K : PySem.W.Frag} {H : Hp} {al : List Addr} {a : Addr} {ds : List D} {vs : List V} (h : SqT K H a vs) (r : RDs K H al ds vs) : ItOK K (Itt K a) ⟨ds, fun _ => True⟩ H al where
  go := fun i H' al' S' f _ hi => by
    have r' := f.rds r
    have hl : i < vs.length := by rw [RDs.length r]; exact hi
    exact ⟨vs, vs[i], sqt_keep f.keep h, List.getElem?_eq_getElem hl⟩
  yld := fun i d H' al' S' x H'' f _ hd hy => by
    obtain ⟨e, hy⟩ := hy
    refine ⟨fut_same f e, ?_⟩
    subst e
    obtain ⟨v, hv, rv⟩ := RDs.get (f.rds r) hd
    have := hy vs (sqt_keep f.keep h)
    rw [hv] at this
    cases this
    exact rv
  stop := fun H' al' S' f _ => ⟨vs, sqt_keep f.keep h, by rw [RDs.length r]; exact Nat.le_refl _⟩
theorem it_lst {K : PySem.W.Frag} {H : Hp} {al : List Addr} {a : Addr} {n : Nat} {ds : List D} (ha : al[n]? = some a) : ItOK K (Itl K a) ⟨ds, fun S => isL S n ds⟩ H al where
  go := fun i H' al' S' f g hi => by
    obtain ⟨vs, h1, r1⟩ := isL_sq f.rs g (getExt f ha)
    have hl : i < vs.length := by rw [RDs.length r1]; exact hi
    exact ⟨vs, vs[i], h1, List.getElem?_eq_getElem hl⟩
  yld := fun i d H' al' S' x H'' f g hd hy => by
    obtain ⟨e, hy⟩ := hy
    refine ⟨fut_same f e, ?_⟩
    subst e
    obtain ⟨vs, h1, r1⟩ := isL_sq f.rs g (getExt f ha)
    obtain ⟨v, hv, rv⟩ := RDs.get r1 hd
    have := hy vs h1
    rw [hv] at this
    cases this
    exact rv
  stop := fun H' al' S' f g => by
    obtain ⟨vs, h1, r1⟩ := isL_sq f.rs g (getExt f ha)
    exact ⟨vs, h1, by rw [RDs.length r1]; exact Nat.le_refl _⟩
theorem it_str {K : PySem.W.Frag} {H : Hp} {al : List Addr} {z : Str} : ItOK K (Its z) ⟨z.cps.toList.map fun c => D.str ⟨#[c]⟩, fun _ => True⟩ H al where
  go := fun i H' al' S' f g hi => by
    have hi : i < (z.cps.toList.map fun c => D.str ⟨#[c]⟩).length := hi
    rw [List.length_map] at hi
    exact hi
  yld := fun i d H' al' S' x H'' f g hd hy => by
    obtain ⟨e, c, hc, hy⟩ := hy
    refine ⟨fut_same f e, ?_⟩
    have hd : (z.cps.toList.map fun c => D.str ⟨#[c]⟩)[i]? = some d := hd
    rw [List.getElem?_map, Array.getElem?_toList, hc] at hd
    cases hd
    exact hy
  stop := fun H' al' S' f g => by
    show z.cps.size ≤ (z.cps.toList.map fun c => D.str ⟨#[c]⟩).length
    rw [List.length_map]
    exact Nat.le_refl _
theorem it_rng {K : PySem.W.Frag} {H : Hp} {al : List Addr} {lo : Int} {n : Nat} : ItOK K (Itr lo n) ⟨(List.range n).map fun i => D.int (lo + (i : Nat)), fun _ => True⟩ H al where
  go := fun i H' al' S' f g hi => by
    have hi : i < ((List.range n).map fun i => D.int (lo + (i : Nat))).length := hi
    rw [List.length_map, List.length_range] at hi
    exact hi
  yld := fun i d H' al' S' x H'' f g hd hy => by
    obtain ⟨e, hy⟩ := hy
    refine ⟨fut_same f e, ?_⟩
    have hd : ((List.range n).map fun i => D.int (lo + (i : Nat)))[i]? = some d := hd
    have hl := (List.getElem?_eq_some_iff.mp hd).1
    rw [List.length_map, List.length_range] at hl
    rw [List.getElem?_map, List.getElem?_range hl] at hd
    cases hd
    exact hy
  stop := fun H' al' S' f g => by
    show n ≤ ((List.range n).map fun i => D.int (lo + (i : Nat))).length
    rw [List.length_map, List.length_range]
    exact Nat.le_refl _
theorem q_iSq (he : QE X E e te) : QI X E tg e (iSq te) :=
  pi_imp (pi_seqV he) fun s H R ⟨sg, al, S, kd, xd, rs, rl, q, up, ux⟩ => ⟨sg, al, S, _, xd, rs, rl, q, fun d S1 al1 H1 v f1 r1 q1 => by
    cases d <;> try exact q1.elim
    case tup ds =>
      obtain ⟨a, vs, e, h1, r1⟩ := r1
      exact .inr (.inl ⟨a, e, ⟨vs, h1⟩, up _ S1 al1 H1 _ f1 (it_tup h1 r1) q1⟩)
    case ref n =>
      obtain ⟨ds, hl, q1⟩ := q1
      obtain ⟨a, vs, e, ha, h1, r2⟩ := isL_at f1.rs hl r1
      exact .inl ⟨a, e, ⟨vs, h1⟩, up _ S1 al1 H1 _ f1 (it_lst ha) q1⟩
    case str z =>
      exact .inr (.inr ⟨z, r1, up _ S1 al1 H1 _ f1 it_str q1⟩), ux⟩
def kRg1 (k : ItD → Sto → Prop) : List D → Sto → Prop := fun ds S => match ds with
  | [.int j] => -(2 ^ 62) ≤ j ∧ j < 2 ^ 62 ∧ k ⟨(List.range j.toNat).map fun i => D.int (0 + (i : Nat)), fun _ => True⟩ S
  | _ => False
def iRg1 (ta : TAD) : TID := fun sg S k x => ta sg S (kRg1 k) x
def kRg2 (k : ItD → Sto → Prop) : List D → Sto → Prop := fun ds S => match ds with
  | [.int i, .int j] => (-(2 ^ 62) ≤ i ∧ i < 2 ^ 62 ∧ -(2 ^ 62) ≤ j ∧ j < 2 ^ 62) ∧ k ⟨(List.range (j - i).toNat).map fun n => D.int (i + (n : Nat)), fun _ => True⟩ S
  | _ => False
def iRg2 (ta : TAD) : TID := fun sg S k x => ta sg S (kRg2 k) x
theorem q_rg1 {a : Expr} {ta : TAD} {p : Pos} (hg : Gl X "range") (hm : X.mg "range" = none) (ha : QA X E [a] ta) (hs : starEach [a] X.env = [(false, eval a X.env)] := by rfl) : QI X E tg (.Call (.Name "range" p) [a] [] pos) (iRg1 ta) :=
  pi_imp (pi_range1 hg hm ha hs) fun s H R ⟨sg, al, S, kd, xd, rs, rl, q, up, ux⟩ => ⟨sg, al, S, kRg1 kd, xd, rs, rl, q, fun ds S1 al1 H1 vs f1 r1 q1 => by
    unfold kRg1 at q1
    split at q1
    · obtain ⟨v, e, rv⟩ := rds1 r1
      cases (show v = _ from rv)
      exact ⟨_, e, q1.1, q1.2.1, up _ S1 al1 H1 _ f1 it_rng q1.2.2⟩
    · exact q1.elim, ux⟩
theorem q_rg2 {a b : Expr} {ta : TAD} {p : Pos} (hg : Gl X "range") (hm : X.mg "range" = none) (ha : QA X E [a, b] ta) (hs : starEach [a, b] X.env = [(false, eval a X.env), (false, eval b X.env)] := by rfl) (hs2 : starEach [b] X.env = [(false, eval b X.env)] := by rfl) : QI X E tg (.Call (.Name "range" p) [a, b] [] pos) (iRg2 ta) :=
  pi_imp (pi_range2 hg hm ha hs hs2) fun s H R ⟨sg, al, S, kd, xd, rs, rl, q, up, ux⟩ => ⟨sg, al, S, kRg2 kd, xd, rs, rl, q, fun ds S1 al1 H1 vs f1 r1 q1 => by
    unfold kRg2 at q1
    split at q1
    · obtain ⟨v, v', e, rv, rv'⟩ := rds2 r1
      cases (show v = _ from rv)
      cases (show v' = _ from rv')
      exact ⟨_, _, e, q1.1, up _ S1 al1 H1 _ f1 it_rng q1.2⟩
    · exact q1.elim, ux⟩

/-! ### comprehensions -/
theorem rsl_wipe {K : PySem.W.Frag} {H : Hp} {al : List Addr} {sg : Sl} {sv : L2.St} (r : RSl K H al sg sv) : ∀ vs : List Nat, RSl K H al (wipeD sg vs) (wipe sv vs)
  | [] => r
  | v :: vs => by
    have ih := rsl_wipe r vs
    refine ⟨by show ((wipeD sg vs).set v none).length = ((wipe sv vs).set v none).length; rw [List.length_set, List.length_set, ih.len], fun i d h => ?_⟩
    have h : ((wipeD sg vs).set v none)[i]? = some (some d) := h
    by_cases hv : v = i
    · subst hv
      by_cases hl : v < (wipeD sg vs).length
      · rw [List.getElem?_set_self hl] at h
        cases h
      · rw [List.getElem?_eq_none (by rw [List.length_set]; omega)] at h
        cases h
    · rw [List.getElem?_set_ne hv] at h
      obtain ⟨w, e, rw'⟩ := ih.at_ i d h
      exact ⟨w, by show ((wipe sv vs).set v none)[i]? = _; rw [List.getElem?_set_ne hv]; exact e, rw'⟩
abbrev QTs (X : Cx) (E : XK) (e : List Expr) (t : TTD) : Prop := PTs X e (LT (cy X E) t)
theorem q_tnil : QTs X E [] dYes := ⟨fun pins s σ H Q I ⟨sg, al, S, kd, xd, rs, rl, q, up, ux⟩ => pts_nil.run pins s σ H Q I (up true S al H (.now rs) q)⟩
theorem q_tone {c : Expr} {t : TTD} (h : QT X E c t) : QTs X E [c] t := pts_one h
theorem ux0 {K : PySem.W.Frag} {mg : Str → Option Value} {H : Hp} {al : List Addr} {E : XK} : UpX ⟨K, mg, E⟩ H al XF := fun ex S' al' H' cls d f r h => h.elim
/-- the reading of a comprehension: from data to the layer's -/
theorem lc_red {K : PySem.W.Frag} {mg : Str → Option Value} {ti : TID} {g : TGD} {tt : TTD} {te : TED} {vs : List Nat} {tV : TG} {s : L2.St} {H : Hp} {Q : VK} {E : XK}
    (hl : ∀ v s H Q, LG ⟨K, mg, E0⟩ g v s H Q → tV v s H Q) (hw : WipeOK vs tV) (h : LE ⟨K, mg, E⟩ (dLc ti g tt te vs) s H Q) : tLc (LI ⟨K, mg, E⟩ ti) tV (LT ⟨K, mg, E0⟩ tt) (LE ⟨K, mg, E0⟩ te) vs s H Q := by
  obtain ⟨sg, al, S, kd, xd, rs, rl, q, up, ux⟩ := h
  refine ⟨sg, al, S, kLc g tt te (wipeD sg vs) kd, xd, rs, rl, q, fun it S1 al1 H1 J f1 iok q1 => ?_, ux⟩
  intro D hD
  have q1 : wLc it.grd g tt te (wipeD sg vs) S1.length (fun S' => kd (.ref S1.length) S') it.items (S1 ++ [.lst []]) := q1
  have fN : Fut K H1 al1 (upd H1 D (.lst [])) (al1 ++ [D]) (S1 ++ [.lst []]) := new_lst f1.rs hD rfl
  have aN : (al1 ++ [D])[S1.length]? = some D := by rw [← f1.rs.len]; simp
  refine ⟨fun i m H' => ∃ al' S', Fut K (upd H1 D (.lst [])) (al1 ++ [D]) H' al' S' ∧ wLc it.grd g tt te (wipeD sg vs) S1.length (fun S' => kd (.ref S1.length) S') (it.items.drop i) S' ∧ m = it.items.length - i ∧ i ≤ it.items.length, ⟨it.items.length, _, _, .now fN.rs, q1, by simp, Nat.zero_le _⟩, ?_⟩
  rintro i m H2 ⟨al2, S2, f2, w2, rfl, hi⟩
  by_cases hlt : i < it.items.length
  · rw [List.drop_eq_getElem_cons hlt] at w2
    obtain ⟨gr, w2⟩ := w2
    refine .inr ⟨iok.go i H2 al2 S2 (fN.trans f2) gr hlt, fun H' => ∃ m', m' < it.items.length - i ∧ ∃ al' S', Fut K (upd H1 D (.lst [])) (al1 ++ [D]) H' al' S' ∧ wLc it.grd g tt te (wipeD sg vs) S1.length (fun S' => kd (.ref S1.length) S') (it.items.drop (i + 1)) S' ∧ m' = it.items.length - (i + 1) ∧ i + 1 ≤ it.items.length, fun H' h => h, fun x H' hy => ?_⟩
    obtain ⟨f3, r3⟩ := iok.yld i _ H2 al2 S2 x H' (fN.trans f2) gr (List.getElem?_eq_getElem hlt) hy
    have fA := (f1.trans fN).trans (f2.trans f3)
    refine hw _ _ _ _ _ (fun s2 H2 e q => ⟨e.trans (wipe_wipe _ _), q⟩) (hl _ _ _ _ ⟨_, wipeD sg vs, al2, S2, _, XF, f3.rs, rsl_wipe (fA.rsl rl) vs, r3, w2, fun sg4 S4 al4 H4 sv4 f4 rl4 q4 => ?_, ux0⟩)
    refine ⟨sg4, al4, S4, _, XF, f4.rs, rl4, q4, fun b S5 al5 H5 f5 q5 => ite_of ⟨fun e => ?_, fun e => ?_⟩, ux0⟩
    · refine ⟨sg4, al5, S5, _, XF, f5.rs, f5.rsl rl4, q5.1 e, fun y S6 al6 H6 v6 f6 r6 q6 => ?_, ux0⟩
      obtain ⟨acc, ha, hz, q6⟩ := q6
      have fB := ((f2.trans f3).trans f4).trans (f5.trans f6)
      have a6 := getExt fB aN
      obtain ⟨us, e6, ru⟩ := f6.rs.ob _ _ _ ha a6
      refine ⟨us, e6, by rw [RDs.length ru]; exact hz, it.items.length - (i + 1), by omega, al6, _, fB.trans (set_lst f6.rs ha a6 (RDs.append ru (RDs.one r6))), q6, rfl, hlt⟩
    · exact ⟨it.items.length - (i + 1), by omega, al5, S5, ((f2.trans f3).trans f4).trans f5, q5.2 e, rfl, hlt⟩
  · have e : i = it.items.length := by omega
    subst e
    rw [List.drop_length] at w2
    obtain ⟨gr, w2⟩ := w2
    exact .inl ⟨iok.stop H2 al2 S2 (fN.trans f2) gr, up (.ref S1.length) S2 al2 H2 (.ref D) ((f1.trans fN).trans f2) ⟨D, rfl, getExt f2 aN⟩ w2⟩
theorem q_lc {elt iter : Expr} {ifs : List Expr} {scope : Scope} {own : List (Str × Nat)} {ti : TID} {tt : TTD} (hc : X.calm = true) (hN : X.N.Nodup) (hi : QI X E tg iter ti) (ok : BlkOk X.N X.env.scope scope own)
    (hg : ∀ (s : Shared) (H : Hp) (C : Addr) (cl : List (Str × Addr)) (fp : List Addr), QG (X.blk s H scope (compEnvC scope cl C X.env) fp) E0 tg g tV is) (ht : ∀ (s : Shared) (H : Hp) (C : Addr) (cl : List (Str × Addr)) (fp : List Addr), QTs (X.blk s H scope (compEnvC scope cl C X.env) fp) E0 ifs tt)
    (he : ∀ (s : Shared) (H : Hp) (C : Addr) (cl : List (Str × Addr)) (fp : List Addr), QE (X.blk s H scope (compEnvC scope cl C X.env) fp) E0 elt te) (his : is.all (own.map (·.2)).contains = true := by rfl) (hs : ∀ x, foldedSetIterable iter X.env x = pure x := by intro _; rfl) :
    QE X E (.ListComp elt [⟨tg, iter, ifs, 0⟩] scope pos) (dLc ti g tt te (own.map (·.2))) := by
  have hv : ∀ i ∈ is, i ∈ own.map (·.2) := fun i hi => by
    have q := List.all_eq_true.mp his i hi
    simpa using q
  refine pe_imp (pe_lc (te := LE ⟨X.K, X.mg, E0⟩ te) (tt := LT ⟨X.K, X.mg, E0⟩ tt) hc hN hi ok (fun s H C cl fp => (hg s H C cl fp).1) ht he hs) fun s H Q q => ?_
  have h0 := hg X.s_0 H 0 [] []
  exact lc_red (mg := X.mg) h0.2.1 (h0.2.2 _ hv) q
theorem q_setLc {i : Nat} {y : Str} {py : Pos} {spos : Pos} {elt iter : Expr} {ifs : List Expr} {scope : Scope} {own : List (Str × Nat)} {ti : TID} {tt : TTD} (hc : X.calm = true) (hN : X.N.Nodup) (hi : QI X E tg iter ti) (ok : BlkOk X.N X.env.scope scope own)
    (hg : ∀ (s : Shared) (H : Hp) (C : Addr) (cl : List (Str × Addr)) (fp : List Addr), QG (X.blk s H scope (compEnvC scope cl C X.env) fp) E0 tg g tV is) (ht : ∀ (s : Shared) (H : Hp) (C : Addr) (cl : List (Str × Addr)) (fp : List Addr), QTs (X.blk s H scope (compEnvC scope cl C X.env) fp) E0 ifs tt)
    (he : ∀ (s : Shared) (H : Hp) (C : Addr) (cl : List (Str × Addr)) (fp : List Addr), QE (X.blk s H scope (compEnvC scope cl C X.env) fp) E0 elt te) (hsw : swapsWith (.ListComp elt [⟨tg, iter, ifs, 0⟩] scope pos) (some (.Name y py)) spos.line X.env = pure true) (his : is.all (own.map (·.2)).contains = true := by rfl)
    (hy : X.N[i]? = some y := by rfl) (hyl : X.env.scope.names.lookup y = some .local := by rfl) (hs : ∀ x, foldedSetIterable iter X.env x = pure x := by intro _; rfl) :
    QS X E (.Assign [.Name y py] (.ListComp elt [⟨tg, iter, ifs, 0⟩] scope pos) spos) (dSet i (dLc ti g tt te (own.map (·.2)))) := by
  have hv : ∀ i ∈ is, i ∈ own.map (·.2) := fun i hi => by
    have q := List.all_eq_true.mp his i hi
    simpa using q
  refine ps_imp (ps_setLc (te := LE ⟨X.K, X.mg, E0⟩ te) (tt := LT ⟨X.K, X.mg, E0⟩ tt) hc hN hy hyl hsw hi ok (fun s H C cl fp => (hg s H C cl fp).1) ht he hs) fun De s H ⟨sg, al, S, Dd, rs, rl, q, ue⟩ => ?_
  have h0 := hg X.s_0 H 0 [] []
  exact lc_red (mg := X.mg) (E := E) h0.2.1 (h0.2.2 _ hv) ⟨sg, al, S, kSet i Dd sg, Dd.ex, rs, rl, q, fun d S1 al1 H1 v f1 r1 q1 => ue.nx _ S1 al1 H1 _ f1 (rsl_set (f1.rsl rl) r1 i) q1, ue.ex⟩
end

/-! ### what a call gives back: garbage dropped -/
mutual
def mapR (f : Nat → Nat) : D → D
  | .non => .non
  | .bl b => .bl b
  | .int i => .int i
  | .str x => .str x
  | .tup ds => .tup (mapRs f ds)
  | .ref n => .ref (f n)
def mapRs (f : Nat → Nat) : List D → List D
  | [] => []
  | d :: ds => mapR f d :: mapRs f ds
end
mutual
def clD (m : Nat) : D → Prop
  | .tup ds => clDs m ds
  | .ref n => n < m
  | _ => True
def clDs (m : Nat) : List D → Prop
  | [] => True
  | d :: ds => clD m d ∧ clDs m ds
end
def clKs (m : Nat) : List (Key × D) → Prop
  | [] => True
  | d :: ds => clD m d.2 ∧ clKs m ds
def mapO (f : Nat → Nat) : O → O
  | .lst ds => .lst (mapRs f ds)
  | .ro ds => .ro (mapRs f ds)
  | .dic kvs => .dic (kvs.map fun p => (p.1, mapR f p.2))
  | .exo x d => .exo x (mapR f d)
  | .oth => .oth
def clO (m : Nat) : O → Prop
  | .lst ds => clDs m ds
  | .ro ds => clDs m ds
  | .dic kvs => clKs m kvs
  | .exo _ d => clD m d
  | .oth => True
def clS (S : Sto) : Prop := ∀ (k : Nat) (o : O), S[k]? = some o → clO S.length o
structure Wk (n : Nat) (f : Nat → Nat) (d : D) (S' : Sto) (d' : D) (S'' : Sto) : Prop where
  low : ∀ k, k < n → f k = k
  le : n ≤ S''.length
  inj : ∀ i j, i < S''.length → j < S''.length → f i = f j → i = j
  ob : ∀ (k : Nat) (o : O), S''[k]? = some o → clO S''.length o ∧ S'[f k]? = some (mapO f o)
  d : d = mapR f d'
  cl : clD S''.length d'
/-- what a def's caller gets: the store without what is new and out of reach -/
def wk (n : Nat) (kd : KD) : KD := fun d S' => kd d S' ∨ ∃ f d' S'', Wk n f d S' d' S'' ∧ kd d' S''
def wkX (n : Nat) (xd : XD) : XD := fun ex S' => xd ex S' ∨ ∃ f d' S'', Wk n f ex.2 S' d' S'' ∧ xd (ex.1, d') S''
section
variable {K : PySem.W.Frag} {H : Hp} {al ae : List Addr} {f : Nat → Nat} {m : Nat}
mutual
theorem rd_map (h : ∀ k, k < m → ae[k]? = al[f k]?) : ∀ (d : D) (v : V), RD K H al (mapR f d) v → clD m d → RD K H ae d v
  | .non, _, r, _ => r
  | .bl _, _, r, _ => r
  | .int _, _, r, _ => r
  | .str _, _, r, _ => r
  | .tup ds, _, ⟨a, vs, e, hs, r⟩, c => ⟨a, vs, e, hs, rds_map h ds vs r c⟩
  | .ref n, _, ⟨a, e, r⟩, c => ⟨a, e, (h n c).trans r⟩
theorem rds_map (h : ∀ k, k < m → ae[k]? = al[f k]?) : ∀ (ds : List D) (vs : List V), RDs K H al (mapRs f ds) vs → clDs m ds → RDs K H ae ds vs
  | [], _, r, _ => r
  | d :: ds, _, ⟨v, u, e, r1, r2⟩, c => ⟨v, u, e, rd_map h d v r1 c.1, rds_map h ds u r2 c.2⟩
end
theorem rks_map (h : ∀ k, k < m → ae[k]? = al[f k]?) : ∀ (ds : List (Key × D)) (vs : List (Key × V)), RKs K H al (ds.map fun p => (p.1, mapR f p.2)) vs → clKs m ds → RKs K H ae ds vs
  | [], _, r, _ => r
  | d :: ds, _, ⟨v, u, e, r1, r2⟩, c => ⟨v, u, e, rd_map h d.2 v r1 c.1, rks_map h ds u r2 c.2⟩
theorem ro_map (h : ∀ k, k < m → ae[k]? = al[f k]?) {o : O} {a : Addr} (r : RO K H al (mapO f o) a) (c : clO m o) : RO K H ae o a := by
  cases o with
  | lst ds => obtain ⟨vs, e, r⟩ := r; exact ⟨vs, e, rds_map h ds vs r c⟩
  | ro ds => obtain ⟨vs, e, r⟩ := r; exact ⟨vs, e, rds_map h ds vs r c⟩
  | dic ds => obtain ⟨vs, e, r⟩ := r; exact ⟨vs, e, rks_map h ds vs r c⟩
  | exo x d => obtain ⟨b, dx, v, e, e2, r⟩ := r; exact ⟨b, dx, v, e, e2, rd_map h d v r c⟩
  | oth => trivial
mutual
theorem rd_cl : ∀ (d : D) (v : V), RD K H al d v → clD al.length d
  | .non, _, _ => trivial
  | .bl _, _, _ => trivial
  | .int _, _, _ => trivial
  | .str _, _, _ => trivial
  | .tup ds, _, ⟨a, vs, e, hs, r⟩ => rds_cl ds vs r
  | .ref n, _, ⟨a, e, r⟩ => (List.getElem?_eq_some_iff.mp r).1
theorem rds_cl : ∀ (ds : List D) (vs : List V), RDs K H al ds vs → clDs al.length ds
  | [], _, _ => trivial
  | d :: ds, _, ⟨v, u, e, r1, r2⟩ => ⟨rd_cl d v r1, rds_cl ds u r2⟩
end
theorem rks_cl : ∀ (ds : List (Key × D)) (vs : List (Key × V)), RKs K H al ds vs → clKs al.length ds
  | [], _, _ => trivial
  | d :: ds, _, ⟨v, u, e, r1, r2⟩ => ⟨rd_cl d.2 v r1, rks_cl ds u r2⟩
theorem rs_cl {S : Sto} (r : RS K H al S) : clS S := fun k o e => by
  have hk : k < al.length := by rw [r.len]; exact (List.getElem?_eq_some_iff.mp e).1
  have q := r.ob k o _ e (List.getElem?_eq_getElem hk)
  rw [← r.len]
  cases o with
  | lst ds => obtain ⟨vs, _, r1⟩ := q; exact rds_cl ds vs r1
  | ro ds => obtain ⟨vs, _, r1⟩ := q; exact rds_cl ds vs r1
  | dic ds => obtain ⟨vs, _, r1⟩ := q; exact rks_cl ds vs r1
  | exo x d => obtain ⟨_, dx, v, _, _, r1⟩ := q; exact rd_cl d v r1
  | oth => trivial
theorem mapO_mu (f : Nat → Nat) (o : O) : (mapO f o).mu = o.mu := by cases o <;> rfl
/-- the store weakened -/
theorem fut_wk {H0 : Hp} {al0 : List Addr} {S' S'' : Sto} {d d' : D} (w : Wk al0.length f d S' d' S'') (fu : Fut K H0 al0 H al S') : ∃ ae, Fut K H0 al0 H ae S'' ∧ (∀ k, k < S''.length → ae[k]? = al[f k]?) := by
  obtain ⟨t, et⟩ := fu.ext
  have hlt : ∀ k, k < S''.length → f k < al.length := fun k hk => by
    rw [fu.rs.len]
    exact (List.getElem?_eq_some_iff.mp (w.ob k _ (List.getElem?_eq_getElem hk)).2).1
  refine ⟨(List.range S''.length).map fun k => al.getD (f k) 0, ?_, ?_⟩
  case refine_2 =>
    intro k hk
    rw [List.getElem?_map, List.getElem?_range hk, List.getElem?_eq_getElem (hlt k hk)]
    simp [List.getD, List.getElem?_eq_getElem (hlt k hk)]
  have hget : ∀ k, k < S''.length → ((List.range S''.length).map fun k => al.getD (f k) 0)[k]? = al[f k]? := by
    intro k hk
    rw [List.getElem?_map, List.getElem?_range hk, List.getElem?_eq_getElem (hlt k hk)]
    simp [List.getD, List.getElem?_eq_getElem (hlt k hk)]
  have hlen : ((List.range S''.length).map fun k => al.getD (f k) 0).length = S''.length := by simp
  refine ⟨⟨((List.range S''.length).map fun k => al.getD (f k) 0).drop al0.length, ?_⟩, fu.keep, hlen, fun n k o u a e1 e2 m1 m2 a1 a2 => ?_, fun k o a e1 a1 => ?_⟩
  · refine List.ext_getElem? fun k => ?_
    by_cases hk : k < al0.length
    · rw [List.getElem?_append_left hk, hget k (Nat.lt_of_lt_of_le hk w.le), w.low k hk, et, List.getElem?_append_left hk]
    · rw [List.getElem?_append_right (by omega), List.getElem?_drop]
      congr 1
      omega
  · have hn : n < S''.length := (List.getElem?_eq_some_iff.mp e1).1
    have hk : k < S''.length := (List.getElem?_eq_some_iff.mp e2).1
    rw [hget n hn] at a1
    rw [hget k hk] at a2
    exact w.inj n k hn hk (fu.rs.nd (f n) (f k) _ _ a (w.ob n o e1).2 (w.ob k u e2).2 ((mapO_mu f o).trans m1) ((mapO_mu f u).trans m2) a1 a2)
  · have hk : k < S''.length := (List.getElem?_eq_some_iff.mp e1).1
    have a1' := a1
    rw [hget k hk] at a1'
    obtain ⟨c, e2⟩ := w.ob k o e1
    exact ro_map hget (fu.rs.ob (f k) _ a e2 a1') c
theorem up_wk {H0 : Hp} {al0 : List Addr} {kd : KD} {Q : VK} (up : Up K H0 al0 kd Q) : Up K H0 al0 (wk al0.length kd) Q := fun d S' al' H' v fu r h => by
  rcases h with h | ⟨f, d', S'', w, h⟩
  · exact up d S' al' H' v fu r h
  · obtain ⟨ae, f2, hg⟩ := fut_wk w fu
    refine up d' S'' ae H' v f2 (rd_map hg d' v ?_ w.cl) h
    rw [← w.d]
    exact r
theorem ux_wk {Y : Cy} {H0 : Hp} {al0 : List Addr} {xd : XD} (ux : UpX Y H0 al0 xd) : UpX Y H0 al0 (wkX al0.length xd) := fun ex S' al' H' cls d fu r h => by
  rcases h with h | ⟨f, d', S'', w, h⟩
  · exact ux ex S' al' H' cls d fu r h
  · obtain ⟨ae, f2, hg⟩ := fut_wk w fu
    obtain ⟨b, dx, v, e1, e3, e4, r⟩ := r
    refine ux (ex.1, d') S'' ae H' cls d f2 ⟨b, dx, v, e1, e3, e4, rd_map hg d' v ?_ w.cl⟩ h
    rw [← w.d]
    exact r
end

/-! ### THE RULE for a def -/
def startD (n : Nat) (ds : List D) : Sl := ds.map some ++ List.replicate (n - ds.length) none
theorem rsl_start {K : PySem.W.Frag} {H : Hp} {al : List Addr} {N : List Str} {ds : List D} {vs : List V} (r : RDs K H al ds vs) : RSl K H al (startD N.length ds) (L2.start N vs) := by
  refine ⟨by unfold startD L2.start; simp [RDs.length r], fun i d e => ?_⟩
  unfold startD at e
  by_cases hi : i < ds.length
  · rw [List.getElem?_append_left (by simpa using hi), List.getElem?_map] at e
    cases q : ds[i]? with
    | none => rw [q] at e; cases e
    | some d' =>
      rw [q] at e
      have e' : some d' = some d := Option.some.inj e
      cases e'
      obtain ⟨v, hv, rv⟩ := RDs.get r q
      refine ⟨v, ?_, rv⟩
      unfold L2.start
      rw [List.getElem?_append_left (by rw [List.length_map, RDs.length r]; exact hi), List.getElem?_map, hv]
      rfl
  · rw [List.getElem?_append_right (by simpa using hi), List.getElem?_replicate] at e
    split at e <;> cases e
/-- the end of a def's body -/
def endsD (n : Nat) (kd : KD) (xd : XD) : EndsD := ⟨fun _ S' => wk n kd .non S', wk n kd, fun _ _ => False, fun _ _ => False, wkX n xd⟩
section
variable {P : Program} {w : World} {K : PySem.W.Frag} {mg : Str → Option Value} {base : Heap} {x qual : Str} {params : Arguments} {body : List Stmt} {scope : Scope} {f : Addr} {fd : FuncData} {N ps : List Str} {k : Nat} {sp : SpD} {t : TSD}
/-- a body's reading keeps a promise -/
def Keeps (m : Nat) (N : Nat) (t : TSD) (sp : SpD) : Prop := ∀ ds S kd xd, ds.length = m → clS S → clDs S.length ds → sp ds S kd xd → t (endsD S.length kd xd) (startD N ds) S
theorem def_ok (F : FunD K x qual params body scope [] [] f fd) (S : FnScope N ps scope)
    (hbody : ∀ (cdv : Value) (A : Around) (outer : List Env) (s : Shared) (H : Hp) (E : XK), Room k (A.deeper (envOfC qual scope s.heap.objs.size f cdv)) → QSs (cxOf (L2.CX P w) P w K mg base N qual scope f cdv A outer s H E) E body t)
    (hsp : Keeps ps.length N.length t sp) : FnOk P w K mg base (L2.CX P w) (k + 1) f fd ps (LP K mg ps.length sp) := by
  refine F.ok S (fun vs H Q E h => h.1) fun cdv A outer s H vs Q E hr h => ?_
  obtain ⟨hl, ds, al, S0, kd, xd, rs, rd, q, up, ux⟩ := h
  refine ⟨_, hbody cdv A outer s H E hr, startD N.length ds, al, S0, endsD S0.length kd xd, rs, rsl_start rd, hsp ds S0 kd xd (by rw [← RDs.length rd]; exact hl) (rs_cl rs) (by rw [← rs.len]; exact rds_cl ds vs rd) q, ?_⟩
  rw [← rs.len]
  exact ⟨fun sg S' al' H' sv f1 r1 q1 => up_wk up .non S' al' H' .non f1 rfl q1, up_wk up, fun sg S' al' H' sv f1 r1 q1 => q1.elim, fun sg S' al' H' sv f1 r1 q1 => q1.elim, ux_wk ux⟩
end
/-! ### the law's end -/
theorem rol_only {K : PySem.W.Frag} {H : Hp} {a : Addr} {vs : List V} (o : Only H) (h : SqL K H a vs) : RoL K H a vs := by
  rcases h with (h | h) | h
  · rcases o a with z | ⟨ob, xs, z⟩
    · rw [z] at h; cases h
    · rw [z] at h; cases h
  · exact .inl h
  · exact .inr h
theorem law_sp {K : PySem.W.Frag} {mg : Str → Option Value} {sp : SpD} {H : Hp} {a : Addr} {ns : List Int} (o : Only H) (h : SqL K H a (ns.map V.int)) (q : sp [.ref 0] [.ro (ns.map D.int)] (fun d _ => d = .bl true) XF) :
    LP K mg 1 sp [.ref a] H (fun v _ => v = .bl true) (fun _ _ _ => False) := by
  refine ⟨rfl, [.ref 0], [a], [.ro (ns.map D.int)], _, XF, ⟨rfl, fun n m o u b e1 e2 m1 m2 a1 a2 => ?_, fun n ob b e1 e2 => ?_⟩, ⟨.ref a, [], rfl, ⟨a, rfl, rfl⟩, rfl⟩, q, fun d S' al' H' v f r e => ?_, fun ex S' al' H' cls d f r e => e.elim⟩
  · match n with
    | 0 => cases e1; cases m1
    | n + 1 => simp at e1
  · match n with
    | 0 =>
      cases e1
      cases e2
      exact ⟨_, rol_only o h, ints_rd ns⟩
    | n + 1 => simp at e1
  · cases (show d = .bl true from e)
    exact r
end Q
namespace Q
open PySem
open Spec PyProof.Rows L2

/-! ### calls with keywords, without arguments -/
def pick {α : Type} (idx : List Nat) (ws : List α) : List α := idx.filterMap fun j => ws[j]?
theorem pick_vals {idx : List Nat} {zs : List V} {ws : List Value} (r : Vals zs ws) : Vals (pick idx zs) (pick idx ws) := by
  unfold pick
  induction idx with
  | nil => exact .nil
  | cons j idx ih =>
    rw [List.filterMap_cons, List.filterMap_cons]
    cases e : zs[j]? with
    | none =>
      have e2 := r.none_of e
      rw [e2]
      exact ih
    | some v =>
      obtain ⟨u, e2, rv⟩ := r.get e
      rw [e2]
      exact .cons rv ih
theorem pick_rds {K : PySem.W.Frag} {H : Hp} {al : List Addr} {idx : List Nat} {ds : List D} {vs : List V} (r : RDs K H al ds vs) : RDs K H al (pick idx ds) (pick idx vs) := by
  unfold pick
  induction idx with
  | nil => exact rfl
  | cons j idx ih =>
    rw [List.filterMap_cons, List.filterMap_cons]
    cases e : ds[j]? with
    | none =>
      have e2 : vs[j]? = none := by
        rw [List.getElem?_eq_none_iff] at e ⊢
        rw [RDs.length r]
        exact e
      rw [e2]
      exact ih
    | some d =>
      obtain ⟨v, e2, rv⟩ := RDs.get r e
      rw [e2]
      exact ⟨v, _, rfl, rv, ih⟩
/-- how a call with keywords binds -/
structure KB (K : PySem.W.Frag) (fd : FuncData) (ps : List Str) (n : Nat) (ks : List Str) (idx : List Nat) : Prop where
  to : ∀ (s : Shared) (us ws : List Value), us.length = n → ws.length = ks.length → BindsTo s fd ⟨us, ks.zip ws⟩ (ps.zip (us ++ pick idx ws))
theorem kb_of {K : PySem.W.Frag} {x qual : Str} {params : Arguments} {body : List Stmt} {scope : Scope} {f : Addr} {fd : FuncData} {ps : List Str} (F : FunD K x qual params body scope [] [] f fd) (n : Nat) (ks : List Str) (idx : List Nat)
    (h : ∀ (kV doc pm : Value) (an : Option Addr) (cdv ct : Value) (us ws : List Value), us.length = n → ws.length = ks.length → bindArgs (PySem.W.fnOf x qual params body scope .none kV doc pm an cdv ct) ⟨us, ks.zip ws⟩ = pure (ps.zip (us ++ pick idx ws))) : KB K fd ps n ks idx := by
  obtain ⟨_, _, dV, kV, doc, pm, an, cdv, ct, _, rfl, _, _, ⟨_, rfl⟩ | ⟨e, _⟩, _⟩ := F.ex
  · exact ⟨fun s us ws l1 l2 => .of_eq (h kV doc pm an cdv ct us ws l1 l2)⟩
  · exact (e rfl).elim
def kCK2 (r : SpD) (n m : Nat) (idx : List Nat) (k : KD) (x : XD) (ds : List D) : List D → Sto → Prop := fun zs S => ds.length = n ∧ zs.length = m ∧ r (ds ++ pick idx zs) S k x
def kCK1 (r : SpD) (n m : Nat) (idx : List Nat) (tk : TAD) (sg : Sl) (k : KD) (x : XD) : List D → Sto → Prop := fun ds S => tk sg S (kCK2 r n m idx k x ds) x
def dCallK (r : SpD) (n m : Nat) (idx : List Nat) (t tk : TAD) : TED := fun sg S k x => t sg S (kCK1 r n m idx tk sg k x) x
section
variable {X : Cx} {E : XK} {e : Expr} {es : List Expr} {te : TED} {tr tk : TAD} {pos p kpos : Pos} {kws : List Keyword} {nm : Option Str}
abbrev QK (X : Cx) (E : XK) (kws : List Keyword) (t : TAD) : Prop := PK X kws (LA (cy X E) t)
theorem pk_imp {t t' : TA} (h : PK X kws t) (f : ∀ s H Q, t' s H Q → t s H Q) : PK X kws t' := ⟨fun pos pins s σ H Q I q => h.run pos pins s σ H Q I (f σ H Q q)⟩
theorem q_knil : QK X E [] dNil := pk_imp pk_nil fun s H Q ⟨sg, al, S, kd, xd, rs, rl, q, up, ux⟩ => up [] S al H [] (.now rs) rfl q
theorem q_kcons (ha : QE X E e te) (hr : QK X E kws tr) : QK X E (⟨nm, e, kpos⟩ :: kws) (dCons te tr) :=
  pk_imp (pk_cons ha hr) fun s H Q ⟨sg, al, S, kd, xd, rs, rl, q, up, ux⟩ => ⟨sg, al, S, kCons1 tr sg kd xd, xd, rs, rl, q, fun d S1 al1 H1 v f1 r1 q1 =>
    ⟨sg, al1, S1, kCons2 kd d, xd, f1.rs, f1.rsl rl, q1, fun ds S2 al2 H2 vs f2 r2 q2 => up (d :: ds) S2 al2 H2 (v :: vs) (f1.trans f2) ⟨v, vs, rfl, f2.rd r1, r2⟩ q2, ux.mono f1⟩, ux⟩
variable {k n : Nat} {f : Addr} {fd : FuncData} {ps ks : List Str} {sp : SpD} {x : Str} {idx : List Nat}
theorem runK {pins : List (Addr × Obj)} {σ : L2.St} {H : Hp} {s : Shared} {Q : VK} {us ws : List Value} {vs zs : List V} (F : FnOk X.prog X.w X.K X.mg X.base (L2.CX X.prog X.w) k f fd ps (LP X.K X.mg ps.length sp)) (hr : Room k X.A) (hb : KB X.K fd ps n ks idx) (hx : Passes (L2.CX X.prog X.w) X E)
    (I : Inv X pins σ H s) (r : Vals vs us) (rz : Vals zs ws) (l1 : vs.length = n) (l2 : zs.length = ks.length) (h : LP X.K X.mg ps.length sp (vs ++ pick idx zs) H Q E) : wpAny (model X.prog X.w) X.A (call (.ref f) us (ks.zip ws)) (EP X pins σ Q) X.xe s := by
  have r2 := r.append (pick_vals (idx := idx) rz)
  refine wpAny_call (codeAny_mono (F.run X.A X.stack s H ⟨us, ks.zip ws⟩ (us ++ pick idx ws) (vs ++ pick idx zs) Q E hr I.env0 (hb.to s us ws (r.length.symm.trans l1) (rz.length.symm.trans l2)) r2 h) ?_)
  intro r s' hq
  match r, hq with
  | .error e, hq => exact hx pins σ H s e s' I hq
  | .ok (.ret u), hq => exact I.after hq
  | .ok .next, hq => exact hq.elim
  | .ok .brk, hq => exact hq.elim
  | .ok .cont, hq => exact hq.elim
theorem q_callK (F : FnOk X.prog X.w X.K X.mg X.base (L2.CX X.prog X.w) k f fd ps (LP X.K X.mg ps.length sp)) (hr : Room k X.A) (hg : Gl X x) (hm : X.mg x = some (.ref f)) (hk : PySem.W.keepIn X.K (.ref f) = true) (hb : KB X.K fd ps n ks idx) (hx : Passes (L2.CX X.prog X.w) X E)
    (ha : QA X E (e :: es) tr) (hkw : QK X E kws tk) (hall : (backToKw pos (keywordEach kws X.env)).all (·.1.isSome) = true := by rfl) (hks : (backToKw pos (keywordEach kws X.env)).filterMap (·.1) = ks := by rfl) (hdb : (x == ("__debug__" : Str)) = false := by decide) (he : starEach (e :: es) X.env = (false, eval e X.env) :: starEach es X.env := by rfl) (hpl : ((backTo pos (starEach (e :: es) X.env)).any (·.1) || (backToKw pos (keywordEach kws X.env)).any (·.1.isNone)) = false := by rfl) :
    QE X E (.Call (.Name x p) (e :: es) kws pos) (dCallK (spN ps.length sp) n ks.length idx tr tk) := by
  constructor
  rintro pins s σ H Q I ⟨sg, al, S, kd, xd, rs, rl, q, up, ux⟩
  refine wpAny_Call_Name_kw <| ld_glob I hg hm (PySem.W.callWith_KW (h₀ := X.base) I.ok.mod.kin hk hall (thn (ha.run pos pins s σ H (fun vs H1 => ∃ ds al1 S1, Fut X.K H al H1 al1 S1 ∧ RDs X.K H1 al1 ds vs ∧ kCK1 (spN ps.length sp) n ks.length idx tk sg kd xd ds S1) I
    ⟨sg, al, S, _, xd, rs, rl, q, fun ds S1 al1 H1 vs f1 r1 q1 => ⟨ds, al1, S1, f1, r1, q1⟩, ux⟩) fun us s1 ⟨vs, H1, I1, r, ds, al1, S1, f1, r1, q1⟩ => ?_) hpl he) hdb
  refine thn (hkw.run pos pins s1 σ H1 (fun zs H2 => ∃ es al2 S2, Fut X.K H1 al1 H2 al2 S2 ∧ RDs X.K H2 al2 es zs ∧ kCK2 (spN ps.length sp) n ks.length idx kd xd ds es S2) I1
    ⟨sg, al1, S1, _, xd, f1.rs, f1.rsl rl, q1, fun es S2 al2 H2 vs f2 r2 q2 => ⟨es, al2, S2, f2, r2, q2⟩, ux.mono f1⟩) fun ws s2 ⟨zs, H2, I2, rz, es, al2, S2, f2, r2, l1, l2, q2⟩ => ⟨I2.kIn, ?_⟩
  rw [hks]
  exact runK F hr hb hx I2 r rz (by rw [RDs.length r1]; exact l1) (by rw [RDs.length r2]; exact l2)
    ⟨by rw [RDs.length (RDs.append (f2.rds r1) (pick_rds r2))]; exact q2.1, ds ++ pick idx es, al2, S2, kd, xd, f2.rs, RDs.append (f2.rds r1) (pick_rds r2), q2.2, up.mono (f1.trans f2), ux.mono (f1.trans f2)⟩
theorem q_callK0 (F : FnOk X.prog X.w X.K X.mg X.base (L2.CX X.prog X.w) k f fd ps (LP X.K X.mg ps.length sp)) (hr : Room k X.A) (hg : Gl X x) (hm : X.mg x = some (.ref f)) (hk : PySem.W.keepIn X.K (.ref f) = true) (hb : KB X.K fd ps 0 ks idx) (hx : Passes (L2.CX X.prog X.w) X E)
    (hkw : QK X E kws tk) (hall : (backToKw pos (keywordEach kws X.env)).all (·.1.isSome) = true := by rfl) (hks : (backToKw pos (keywordEach kws X.env)).filterMap (·.1) = ks := by rfl) (hdb : (x == ("__debug__" : Str)) = false := by decide) (hpl : ((backTo pos (starEach [] X.env)).any (·.1) || (backToKw pos (keywordEach kws X.env)).any (·.1.isNone)) = false := by rfl) :
    QE X E (.Call (.Name x p) [] kws pos) (dCallK (spN ps.length sp) 0 ks.length idx dNil tk) := by
  constructor
  rintro pins s σ H Q I ⟨sg, al, S, kd, xd, rs, rl, q, up, ux⟩
  refine wpAny_Call_Name_kw <| ld_glob I hg hm (PySem.W.callWith_KW0 (h₀ := X.base) I.ok.mod.kin hk hall ?_ hpl) hdb
  refine thn (hkw.run pos pins s σ H (fun zs H2 => ∃ es al2 S2, Fut X.K H al H2 al2 S2 ∧ RDs X.K H2 al2 es zs ∧ kCK2 (spN ps.length sp) 0 ks.length idx kd xd [] es S2) I
    ⟨sg, al, S, _, xd, rs, rl, q, fun es S2 al2 H2 vs f2 r2 q2 => ⟨es, al2, S2, f2, r2, q2⟩, ux⟩) fun ws s2 ⟨zs, H2, I2, rz, es, al2, S2, f2, r2, l1, l2, q2⟩ => ⟨I2.kIn, ?_⟩
  rw [hks]
  exact runK F hr hb hx I2 (vs := []) .nil rz rfl (by rw [RDs.length r2]; exact l2)
    ⟨by have := RDs.length (pick_rds (idx := idx) r2); rw [List.nil_append, this]; exact q2.1, [] ++ pick idx es, al2, S2, kd, xd, f2.rs, pick_rds r2, q2.2, up.mono f2, ux.mono f2⟩
theorem q_call0 (F : FnOk X.prog X.w X.K X.mg X.base (L2.CX X.prog X.w) k f fd ps (LP X.K X.mg n sp)) (hr : Room k X.A) (hg : Gl X x) (hm : X.mg x = some (.ref f)) (hk : PySem.W.keepIn X.K (.ref f) = true) (hb : Binds X.K fd ps []) (hx : Passes (L2.CX X.prog X.w) X E)
    (hdb : (x == ("__debug__" : Str)) = false := by decide) :
    QE X E (.Call (.Name x p) [] [] pos) (dCall (spN n sp) dNil) :=
  pe_imp (pe_call0 (dvs := []) F hr hg hm hk hb .nil hx hdb) fun s H Q ⟨sg, al, S, kd, xd, rs, rl, q, up, ux⟩ =>
    ⟨q.1, [], al, S, kd, xd, rs, rfl, q.2, up, ux⟩
/-- no exception is wished for: inside a comprehension -/
theorem passE0 : Passes (L2.CX X.prog X.w) X E0 := passL
end
end Q
namespace Q
open PySem
open Spec PyProof.Rows L2

/-- a def of the text, known to a caller -/
structure FT (P : Program) (w : World) (K : PySem.W.Frag) (mg : Str → Option Value) (base : Heap) (x : Str) (k : Nat) (ps : List Str) (sp : SpD) (f : Addr) (fd : FuncData) : Prop where
  ok : FnOk P w K mg base (L2.CX P w) k f fd ps (LP K mg ps.length sp)
  hm : mg x = some (.ref f)
  hk : PySem.W.keepIn K (.ref f) = true
  hb : Binds K fd ps []
section
variable {P : Program} {w : World} {K : PySem.W.Frag} {mg : Str → Option Value} {base : Heap} {N : List Str} {qual : Str} {scope : Scope} {f : Addr} {cd : Value} {A : Around} {outer : List Env} {s : Shared} {H : Hp} {E : XK}
theorem takes_cx : Takes (cxOf (L2.CX P w) P w K mg base N qual scope f cd A outer s H E) (fun c d _ H => E c d H) := takes_of rfl rfl rfl rfl
theorem pass_cx : Passes (L2.CX P w) (cxOf (L2.CX P w) P w K mg base N qual scope f cd A outer s H E) E := passes_call takes_cx fun _ _ _ _ h => h
theorem own_cx : PassesOwn (model P w) (cxOf (L2.CX P w) P w K mg base N qual scope f cd A outer s H E).A (cxOf (L2.CX P w) P w K mg base N qual scope f cd A outer s H E).env (cxOf (L2.CX P w) P w K mg base N qual scope f cd A outer s H E).xe := passes_of rfl
end
def GlOk (mg : Str → Option Value) (x : Str) (u : Value) (d : D) : Prop := mg x = some u ∧ ((∃ i, d = .int i ∧ RelV (.int i) u) ∨ ∃ z, d = .str z ∧ RelV (.str z) u)
theorem gl_int {mg : Str → Option Value} {x : Str} {i : Int} (h : ∃ t, mg x = some (.int i t)) : ∃ u, GlOk mg x u (.int i) := by
  obtain ⟨t, e⟩ := h
  exact ⟨_, e, .inl ⟨i, rfl, t, rfl⟩⟩
theorem gl_str {mg : Str → Option Value} {x z : Str} (h : ∃ t, mg x = some (.str z t)) : ∃ u, GlOk mg x u (.str z) := by
  obtain ⟨t, e⟩ := h
  exact ⟨_, e, .inr ⟨z, rfl, t, rfl⟩⟩
/-- a module's name for a built-in function -/
theorem q_callBf {X : Cx} {E : XK} {e : Expr} {es : List Expr} {tr : TAD} {pos p : Pos} {x : Str} {id : String} {r : SpD} (hc : CallR X (.builtin id) (LLs (cy X E) r)) (hm : X.mg x = some (.builtin id)) (ha : QA X E (e :: es) tr) (hg : Gl X x := by rfl) (hdb : (x == ("__debug__" : Str)) = false := by decide)
    (h1 : starEach (e :: es) X.env = (false, eval e X.env) :: starEach es X.env := by rfl) (h2 : (backTo pos (starEach es X.env)).any (·.1) = false := by rfl) : QE X E (.Call (.Name x p) (e :: es) [] pos) (dCall r tr) :=
  pe_imp (pe_callBfun hc hg hm ha hdb h1 h2) fun s H Q q => lls q
def spGcd : SpD := fun ds S k _ => match ds with
  | [.int i, .int j] => k (.int ((Nat.gcd i.natAbs j.natAbs : Nat) : Int)) S
  | _ => False
theorem c_gcd {X : Cx} {E : XK} : CallR X (.builtin "math.gcd") (LLs (cy X E) spGcd) := by
  intro pins s σ H xs us Q I r ⟨ds, al, S, kd, xd, rs, rd, q, up, ux⟩
  unfold spGcd at q
  split at q
  · obtain ⟨v, v', e, rv, rv'⟩ := rds2 rd
    cases (show v = _ from rv)
    cases (show v' = _ from rv')
    subst e
    exact cr_gcd pins s σ H _ us Q I r ⟨_, _, rfl, up_at up rs (d := .int _) rfl q⟩
  · exact q.elim
/-! ### the hook: what stands at the head, with the module's names of built-in things -/
def bfB (K : PySem.W.Frag) (p : Str × Value) : Bool := He.eqO (PySem.W.nsIn K mainGlobals p.1) (some (some p.2))
theorem bf_ok {K : PySem.W.Frag} {h : Heap} {mg : Str → Option Value} (X : K.In h) (G : h.Ns mainGlobals mg) {x : Str} {u : Value} (c : bfB K (x, u) = true) : mg x = some u := PySem.W.mg_of X G (He.eqO_ok c)
abbrev AlB : Type := Bool × He.AlD
def obsB (bf : List (Str × Value)) (fa : List He.Fa) (fn : List He.DefD) (K : PySem.W.Frag) : AlB := (bf.all (bfB K), He.obsD fa fn K)
def SaysB (bf : List (Str × Value)) (fa : List He.Fa) (fn : List He.DefD) (K : PySem.W.Frag) : Prop := bf.all (bfB K) = true ∧ He.SaysD fa fn K
def obsBG (n : Nat) (bf : List (Str × Value)) (fa : List He.Fa) (fn : List He.DefD) (g : Addr → Option Obj) : AlB := obsB bf fa fn (He.frG g (He.asD g n))
def hookB (n : Nat) (bf : List (Str × Value)) (fa : List He.Fa) (fn : List He.DefD) : PySem.W.Hook where
  α := AlB
  obs s := obsBG n bf fa fn s.heap.get?
  val _ := (true, He.valD fn)
  says _ h := ∃ K : PySem.W.Frag, K.In h ∧ SaysB bf fa fn K
  of _ _ e := ⟨_, He.frG_in, congrArg (fun z : AlB => z.1) e, congrArg (fun z : AlB => z.2) e⟩
  keeps _ _ _ := fun ⟨K, hK, c⟩ k => ⟨K, PySem.W.Frag.In.keeps hK k, c⟩
theorem obsBG_eq {n : Nat} {bf : List (Str × Value)} {fa : List He.Fa} {fn : List He.DefD} {g : Addr → Option Obj} {s : Shared} (h : ∀ a, g a = s.heap.get? a) : obsBG n bf fa fn g = (hookB n bf fa fn).obs s :=
  (congrArg (obsBG n bf fa fn) (funext h : g = s.heap.get?)).trans rfl
theorem SaysB.bf {bf : List (Str × Value)} {fa : List He.Fa} {fn : List He.DefD} {K : PySem.W.Frag} (c : SaysB bf fa fn K) (i : Nat) {p : Str × Value} (h : bf[i]? = some p := by rfl) : bfB K p = true := List.all_eq_true.mp c.1 p (List.mem_of_getElem? h)
theorem q_glb {X : Cx} {E : XK} {x : Str} {u : Value} {d : D} {pos : Pos} (g : GlOk X.mg x u d) (hg : Gl X x := by rfl) (hd : (x == ("__debug__" : Str)) = false := by decide) : QE X E (.Name x pos) (dC d) := by
  obtain ⟨hm, ⟨i, e, r⟩ | ⟨z, e, r⟩⟩ := g
  · subst e
    exact q_val (pe_glob hg hm r hd) fun _ _ => rfl
  · subst e
    exact q_val (pe_glob hg hm r hd) fun _ _ => rfl
def rIAdd : R2D := fun d e S k _ => match d, e with
  | .int i, .int j => k (.int (i + j)) S
  | _, _ => False
theorem io_add {X : Cx} {E : XK} : OpR X (inplaceOp .Add) (LL2 (cy X E) rIAdd) := o_int0 iop_add fun _ _ _ _ => rfl
theorem io_sub {X : Cx} {E : XK} : OpR X (inplaceOp .Sub) (LL2 (cy X E) rSub) := o_int0 iop_sub fun _ _ _ _ => rfl
theorem io_xor {X : Cx} {E : XK} : OpR X (inplaceOp .BitXor) (LL2 (cy X E) rXor) := o_int0 iop_xor fun _ _ _ _ => rfl
/-- what the law's text owes: its world's facts, its binding, its end, its walk -/
structure Owes (Pg : Program) (n k : Nat) (x : Str) (w : World) (mg : Str → Option Value) (fa : Addr) (h : Heap) : Prop where
  ex : ∃ (K : PySem.W.Frag) (fd : FuncData) (sp : Sp), (K.In h ∧ ∀ (s : Shared) (u : Value), BindsTo s fd ⟨[u], []⟩ [(x, u)]) ∧
    (∀ (H : Hp) (a : Addr) (ns : List Int), ns.length ≤ n → Only H → SqL K H a (ns.map V.int) → sp [.ref a] H (fun v _ => v = .bl true) fun _ _ _ => False) ∧ ∀ B : Heap, K.In B → B.Ns mainGlobals mg → FnOk Pg w K mg B (L2.CX Pg w) k fa fd [x] sp
/-- the law's end, what it lets out by the world -/
theorem walk_ofW {l : PySem.W.OpenLaw} {n k : Nat} {q : Program} {loose : List Str} {XP : (Str → Option Value) → Heap → Prop} {YP : World → Heap → Prop} {d : DefRec} {x : Str} (hn : l.most = some n) (hn2 : n ≤ sizeLine) (hdf : d.params.defaults = []) (hr : Room k callerA)
    (F : ∀ (w : World) (mg : Str → Option Value) (fa : Addr) (h : Heap), YP w h → h.Ns mainGlobals mg → mg d.name = some (.ref fa) → Owes l.prog n k x w mg fa h) : PySem.W.WalkO q loose XP YP l.row.toRowW d [] (fun f vs => PySem.call f vs) := by
  refine Att.attach_call hn hdf ?_
  intro w s₀ s₁ mg mb fa o pm cd doc a vs ns G Y ho hd hcd hmg hobj hints hlen hg
  obtain ⟨K, fd, sp, ⟨KX, hb⟩, hsp, hF⟩ := (F w mg fa _ Y G.T.g hmg).ex
  refine law_call KX G.T.g G.T.b G.T.builtins G.T.nolimit hg hobj hints (Nat.le_trans hlen hn2) hr hF hb (fun H hO hS => hsp H a ns hlen hO hS) ?_
  rintro H e s' ⟨_, _, _, _, _, _, _, _, _, _, _, _, z⟩
  exact z.elim
end Q
namespace Q
open PySem
open Spec PyProof.Rows L2

/-! ### the store, read -/
def lget (S : Sto) (n : Nat) : Option (List D) := match S[n]? with
  | some (.lst ds) => some ds
  | some (.ro ds) => some ds
  | _ => none
theorem isL_iff {S : Sto} {n : Nat} {ds : List D} : isL S n ds ↔ lget S n = some ds := by
  unfold isL lget
  cases e : S[n]? with
  | none => simp
  | some o => cases o <;> simp
theorem lget_lst {S : Sto} {n : Nat} {ds : List D} (h : S[n]? = some (.lst ds)) : lget S n = some ds := by unfold lget; rw [h]
theorem lget_lt {S : Sto} {n : Nat} {ds : List D} (h : lget S n = some ds) : n < S.length := by
  unfold lget at h
  cases e : S[n]? with
  | none => rw [e] at h; cases h
  | some o => exact (List.getElem?_eq_some_iff.mp e).1
theorem tyR_of {S : Sto} {n : Nat} {ds : List D} (h : lget S n = some ds) : tyR S n = some .list := by
  unfold lget at h
  unfold tyR
  cases e : S[n]? with
  | none => rw [e] at h; cases h
  | some o => rw [e] at h; cases o <;> first | rfl | cases h
theorem get_lt {S : Sto} {n : Nat} {o : O} (h : S[n]? = some o) : n < S.length := (List.getElem?_eq_some_iff.mp h).1
theorem get_app {S G : Sto} {n : Nat} {o : O} (h : S[n]? = some o) : (S ++ G)[n]? = some o := by rw [List.getElem?_append_left (get_lt h)]; exact h
theorem lget_app {S G : Sto} {n : Nat} {ds : List D} (h : lget S n = some ds) : lget (S ++ G) n = some ds := by
  have hl := lget_lt h
  unfold lget at h ⊢
  rw [List.getElem?_append_left hl]
  exact h
theorem get_at0 {S G : Sto} {o : O} : (S ++ o :: G)[S.length]? = some o := by simp
theorem get_at {S G : Sto} {k : Nat} : (S ++ G)[S.length + k]? = G[k]? := by rw [List.getElem?_append_right (by omega)]; congr 1; omega
theorem lget_at0 {S G : Sto} {ds : List D} : lget (S ++ .lst ds :: G) S.length = some ds := lget_lst (by simp)
theorem lget_at {S G : Sto} {k : Nat} : lget (S ++ G) (S.length + k) = lget G k := by unfold lget; rw [get_at]
theorem lget_hd {ds : List D} {G : Sto} : lget (.lst ds :: G) 0 = some ds := rfl
theorem lget_tl {o : O} {k : Nat} {G : Sto} : lget (o :: G) (k + 1) = lget G k := rfl
theorem lget_end {A G : Sto} {ds : List D} {m : Nat} (h : A.length = m) : lget (A ++ .lst ds :: G) m = some ds := by subst h; exact lget_at0
theorem lget_end1 {A G : Sto} {o : O} {ds : List D} {m : Nat} (h : A.length + 1 = m) : lget (A ++ o :: .lst ds :: G) m = some ds := by subst h; rw [lget_at]; rfl
theorem lget_end2 {A G : Sto} {o u : O} {ds : List D} {m : Nat} (h : A.length + 2 = m) : lget (A ++ o :: u :: .lst ds :: G) m = some ds := by subst h; rw [lget_at]; rfl
theorem get_k {A G : Sto} {o : O} {m : Nat} (k : Nat) (h : A.length + k = m) (e : G[k]? = some o) : (A ++ G)[m]? = some o := by subst h; rw [get_at]; exact e
theorem lget_k {A G : Sto} {ds : List D} {m : Nat} (k : Nat) (h : A.length + k = m) (e : lget G k = some ds) : lget (A ++ G) m = some ds := by subst h; rw [lget_at]; exact e
theorem set_at0 {S G : Sto} {o u : O} : (S ++ o :: G).set S.length u = S ++ u :: G := by
  rw [List.set_append_right (h := by omega)]
  simp
theorem set_at {S G : Sto} {k : Nat} {u : O} : (S ++ G).set (S.length + k) u = S ++ G.set k u := by
  rw [List.set_append_right (h := by omega)]
  congr 2
  omega
theorem set_app {S G : Sto} {n : Nat} {u : O} (h : n < S.length) : (S ++ G).set n u = S.set n u ++ G := List.set_append_left _ _ h
theorem app1 {S G : Sto} {o : O} : S ++ G ++ [o] = S ++ (G ++ [o]) := by simp
theorem ex_some {α β : Type} {x : α} {P : α → Prop} : (∃ y, some x = some y ∧ P y) ↔ P x := by simp
/-! ### weakening -/
mutual
theorem mapR_id {f : Nat → Nat} {m : Nat} (h : ∀ k, k < m → f k = k) : ∀ (d : D), clD m d → mapR f d = d
  | .non, _ => rfl
  | .bl _, _ => rfl
  | .int _, _ => rfl
  | .str _, _ => rfl
  | .tup ds, c => by rw [mapR, mapRs_id h ds c]
  | .ref n, c => by rw [mapR, h n c]
theorem mapRs_id {f : Nat → Nat} {m : Nat} (h : ∀ k, k < m → f k = k) : ∀ (ds : List D), clDs m ds → mapRs f ds = ds
  | [], _ => rfl
  | d :: ds, c => by rw [mapRs, mapR_id h d c.1, mapRs_id h ds c.2]
end
theorem mapKs_id {f : Nat → Nat} {m : Nat} (h : ∀ k, k < m → f k = k) : ∀ (ds : List (Key × D)), clKs m ds → (ds.map fun p => (p.1, mapR f p.2)) = ds
  | [], _ => rfl
  | d :: ds, c => by rw [List.map_cons, mapR_id h d.2 c.1, mapKs_id h ds c.2]
theorem mapO_id {f : Nat → Nat} {m : Nat} (h : ∀ k, k < m → f k = k) (o : O) (c : clO m o) : mapO f o = o := by
  cases o with
  | lst ds => rw [mapO, mapRs_id h ds c]
  | ro ds => rw [mapO, mapRs_id h ds c]
  | dic ds => rw [mapO, mapKs_id h ds c]
  | exo x d => rw [mapO, mapR_id h d c]
  | oth => rfl
mutual
theorem clD_le {m n : Nat} (h : m ≤ n) : ∀ (d : D), clD m d → clD n d
  | .non, _ => trivial
  | .bl _, _ => trivial
  | .int _, _ => trivial
  | .str _, _ => trivial
  | .tup ds, c => clDs_le h ds c
  | .ref k, c => Nat.lt_of_lt_of_le c h
theorem clDs_le {m n : Nat} (h : m ≤ n) : ∀ (ds : List D), clDs m ds → clDs n ds
  | [], _ => trivial
  | d :: ds, c => ⟨clD_le h d c.1, clDs_le h ds c.2⟩
end
theorem clKs_le {m n : Nat} (h : m ≤ n) : ∀ (ds : List (Key × D)), clKs m ds → clKs n ds
  | [], _ => trivial
  | d :: ds, c => ⟨clD_le h d.2 c.1, clKs_le h ds c.2⟩
theorem clO_le {m n : Nat} (h : m ≤ n) (o : O) (c : clO m o) : clO n o := by
  cases o with
  | lst ds => exact clDs_le h ds c
  | ro ds => exact clDs_le h ds c
  | dic ds => exact clKs_le h ds c
  | exo x d => exact clD_le h d c
  | oth => trivial
/-- a store with one object more or written -/
theorem clS_set {S : Sto} {n : Nat} {o : O} (c : clS S) (h : clO S.length o) : clS (S.set n o) := fun k u e => by
  rw [List.length_set]
  by_cases hk : n = k
  · subst hk
    by_cases hn : n < S.length
    · rw [List.getElem?_set_self hn] at e
      cases e
      exact h
    · rw [List.getElem?_eq_none (by rw [List.length_set]; omega)] at e
      cases e
  · rw [List.getElem?_set_ne hk] at e
    exact c k u e
theorem clS_push {S : Sto} {o : O} (c : clS S) (h : clO (S.length + 1) o) : clS (S ++ [o]) := fun k u e => by
  rw [List.length_append, List.length_singleton]
  rcases get_push_cases e with e | ⟨_, rfl⟩
  · exact clO_le (by omega) u (c k u e)
  · exact h
/-- garbage dropped -/
theorem wk_drop {S G : Sto} {n : Nat} {kd : KD} {d : D} (hn : S.length = n) (cS : clS S) (cd : clD S.length d) (h : kd d S) : wk n kd d (S ++ G) := by
  refine .inr ⟨fun k => k, d, S, ⟨fun _ _ => rfl, by omega, fun _ _ _ _ e => e, fun k o e => ⟨cS k o e, ?_⟩, (mapR_id (fun _ _ => rfl) d cd).symm, cd⟩, h⟩
  rw [mapO_id (fun _ _ => rfl) o (cS k o e)]
  exact get_app e
theorem wk_now {S : Sto} {n : Nat} {kd : KD} {d : D} (h : kd d S) : wk n kd d S := .inl h
/-- a new object at j is given back -/
theorem wk_new {S G : Sto} {n j : Nat} {kd : KD} {o : O} (hn : S.length = n) (cS : clS S) (hj : n ≤ j) (hg : (S ++ G)[j]? = some o) (co : clO n o) (h : kd (.ref n) (S ++ [o])) : wk n kd (.ref j) (S ++ G) := by
  subst hn
  have low : ∀ k, k < S.length → (if k < S.length then k else j) = k := fun k hk => if_pos hk
  refine .inr ⟨fun k => if k < S.length then k else j, .ref S.length, S ++ [o], ⟨low, by simp, fun a b ha hb e => ?_, fun k u e => ?_, ?_, ?_⟩, h⟩
  · simp only [List.length_append, List.length_singleton] at ha hb
    by_cases h1 : a < S.length
    · by_cases h2 : b < S.length
      · simpa [h1, h2] using e
      · simp [h1, h2] at e; omega
    · by_cases h2 : b < S.length
      · simp [h1, h2] at e; omega
      · omega
  · rw [List.length_append, List.length_singleton]
    rcases get_push_cases e with e | ⟨rfl, rfl⟩
    · have hk := get_lt e
      refine ⟨clO_le (by omega) u (cS k u e), ?_⟩
      rw [low k hk, mapO_id low u (cS k u e)]
      exact get_app e
    · refine ⟨clO_le (by omega) u co, ?_⟩
      rw [if_neg (Nat.lt_irrefl _), mapO_id low u co]
      exact hg
  · simp [mapR]
  · simp [clD]
/-! ### loops over data -/
def rng (lo : Int) (i n : Nat) : List D := (List.range' i n).map fun j => D.int (lo + (j : Nat))
theorem rng_zero (lo : Int) (i : Nat) : rng lo i 0 = [] := rfl
theorem rng_succ (lo : Int) (i n : Nat) : rng lo i (n + 1) = D.int (lo + (i : Nat)) :: rng lo (i + 1) n := by unfold rng; rw [List.range'_succ, List.map_cons]
theorem rng_eq (lo : Int) (n : Nat) : ((List.range n).map fun i => D.int (lo + (i : Nat))) = rng lo 0 n := by unfold rng; rw [List.range_eq_range']
/-- a loop by a word over what is left -/
theorem wFor_ind {grd : Sto → Prop} {g : TGD} {tb : TSD} {M : EndsD} (I : List D → Sl → Sto → Prop) (hend : ∀ sg S, I [] sg S → grd S ∧ M.nx sg S)
    (hstep : ∀ d r sg S (nx : Sl → Sto → Prop), I (d :: r) sg S → (∀ sg' S', I r sg' S' → nx sg' S') → grd S ∧ g d sg S (fun sg1 S1 => tb { M with nx := nx, ct := nx, bk := M.nx } sg1 S1) M.ex) :
    ∀ (items : List D) (sg : Sl) (S : Sto), I items sg S → wFor grd g tb M items sg S
  | [], sg, S, h => hend sg S h
  | d :: r, sg, S, h => hstep d r sg S _ h fun sg' S' h' => wFor_ind I hend hstep r sg' S' h'
/-- .. over a range -/
theorem wFor_rng {grd : Sto → Prop} {g : TGD} {tb : TSD} {M : EndsD} {lo : Int} (n : Nat) (I : Nat → Sl → Sto → Prop) {sg : Sl} {S : Sto} (h0 : I 0 sg S) (hend : ∀ sg S, I n sg S → grd S ∧ M.nx sg S)
    (hstep : ∀ i sg S (nx : Sl → Sto → Prop), i < n → I i sg S → (∀ sg' S', I (i + 1) sg' S' → nx sg' S') → grd S ∧ g (.int (lo + (i : Nat))) sg S (fun sg1 S1 => tb { M with nx := nx, ct := nx, bk := M.nx } sg1 S1) M.ex) :
    wFor grd g tb M ((List.range n).map fun i => D.int (lo + (i : Nat))) sg S := by
  rw [rng_eq]
  have key : ∀ (r i : Nat) (sg : Sl) (S : Sto), i + r = n → I i sg S → wFor grd g tb M (rng lo i r) sg S := by
    intro r
    induction r with
    | zero =>
      intro i sg S e h
      have : i = n := by omega
      subst this
      exact hend sg S h
    | succ r ih =>
      intro i sg S e h
      rw [rng_succ]
      exact hstep i sg S _ (by omega) h fun sg' S' h' => ih (i + 1) sg' S' (by omega) h'
  exact key n 0 sg S (by omega) h0
/-- a while by a word and a measure -/
theorem dWhile_by {c : TTD} {tb : TSD} {M : EndsD} {sg : Sl} {S : Sto} (I : Nat → Sl → Sto → Prop) (m0 : Nat) (h0 : I m0 sg S)
    (hs : ∀ m sg S (nx : Sl → Sto → Prop), I m sg S → (∀ m' sg' S', m' < m → I m' sg' S' → nx sg' S') → c sg S (fun b S1 => (b = true → tb { M with nx := nx, ct := nx, bk := M.nx } sg S1) ∧ (b = false → M.nx sg S1)) M.ex) : dWhile c tb M sg S :=
  ⟨I, ⟨m0, h0⟩, fun m sg S h => hs m sg S _ h fun m' sg' S' hm h' => ⟨m', hm, h'⟩⟩
/-- a comprehension whose element is reckoned purely -/
theorem wLc_map {grd : Sto → Prop} {i : Nat} {te : TED} {sg : Sl} {n0 : Nat} {k : Sto → Prop} {f : D → D} : ∀ (items : List D) (S : Sto) (acc : List D),
    (∀ d ∈ items, ∀ (acc : List D) (kk : KD), grd (S.set n0 (.lst acc)) ∧ (kk (f d) (S.set n0 (.lst acc)) → te (sg.set i (some d)) (S.set n0 (.lst acc)) kk XF)) → (∀ acc, grd (S.set n0 (.lst acc))) → n0 < S.length → acc.length + items.length ≤ sizeLine →
    k (S.set n0 (.lst (acc ++ items.map f))) → wLc grd (gNm i) dYes te sg n0 k items (S.set n0 (.lst acc))
  | [], S, acc, _, hg, _, _, hk => ⟨hg acc, by simpa using hk⟩
  | d :: r, S, acc, he, hg, hn, hl, hk => by
    refine ⟨hg acc, ⟨fun _ => ?_, fun z => nomatch z⟩⟩
    refine (he d List.mem_cons_self acc _).2 ?_
    refine ⟨acc, by rw [List.getElem?_set_self hn], by rw [List.length_cons] at hl; omega, ?_⟩
    rw [List.set_set]
    refine wLc_map r S (acc ++ [f d]) (fun d hd => he d (List.mem_cons_of_mem _ hd)) hg hn (by rw [List.length_append, List.length_singleton]; rw [List.length_cons] at hl; omega) ?_
    rw [List.append_assoc]
    exact hk
/-- .. with a test -/
theorem wLc_filter {grd : Sto → Prop} {i : Nat} {tt : TTD} {te : TED} {sg : Sl} {n0 : Nat} {k : Sto → Prop} {p : D → Bool} {f : D → D} : ∀ (items : List D) (S : Sto) (acc : List D),
    (∀ d ∈ items, ∀ (acc : List D) (kk : Bool → Sto → Prop), kk (p d) (S.set n0 (.lst acc)) → tt (sg.set i (some d)) (S.set n0 (.lst acc)) kk XF) →
    (∀ d ∈ items, p d = true → ∀ (acc : List D) (kk : KD), kk (f d) (S.set n0 (.lst acc)) → te (sg.set i (some d)) (S.set n0 (.lst acc)) kk XF) → (∀ acc, grd (S.set n0 (.lst acc))) → n0 < S.length → acc.length + items.length ≤ sizeLine →
    k (S.set n0 (.lst (acc ++ (items.filter p).map f))) → wLc grd (gNm i) tt te sg n0 k items (S.set n0 (.lst acc))
  | [], S, acc, _, _, hg, _, _, hk => ⟨hg acc, by simpa using hk⟩
  | d :: r, S, acc, ht, he, hg, hn, hl, hk => by
    refine ⟨hg acc, ht d List.mem_cons_self acc _ ⟨fun hp => ?_, fun hp => ?_⟩⟩
    · refine he d List.mem_cons_self hp acc _ ?_
      refine ⟨acc, by rw [List.getElem?_set_self hn], by rw [List.length_cons] at hl; omega, ?_⟩
      rw [List.set_set]
      refine wLc_filter r S (acc ++ [f d]) (fun d hd => ht d (List.mem_cons_of_mem _ hd)) (fun d hd => he d (List.mem_cons_of_mem _ hd)) hg hn (by rw [List.length_append, List.length_singleton]; rw [List.length_cons] at hl; omega) ?_
      rw [List.append_assoc]
      rw [List.filter_cons_of_pos hp] at hk
      exact hk
    · refine wLc_filter r S acc (fun d hd => ht d (List.mem_cons_of_mem _ hd)) (fun d hd => he d (List.mem_cons_of_mem _ hd)) hg hn (by rw [List.length_cons] at hl; omega) ?_
      rw [List.filter_cons_of_neg (by rw [hp]; decide)] at hk
      exact hk
/-- the reading of [.. for name in ..] from a fresh list -/
theorem lc_map {it : ItD} {i : Nat} {te : TED} {sg : Sl} {k : KD} {S : Sto} (f : D → D)
    (he : ∀ d ∈ it.items, ∀ (acc : List D) (kk : KD), kk (f d) (S ++ [.lst acc]) → te (sg.set i (some d)) (S ++ [.lst acc]) kk XF) (hg : ∀ acc, it.grd (S ++ [.lst acc])) (hl : it.items.length ≤ sizeLine)
    (hk : k (.ref S.length) (S ++ [.lst (it.items.map f)])) : kLc (gNm i) dYes te sg k it S := by
  unfold kLc
  have e : ∀ acc, (S ++ [O.lst []]).set S.length (.lst acc) = S ++ [.lst acc] := fun acc => set_at0
  have q := wLc_map (grd := it.grd) (i := i) (te := te) (sg := sg) (n0 := S.length) (k := fun S' => k (.ref S.length) S') (f := f) it.items (S ++ [.lst []]) []
    (fun d hd acc kk => ⟨by rw [e]; exact hg acc, by rw [e]; exact he d hd acc kk⟩) (fun acc => by rw [e]; exact hg acc) (by simp) (by simpa using hl) (by rw [e]; exact hk)
  rw [e] at q
  exact q
theorem lc_filter {it : ItD} {i : Nat} {tt : TTD} {te : TED} {sg : Sl} {k : KD} {S : Sto} (p : D → Bool) (f : D → D)
    (ht : ∀ d ∈ it.items, ∀ (acc : List D) (kk : Bool → Sto → Prop), kk (p d) (S ++ [.lst acc]) → tt (sg.set i (some d)) (S ++ [.lst acc]) kk XF)
    (he : ∀ d ∈ it.items, p d = true → ∀ (acc : List D) (kk : KD), kk (f d) (S ++ [.lst acc]) → te (sg.set i (some d)) (S ++ [.lst acc]) kk XF) (hg : ∀ acc, it.grd (S ++ [.lst acc])) (hl : it.items.length ≤ sizeLine)
    (hk : k (.ref S.length) (S ++ [.lst ((it.items.filter p).map f)])) : kLc (gNm i) tt te sg k it S := by
  unfold kLc
  have e : ∀ acc, (S ++ [O.lst []]).set S.length (.lst acc) = S ++ [.lst acc] := fun acc => set_at0
  have q := wLc_filter (grd := it.grd) (i := i) (tt := tt) (te := te) (sg := sg) (n0 := S.length) (k := fun S' => k (.ref S.length) S') (p := p) (f := f) it.items (S ++ [.lst []]) []
    (fun d hd acc kk => by rw [e]; exact ht d hd acc kk) (fun d hd hp acc kk => by rw [e]; exact he d hd hp acc kk) (fun acc => by rw [e]; exact hg acc) (by simp) (by simpa using hl) (by rw [e]; exact hk)
  rw [e] at q
  exact q
/-! ### == of data without objects -/
mutual
def pyD : D → PyData
  | .non => .none
  | .bl b => .bool b
  | .int i => .int i
  | .str x => .str x
  | .tup ds => .tuple (pyDs ds)
  | .ref _ => .none
def pyDs : List D → List PyData
  | [] => []
  | d :: ds => pyD d :: pyDs ds
end
mutual
/-- without objects, of at most this depth -/
def pd : Nat → D → Bool
  | _, .non => true
  | _, .bl _ => true
  | _, .int _ => true
  | _, .str x => (PyData.str x).canLay0
  | 0, .tup _ => false
  | n + 1, .tup ds => pds n ds
  | _, .ref _ => false
def pds : Nat → List D → Bool
  | _, [] => true
  | n, d :: ds => pd n d && pds n ds
end
def eqD (d e : D) : Bool := PyData.eqv (pyD d) (pyD e)
def eqDs (d e : List D) : Bool := PyData.eqvAll (pyDs d) (pyDs e)
mutual
theorem pd_py {S : Sto} : ∀ (d : D) (n : Nat), pd n d = true → DPy S d (pyD d) ∧ (pyD d).canLay0 = true ∧ (pyD d).depth ≤ n
  | .non, n, _ => ⟨.non, rfl, Nat.zero_le _⟩
  | .bl b, n, _ => ⟨.bl b, rfl, Nat.zero_le _⟩
  | .int i, n, _ => ⟨.int i, rfl, Nat.zero_le _⟩
  | .str x, n, h => ⟨.str x, by cases n <;> exact h, Nat.zero_le _⟩
  | .tup ds, 0, h => by cases h
  | .tup ds, n + 1, h => by
    obtain ⟨h1, h2, h3⟩ := pds_py (S := S) ds n h
    exact ⟨.tup h1, h2, by show PyData.depthAll (pyDs ds) + 1 ≤ n + 1; omega⟩
  | .ref _, n, h => by cases n <;> cases h
theorem pds_py {S : Sto} : ∀ (ds : List D) (n : Nat), pds n ds = true → DPys S ds (pyDs ds) ∧ PyData.canLayAll0 (pyDs ds) = true ∧ PyData.depthAll (pyDs ds) ≤ n
  | [], n, _ => ⟨.nil, rfl, Nat.zero_le _⟩
  | d :: ds, n, h => by
    have h' : pd n d = true ∧ pds n ds = true := by simpa [pds] using h
    obtain ⟨a1, a2, a3⟩ := pd_py (S := S) d n h'.1
    obtain ⟨b1, b2, b3⟩ := pds_py (S := S) ds n h'.2
    exact ⟨.cons a1 b1, by show ((pyD d).canLay0 && PyData.canLayAll0 (pyDs ds)) = true; rw [a2, b2]; rfl, by show max (pyD d).depth (PyData.depthAll (pyDs ds)) ≤ n; omega⟩
end
theorem shaped_of {p : PyData} {n : Nat} (h : p.canLay0 = true) (h2 : p.depth ≤ n) (hn : n ≤ 64) : SeqAt.shaped p = true := by
  unfold SeqAt.shaped
  rw [h, decide_eq_true (by omega : p.depth ≤ 64)]
  rfl
theorem eqG_pure {d e : D} {S : Sto} {k : Bool → Prop} (n m : Nat) (hd : pd n d = true) (he : pd m e = true) (h : k (eqD d e)) (hn : n ≤ 64 := by decide) (hm : m ≤ 64 := by decide) : eqG d e S k := by
  obtain ⟨a1, a2, a3⟩ := pd_py (S := S) d n hd
  obtain ⟨b1, b2, b3⟩ := pd_py (S := S) e m he
  exact ⟨_, _, a1, b1, shaped_of a2 a3 hn, shaped_of b2 b3 hm, h⟩
/-- two lists of data without objects -/
theorem eqG_lst {a b : Nat} {xs ys : List D} {S : Sto} {k : Bool → Prop} (n m : Nat) (ha : lget S a = some xs) (hb : lget S b = some ys) (hd : pds n xs = true) (he : pds m ys = true) (h : k (eqDs xs ys)) (hn : n ≤ 60 := by decide) (hm : m ≤ 60 := by decide) : eqG (.ref a) (.ref b) S k := by
  obtain ⟨a1, a2, a3⟩ := pds_py (S := S) xs n hd
  obtain ⟨b1, b2, b3⟩ := pds_py (S := S) ys m he
  exact ⟨_, _, .ref (isL_iff.mpr ha) a1, .ref (isL_iff.mpr hb) b1, shaped_of (n := n + 1) a2 (by show PyData.depthAll _ + 1 ≤ n + 1; omega) (by omega), shaped_of (n := m + 1) b2 (by show PyData.depthAll _ + 1 ≤ m + 1; omega) (by omega), h⟩
theorem eqDs_nil (ds : List D) : eqDs ds [] = ds.isEmpty := by cases ds <;> rfl
theorem eqD_tup (ds es : List D) : eqD (.tup ds) (.tup es) = eqDs ds es := by
  unfold eqD eqDs
  rw [pyD, pyD, PyData.eqv]
theorem eqDs_cons (d e : D) (ds es : List D) : eqDs (d :: ds) (e :: es) = (eqD d e && eqDs ds es) := by
  unfold eqDs eqD
  rw [pyDs, pyDs, PyData.eqvAll]
theorem eqD_int (i j : Int) : eqD (.int i) (.int j) = decide (i = j) := by
  show (i == j) = decide (i = j)
  rw [Bool.beq_eq_decide_eq]
theorem atI0 {α : Type} (a : α) (l : List α) : atI (a :: l) (0 : Int) = some a := atI_nat (j := 0) rfl
theorem atI1 {α : Type} (a b : α) (l : List α) : atI (a :: b :: l) (1 : Int) = some b := atI_nat (j := 1) rfl
theorem atI2 {α : Type} (a b c : α) (l : List α) : atI (a :: b :: c :: l) (2 : Int) = some c := atI_nat (j := 2) rfl
theorem atI3 {α : Type} (a b c d : α) (l : List α) : atI (a :: b :: c :: d :: l) (3 : Int) = some d := atI_nat (j := 3) rfl
theorem atI_in {α : Type} (l : List α) (r : Nat) (h : r < l.length) : ∃ d, atI l (r : Int) = some d ∧ d ∈ l := ⟨l[r], atI_nat (List.getElem?_eq_getElem h), List.getElem_mem h⟩
theorem ixN_nat {n j : Nat} (h : j < n) : ixN n (j : Int) = some j := by
  unfold ixN
  rw [if_pos (by omega), if_pos (by omega)]
  simp
theorem get_set_self {S : Sto} {n : Nat} {o u : O} (h : S[n]? = some o) : (S.set n u)[n]? = some u := List.getElem?_set_self (get_lt h)
theorem lget_set_self {S : Sto} {n : Nat} {o : O} {ds : List D} (h : S[n]? = some o) : lget (S.set n (.lst ds)) n = some ds := lget_lst (get_set_self h)
theorem paired_len {α β : Type} {R : α → β → Prop} : ∀ {l : List α} {m : List β}, Paired R l m → l.length = m.length
  | _, _, .nil => rfl
  | _, _, .cons _ t => by rw [List.length_cons, List.length_cons, paired_len t]
theorem paired_get {α β : Type} {R : α → β → Prop} : ∀ {l : List α} {m : List β} {i : Nat} {a : α} {b : β}, Paired R l m → l[i]? = some a → m[i]? = some b → R a b
  | _, _, 0, _, _, .cons r _, h1, h2 => by
    simp at h1 h2
    subst h1 h2
    exact r
  | _, _, i + 1, _, _, .cons _ t, h1, h2 => paired_get (i := i) t (by simpa using h1) (by simpa using h2)
/-- the same data, of the same kinds -/
def sameD (S : Sto) : Nat → D → D → Prop
  | 0, d, e => flatD d = true ∧ d = e
  | n + 1, d, e => (flatD d = true ∧ d = e) ∨ (∃ xs ys, d = .tup xs ∧ e = .tup ys ∧ ys.length ≤ sizeLine ∧ Paired (sameD S n) xs ys) ∨
      ∃ a b xs ys, d = .ref a ∧ e = .ref b ∧ lget S a = some xs ∧ lget S b = some ys ∧ ys.length ≤ sizeLine ∧ Paired (sameD S n) xs ys
theorem sameD_mono {S G : Sto} : ∀ (n : Nat) (d e : D), sameD S n d e → sameD (S ++ G) n d e
  | 0, d, e, h => h
  | n + 1, d, e, h => by
    rcases h with h | ⟨xs, ys, h1, h2, hl, h3⟩ | ⟨a, b, xs, ys, h1, h2, h3, h4, hl, h5⟩
    · exact .inl h
    · exact .inr (.inl ⟨xs, ys, h1, h2, hl, Paired.mapP h3 fun a b q => sameD_mono n a b q⟩)
    · exact .inr (.inr ⟨a, b, xs, ys, h1, h2, lget_app h3, lget_app h4, hl, Paired.mapP h5 fun a b q => sameD_mono n a b q⟩)
theorem sameD_flat {S : Sto} {d : D} (h : flatD d = true) : ∀ n, sameD S n d d
  | 0 => ⟨h, rfl⟩
  | n + 1 => .inl ⟨h, rfl⟩
theorem sameD_lst {S : Sto} {n a b : Nat} {xs ys : List D} (h1 : lget S a = some xs) (h2 : lget S b = some ys) (hl : ys.length ≤ sizeLine) (h : Paired (sameD S n) xs ys) : sameD S (n + 1) (.ref a) (.ref b) := .inr (.inr ⟨a, b, xs, ys, rfl, rfl, h1, h2, hl, h⟩)
theorem sameD_tup {S : Sto} {n : Nat} {xs ys : List D} (hl : ys.length ≤ sizeLine) (h : Paired (sameD S n) xs ys) : sameD S (n + 1) (.tup xs) (.tup ys) := .inr (.inl ⟨xs, ys, rfl, rfl, hl, h⟩)
theorem paired_same {S : Sto} {n : Nat} {f : D → Prop} : ∀ (xs : List D), (∀ d ∈ xs, sameD S n d d) → Paired (sameD S n) xs xs
  | [], _ => .nil
  | d :: ds, h => .cons (h d List.mem_cons_self) (paired_same (f := f) ds fun e he => h e (List.mem_cons_of_mem _ he))
theorem len1 {α : Type} {l : List α} (h : l.length = 1) : ∃ a, l = [a] := match l, h with | [a], _ => ⟨a, rfl⟩
theorem len2 {α : Type} {l : List α} (h : l.length = 2) : ∃ a b, l = [a, b] := match l, h with | [a, b], _ => ⟨a, b, rfl⟩
theorem len3 {α : Type} {l : List α} (h : l.length = 3) : ∃ a b c, l = [a, b, c] := match l, h with | [a, b, c], _ => ⟨a, b, c, rfl⟩
theorem sl16 : (sizeLine : Nat) = 16777216 := sizeLine_eq
/-- a cut between two statements -/
theorem dSeq_cut {t u : TSD} {M : EndsD} {sg : Sl} {S : Sto} (P : Sl → Sto → Prop) (h : ∀ nx : Sl → Sto → Prop, (∀ sg S, P sg S → nx sg S) → t { M with nx := nx } sg S) (h2 : ∀ sg S, P sg S → u M sg S) : dSeq t u M sg S := h (u M) h2
theorem dSeq_go {t u : TSD} {M : EndsD} {sg : Sl} {S : Sto} (h : t { M with nx := u M } sg S) : dSeq t u M sg S := h
theorem sorted_at {S : Sto} {w : Nat} {ns : List Int} {k : KD} {x : XD} (hw : lget S w = some (ns.map D.int)) (h : ∀ ms : List Int, ms.Perm ns → ms.Pairwise (· ≤ ·) → k (.ref S.length) (S ++ [.lst (ms.map D.int)])) : spSorted [.ref w] S k x := ⟨ns, isL_iff.mpr hw, h⟩
theorem map_natint (l : List Nat) : (l.map fun c : Nat => (c : Int)).map D.int = l.map fun c : Nat => D.int (c : Int) := by rw [List.map_map]; rfl
theorem inF_nats {c : Nat} : ∀ {l : List Nat}, inF (.int (c : Int)) (l.map fun c : Nat => D.int (c : Int)) = decide (c ∈ l) := by
  intro l
  induction l with
  | nil => rfl
  | cons a l ih =>
    show ((decide ((a : Int) = (c : Int))) || inF (.int (c : Int)) (l.map fun c : Nat => D.int (c : Int))) = _
    rw [ih, Bool.eq_iff_iff]
    simp only [Bool.or_eq_true, decide_eq_true_eq, List.mem_cons]
    exact ⟨fun h => h.imp (fun h => by omega) id, fun h => h.imp (fun h => by omega) id⟩
theorem flat_nats (l : List Nat) : (l.map fun c : Nat => D.int (c : Int)).all flatD = true := by
  rw [List.all_map]
  exact List.all_eq_true.mpr fun _ _ => rfl
theorem sl_ok (n : Nat) (h : n ≤ 1000000) : n ≤ sizeLine := Nat.le_trans h (by decide)
/-- data that is the same as itself -/
def sdB : Nat → D → Bool
  | _, .non => true
  | _, .bl _ => true
  | _, .int _ => true
  | _, .str _ => true
  | n + 1, .tup ds => decide (ds.length ≤ 1000000) && ds.all (sdB n)
  | _, _ => false
theorem sameD_self {S : Sto} : ∀ (n : Nat) (d : D), sdB n d = true → sameD S n d d
  | n, .non, _ => sameD_flat rfl n
  | n, .bl _, _ => sameD_flat rfl n
  | n, .int _, _ => sameD_flat rfl n
  | n, .str _, _ => sameD_flat rfl n
  | n + 1, .tup ds, h => by
    have h : (decide (ds.length ≤ 1000000) && ds.all (sdB n)) = true := h
    rw [Bool.and_eq_true, List.all_eq_true] at h
    exact sameD_tup (sl_ok _ (of_decide_eq_true h.1)) (paired_same (f := fun _ => True) ds fun d hd => sameD_self n d (h.2 d hd))
  | 0, .tup _, h => nomatch h
  | 0, .ref _, h => nomatch h
  | _ + 1, .ref _, h => nomatch h
theorem paired_self {S : Sto} {n : Nat} (xs : List D) (h : xs.all (sdB n) = true) : Paired (sameD S n) xs xs := paired_same (f := fun _ => True) xs fun d hd => sameD_self n d (List.all_eq_true.mp h d hd)
/-! ### slices whose ends are natural -/
theorem cut_take (ds : List D) (k : Nat) : cutD ds none (some (k : Int)) = ds.take k := by
  unfold cutD
  rw [HT.sIx_nat]
  show (ds.drop 0).take (min k ds.length - 0) = _
  rw [List.drop_zero, Nat.sub_zero, ← List.take_take, List.take_length]
theorem cut_drop (ds : List D) (k : Nat) : cutD ds (some (k : Int)) none = ds.drop k := by
  unfold cutD
  rw [HT.sIx_nat]
  show (ds.drop (min k ds.length)).take (ds.length - min k ds.length) = _
  by_cases h : k ≤ ds.length
  · rw [Nat.min_eq_left h]
    exact List.take_of_length_le (by rw [List.length_drop]; exact Nat.le_refl _)
  · rw [Nat.min_eq_right (by omega), List.drop_of_length_le (Nat.le_refl _), List.drop_of_length_le (by omega)]
    simp
end Q
namespace Q
open PySem
open Spec PyProof.Rows L2

/-! ### dicts: a comprehension, sorted keys -/
def keyD : Key → D
  | .inl i => .int i
  | .inr x => .str x
theorem key_rd {K : PySem.W.Frag} {H : Hp} {al : List Addr} {k : Key} {v : V} (r : RD K H al (keyD k) v) : v = kV k := by
  cases k with
  | inl i => exact r
  | inr x => exact r
def putD (kvs : List (Key × D)) (k : Key) (v : D) : List (Key × D) := match kvs.any fun p => decide (p.1 = k) with
  | true => kvs.map fun p => if p.1 = k then (p.1, v) else p
  | false => kvs ++ [(k, v)]
theorem rks_any {K : PySem.W.Frag} {H : Hp} {al : List Addr} {k : Key} : ∀ {ds : List (Key × D)} {vs : List (Key × V)}, RKs K H al ds vs → (vs.any fun p => decide (p.1 = k)) = ds.any fun p => decide (p.1 = k)
  | [], _, h => by rw [show _ = [] from h]; rfl
  | d :: ds, _, ⟨v, r, e, _, h2⟩ => by
    subst e
    rw [List.any_cons, List.any_cons, rks_any h2]
theorem rks_app {K : PySem.W.Frag} {H : Hp} {al : List Addr} {k : Key} {d : D} {v : V} (rd : RD K H al d v) : ∀ {ds : List (Key × D)} {vs : List (Key × V)}, RKs K H al ds vs → RKs K H al (ds ++ [(k, d)]) (vs ++ [(k, v)])
  | [], _, h => by rw [show _ = [] from h]; exact ⟨v, [], rfl, rd, rfl⟩
  | p :: ds, _, ⟨w, r, e, h1, h2⟩ => by
    subst e
    exact ⟨w, _, rfl, h1, rks_app rd h2⟩
theorem rks_map1 {K : PySem.W.Frag} {H : Hp} {al : List Addr} {k : Key} {d : D} {v : V} (rd : RD K H al d v) : ∀ {ds : List (Key × D)} {vs : List (Key × V)}, RKs K H al ds vs → RKs K H al (ds.map fun p => if p.1 = k then (p.1, d) else p) (vs.map fun p => if p.1 = k then (p.1, v) else p)
  | [], _, h => by rw [show _ = [] from h]; exact rfl
  | p :: ds, _, ⟨w, r, e, h1, h2⟩ => by
    subst e
    rw [List.map_cons, List.map_cons]
    by_cases q : p.1 = k
    · rw [if_pos q, if_pos q]
      exact ⟨v, _, rfl, rd, rks_map1 rd h2⟩
    · rw [if_neg q, if_neg q]
      exact ⟨w, _, rfl, h1, rks_map1 rd h2⟩
theorem rks_put {K : PySem.W.Frag} {H : Hp} {al : List Addr} {k : Key} {d : D} {v : V} {ds : List (Key × D)} {vs : List (Key × V)} (rd : RD K H al d v) (r : RKs K H al ds vs) : RKs K H al (putD ds k d) (putK vs k v) := by
  unfold putD putK
  rw [rks_any r]
  cases ds.any fun p => decide (p.1 = k) with
  | true => exact rks_map1 rd r
  | false => exact rks_app rd r
theorem rks_len {K : PySem.W.Frag} {H : Hp} {al : List Addr} : ∀ {ds : List (Key × D)} {vs : List (Key × V)}, RKs K H al ds vs → vs.length = ds.length
  | [], _, h => by rw [show _ = [] from h]; rfl
  | d :: ds, _, ⟨v, r, e, _, h2⟩ => by
    subst e
    rw [List.length_cons, List.length_cons, rks_len h2]
theorem rks_keys {K : PySem.W.Frag} {H : Hp} {al : List Addr} : ∀ {ds : List (Key × D)} {vs : List (Key × V)}, RKs K H al ds vs → vs.map (·.1) = ds.map (·.1)
  | [], _, h => by rw [show _ = [] from h]; rfl
  | d :: ds, _, ⟨v, r, e, _, h2⟩ => by
    subst e
    rw [List.map_cons, List.map_cons, rks_keys h2]
theorem new_dic {K : PySem.W.Frag} {H : Hp} {al : List Addr} {S : Sto} {p : Addr} {ds : List (Key × D)} {vs : List (Key × V)} (r : RS K H al S) (hp : H p = none) (rd : RKs K H al ds vs) : Fut K H al (upd H p (.dK vs)) (al ++ [p]) (S ++ [.dic ds]) :=
  Fut.push r hp ⟨vs, upd_same, RKs.mono (Keep.laid hp) _ _ rd⟩
theorem set_dic {K : PySem.W.Frag} {H : Hp} {al : List Addr} {S : Sto} {n : Nat} {p : Addr} {ds xs : List (Key × D)} {vs : List (Key × V)} (rs : RS K H al S) (h : S[n]? = some (.dic xs)) (hp : al[n]? = some p) (r : RKs K H al ds vs) : Fut K H al (upd H p (.dK vs)) al (S.set n (.dic ds)) := by
  obtain ⟨us, e1, _⟩ := rs.ob n _ p h hp
  have kp : Keep H (upd H p (.dK vs)) := Keep.write e1 (.inr ⟨_, rfl⟩)
  refine Fut.set rs h rfl hp ⟨vs, upd_same, ?_⟩ rfl
  have := RKs.mono (t := []) kp _ _ r
  rwa [List.append_nil] at this
def kDc4 (n0 : Nat) (k : Sto → Prop) (y : D) : KD := fun z S => ∃ kvs key, y = keyD key ∧ S[n0]? = some (.dic kvs) ∧ kvs.length < sizeLine ∧ k (S.set n0 (.dic (putD kvs key z)))
def kDc3 (tv : TED) (sg : Sl) (n0 : Nat) (k : Sto → Prop) : KD := fun y S => tv sg S (kDc4 n0 k y) XF
def wDc (grd : Sto → Prop) (g : TGD) (tt : TTD) (tk tv : TED) (sg : Sl) (n0 : Nat) (k : Sto → Prop) : List D → Sto → Prop
  | [], S => grd S ∧ k S
  | d :: r, S => grd S ∧ g d sg S (fun sg1 S1 => tt sg1 S1 (fun b S2 => (b = true → tk sg1 S2 (kDc3 tv sg1 n0 (wDc grd g tt tk tv sg n0 k r)) XF) ∧ (b = false → wDc grd g tt tk tv sg n0 k r S2)) XF) XF
def kDc (g : TGD) (tt : TTD) (tk tv : TED) (sg : Sl) (k : KD) : ItD → Sto → Prop := fun it S => wDc it.grd g tt tk tv sg S.length (fun S' => k (.ref S.length) S') it.items (S ++ [.dic []])
def dDc (ti : TID) (g : TGD) (tt : TTD) (tk tv : TED) (vs : List Nat) : TED := fun sg S k x => ti sg S (kDc g tt tk tv (wipeD sg vs) k) x
theorem dc_red {K : PySem.W.Frag} {mg : Str → Option Value} {ti : TID} {g : TGD} {tt : TTD} {tk tv : TED} {vs : List Nat} {tV : TG} {s : L2.St} {H : Hp} {Q : VK} {E : XK}
    (hl : ∀ v s H Q, LG ⟨K, mg, E0⟩ g v s H Q → tV v s H Q) (hw : WipeOK vs tV) (h : LE ⟨K, mg, E⟩ (dDc ti g tt tk tv vs) s H Q) : tDc (LI ⟨K, mg, E⟩ ti) tV (LT ⟨K, mg, E0⟩ tt) (LE ⟨K, mg, E0⟩ tk) (LE ⟨K, mg, E0⟩ tv) vs s H Q := by
  obtain ⟨sg, al, S, kd, xd, rs, rl, q, up, ux⟩ := h
  refine ⟨sg, al, S, kDc g tt tk tv (wipeD sg vs) kd, xd, rs, rl, q, fun it S1 al1 H1 J f1 iok q1 => ?_, ux⟩
  intro D hD
  have q1 : wDc it.grd g tt tk tv (wipeD sg vs) S1.length (fun S' => kd (.ref S1.length) S') it.items (S1 ++ [.dic []]) := q1
  have fN : Fut K H1 al1 (upd H1 D (.dK [])) (al1 ++ [D]) (S1 ++ [.dic []]) := new_dic f1.rs hD rfl
  have aN : (al1 ++ [D])[S1.length]? = some D := by rw [← f1.rs.len]; simp
  refine ⟨fun i m H' => ∃ al' S', Fut K (upd H1 D (.dK [])) (al1 ++ [D]) H' al' S' ∧ wDc it.grd g tt tk tv (wipeD sg vs) S1.length (fun S' => kd (.ref S1.length) S') (it.items.drop i) S' ∧ m = it.items.length - i ∧ i ≤ it.items.length, ⟨it.items.length, _, _, .now fN.rs, q1, by simp, Nat.zero_le _⟩, ?_⟩
  rintro i m H2 ⟨al2, S2, f2, w2, rfl, hi⟩
  by_cases hlt : i < it.items.length
  · rw [List.drop_eq_getElem_cons hlt] at w2
    obtain ⟨gr, w2⟩ := w2
    refine .inr ⟨iok.go i H2 al2 S2 (fN.trans f2) gr hlt, fun H' => ∃ m', m' < it.items.length - i ∧ ∃ al' S', Fut K (upd H1 D (.dK [])) (al1 ++ [D]) H' al' S' ∧ wDc it.grd g tt tk tv (wipeD sg vs) S1.length (fun S' => kd (.ref S1.length) S') (it.items.drop (i + 1)) S' ∧ m' = it.items.length - (i + 1) ∧ i + 1 ≤ it.items.length, fun H' h => h, fun x H' hy => ?_⟩
    obtain ⟨f3, r3⟩ := iok.yld i _ H2 al2 S2 x H' (fN.trans f2) gr (List.getElem?_eq_getElem hlt) hy
    have fA := (f1.trans fN).trans (f2.trans f3)
    refine hw _ _ _ _ _ (fun s2 H2 e q => ⟨e.trans (wipe_wipe _ _), q⟩) (hl _ _ _ _ ⟨_, wipeD sg vs, al2, S2, _, XF, f3.rs, rsl_wipe (fA.rsl rl) vs, r3, w2, fun sg4 S4 al4 H4 sv4 f4 rl4 q4 => ?_, ux0⟩)
    refine ⟨sg4, al4, S4, _, XF, f4.rs, rl4, q4, fun b S5 al5 H5 f5 q5 => ite_of ⟨fun e => ?_, fun e => ?_⟩, ux0⟩
    · refine ⟨sg4, al5, S5, _, XF, f5.rs, f5.rsl rl4, q5.1 e, fun y S6 al6 H6 v6 f6 r6 q6 => ?_, ux0⟩
      refine ⟨sg4, al6, S6, _, XF, f6.rs, f6.rsl (f5.rsl rl4), q6, fun z S7 al7 H7 v7 f7 r7 q7 => ?_, ux0⟩
      obtain ⟨acc, key, ek, ha, hz, q7⟩ := q7
      subst ek
      have fB := ((f2.trans f3).trans f4).trans ((f5.trans f6).trans f7)
      have a7 := getExt fB aN
      obtain ⟨us, e7, ru⟩ := f7.rs.ob _ _ _ ha a7
      exact ⟨us, key, key_rd r6, e7, by rw [rks_len ru]; exact hz, it.items.length - (i + 1), by omega, al7, _, fB.trans (set_dic f7.rs ha a7 (rks_put r7 ru)), q7, rfl, hlt⟩
    · exact ⟨it.items.length - (i + 1), by omega, al5, S5, ((f2.trans f3).trans f4).trans f5, q5.2 e, rfl, hlt⟩
  · have e : i = it.items.length := by omega
    subst e
    rw [List.drop_length] at w2
    obtain ⟨gr, w2⟩ := w2
    exact .inl ⟨iok.stop H2 al2 S2 (fN.trans f2) gr, up (.ref S1.length) S2 al2 H2 (.ref D) ((f1.trans fN).trans f2) ⟨D, rfl, getExt f2 aN⟩ w2⟩
section
variable {X : Cx} {E : XK} {tg iter : Expr} {g : TGD} {tV : TG} {is : List Nat}
theorem q_dc {kx vx : Expr} {ifs : List Expr} {scope : Scope} {own : List (Str × Nat)} {pos : Pos} {ti : TID} {tt : TTD} {tk tv : TED} (hc : X.calm = true) (hN : X.N.Nodup) (hi : QI X E tg iter ti) (ok : BlkOk X.N X.env.scope scope own)
    (hg : ∀ (s : Shared) (H : Hp) (C : Addr) (cl : List (Str × Addr)) (fp : List Addr), QG (X.blk s H scope (compEnvC scope cl C X.env) fp) E0 tg g tV is) (ht : ∀ (s : Shared) (H : Hp) (C : Addr) (cl : List (Str × Addr)) (fp : List Addr), QTs (X.blk s H scope (compEnvC scope cl C X.env) fp) E0 ifs tt)
    (hk : ∀ (s : Shared) (H : Hp) (C : Addr) (cl : List (Str × Addr)) (fp : List Addr), QE (X.blk s H scope (compEnvC scope cl C X.env) fp) E0 kx tk)
    (he : ∀ (s : Shared) (H : Hp) (C : Addr) (cl : List (Str × Addr)) (fp : List Addr), QE (X.blk s H scope (compEnvC scope cl C X.env) fp) E0 vx tv) (his : is.all (own.map (·.2)).contains = true := by rfl) (hs : ∀ x, foldedSetIterable iter X.env x = pure x := by intro _; rfl) :
    QE X E (.DictComp kx vx [⟨tg, iter, ifs, 0⟩] scope pos) (dDc ti g tt tk tv (own.map (·.2))) := by
  have hv : ∀ i ∈ is, i ∈ own.map (·.2) := fun i hi => by
    have q := List.all_eq_true.mp his i hi
    simpa using q
  refine pe_imp (pe_dc (tk := LE ⟨X.K, X.mg, E0⟩ tk) (tv := LE ⟨X.K, X.mg, E0⟩ tv) (tt := LT ⟨X.K, X.mg, E0⟩ tt) hc hN hi ok (fun s H C cl fp => (hg s H C cl fp).1) ht hk he hs) fun s H Q q => ?_
  have h0 := hg X.s_0 H 0 [] []
  exact dc_red (mg := X.mg) h0.2.1 (h0.2.2 _ hv) q
end
/-- sorted of a dict's keys, ints -/
def spSortedD : SpD := fun ds S k _ => match ds with
  | [.ref n] => ∃ (kvs : List (Key × D)) (ks : List Int), S[n]? = some (.dic kvs) ∧ kvs.map (·.1) = ks.map Sum.inl ∧ ks.length < 64 ∧ ∀ ms : List Int, ms.Perm ks → ms.Pairwise (· ≤ ·) → k (.ref S.length) (S ++ [.lst (ms.map D.int)])
  | _ => False
theorem c_sortedD {X : Cx} {E : XK} (hc : X.calm = true) : CallR X (.builtin "sorted") (LLs (cy X E) spSortedD) := by
  intro pins s σ H xs us Q I r ⟨ds, al, S, kd, xd, rs, rd, q, up, ux⟩
  unfold spSortedD at q
  split at q
  · obtain ⟨kvs, ks, hS, hk, hz, q⟩ := q
    obtain ⟨v, e, a, e2, ha⟩ := rds1 rd
    subst e e2
    obtain ⟨vs, e1, rk⟩ := rs.ob _ _ _ hS ha
    exact call_sortedDI hc pins s σ H _ us Q I r ⟨a, vs, ks, rfl, .of e1, (rks_keys rk).trans hk, hz, fun ms p hp hs hn => up_new up rs hn (ints_rd ms) (q ms hp hs)⟩
  · exact q.elim
end Q
namespace Q
open PySem
open Spec PyProof.Rows L2

/-! ### defs that are called where no repr is under way; repr -/
structure FnG (P : Program) (w : World) (K : PySem.W.Frag) (mg : Str → Option Value) (base : Heap) (k : Nat) (f : Addr) (fd : FuncData) (ps : List Str) (sp : Sp) : Prop where
  len : ∀ vs H Q E, sp vs H Q E → vs.length = ps.length
  go : ∀ (A : Around) (outer : List Env) (s : Shared) (H : Hp) (args : Args) (us : List Value) (vs : List V) (Q : VK) (E : XK), A.guards = some [] → Room k A → Env0 P w K mg base A outer s H → BindsTo s fd args (ps.zip us) → Vals vs us → sp vs H Q E →
    codeAny (model P w) A (.call (.ref f) args) (CR (L2.CX P w) outer P w H s Q E) s
theorem FnG.of {P : Program} {w : World} {K : PySem.W.Frag} {mg : Str → Option Value} {base : Heap} {k : Nat} {f : Addr} {fd : FuncData} {ps : List Str} {sp : Sp} (F : FnOk P w K mg base (L2.CX P w) k f fd ps sp) : FnG P w K mg base k f fd ps sp :=
  ⟨F.len, fun A outer s H args us vs Q E _ => F.run A outer s H args us vs Q E⟩
section
variable {P : Program} {w : World} {K : PySem.W.Frag} {mg : Str → Option Value} {base : Heap} {x qual : Str} {params : Arguments} {body : List Stmt} {scope : Scope} {f : Addr} {fd : FuncData} {ps N : List Str} {k : Nat} {t : TSD} {sp : SpD}
theorem def_okG (F : FunD K x qual params body scope [] [] f fd) (S : FnScope N ps scope)
    (hbody : ∀ (cdv : Value) (A : Around) (outer : List Env) (s : Shared) (H : Hp) (E : XK), A.guards = some [] → Room k (A.deeper (envOfC qual scope s.heap.objs.size f cdv)) → QSs (cxOf (L2.CX P w) P w K mg base N qual scope f cdv A outer s H E) E body t)
    (hsp : Keeps ps.length N.length t sp) : FnG P w K mg base (k + 1) f fd ps (LP K mg ps.length sp) := by
  obtain ⟨_, _, _, _, doc, pm, an, cdv, ct, _, rfl, lk, hcd, _, _⟩ := F.ex
  constructor
  · exact fun vs H Q E h => h.1
  intro A outer s H args us vs Q E hG hr e0 hb r h
  obtain ⟨hl, ds, al, S0, kd, xd, rs, rd, q, up, ux⟩ := h
  have hlu := hl
  have keep : ∀ b o, base.get? b = some o → s.heap.get? b = some o := fun b o e => (e0.bs b o e).1
  have par : ∀ y ∈ ps.zip us, scope.names.lookup y.1 = some .local ∨ (scope.names.lookup y.1 = some .cell ∧ ((cellsFrom (s.heap.objs.size + 1) scope.names []).lookup y.1).isSome = true) := by
    rintro ⟨n, v⟩ hy
    exact (S.par n (List.of_mem_zip hy).1).imp id fun q => ⟨q, PySem.W.cellsFrom_some _ _ _ (.inl q)⟩
  refine codeAny_call_function hr.depth (e0.mod.kin.keeps keep _ _ lk) rfl S.co S.gen rfl (PySem.W.codeRec_of (e0.mod.kin.keeps keep) hcd) (hb _ _ _ _ (wpAny_newFunctionEnv_cells S.kind par ?_))
  rintro env rfl s1 nw
  refine ⟨(e0.mod.nolimit.keeps keep).keeps nw.toInCall.keep, codeAny_func ?_⟩
  have J := inv_start (CX := L2.CX P w) (E := E) S hr.hd e0 hl r nw
  have T := hbody cdv A outer s H E hG (hr.deeper _)
  refine wpAny_mono (T.run [] s1 (start N vs) H { nx := fun _ H' => Q .non H', rt := Q } J ⟨startD N.length ds, al, S0, endsD S0.length kd xd, rs, rsl_start rd, hsp ds S0 kd xd (by rw [← RDs.length rd]; exact hl) (rs_cl rs) (by rw [← rs.len]; exact rds_cl ds vs rd) q, ?_⟩) ?_ fun _ _ z => z
  · rw [← rs.len]
    exact ⟨fun sg S' al' H' sv f1 r1 q1 => up_wk up .non S' al' H' .non f1 rfl q1, up_wk up, fun sg S' al' H' sv f1 r1 q1 => q1.elim, fun sg S' al' H' sv f1 r1 q1 => q1.elim, ux_wk ux⟩
  · intro fl s' hs
    match fl, hs with
    | .ret u, ⟨v, σ', H', J, rv, q⟩ => exact ⟨v, H', J.os, J.bare, J.base, J.hok, rv, q⟩
    | .next, ⟨σ', H', J, q⟩ => exact ⟨.non, H', J.os, J.bare, J.base, J.hok, rfl, q⟩
    | .brk, ⟨_, _, _, q⟩ => exact q.elim
    | .cont, ⟨_, _, _, q⟩ => exact q.elim
end
section
variable {X : Cx} {E : XK} {e : Expr} {es : List Expr} {tr : TAD} {pos p : Pos} {k n : Nat} {f : Addr} {fd : FuncData} {ps : List Str} {sp : SpD} {x : Str}
theorem q_callG (hG : X.A.guards = some []) (F : FnG X.prog X.w X.K X.mg X.base k f fd ps (LP X.K X.mg n sp)) (hr : Room k X.A) (hg : Gl X x) (hm : X.mg x = some (.ref f)) (hk : PySem.W.keepIn X.K (.ref f) = true) (hb : Binds X.K fd ps []) (hx : Passes (L2.CX X.prog X.w) X E)
    (ha : QA X E (e :: es) tr) (hdb : (x == ("__debug__" : Str)) = false := by decide) (he : starEach (e :: es) X.env = (false, eval e X.env) :: starEach es X.env := by rfl) (hpl : (backTo pos (starEach es X.env)).any (·.1) = false := by rfl) :
    QE X E (.Call (.Name x p) (e :: es) [] pos) (dCall (spN n sp) tr) := by
  constructor
  rintro pins s σ H Q I ⟨sg, al, S, kd, xd, rs, rl, q, up, ux⟩
  refine wpAny_Call_Name_kw (ld_glob I hg hm (PySem.W.callWith_K (h₀ := X.base) I.ok.mod.kin hk (thn (ha.run pos pins s σ H (fun vs H1 => ∃ ds al1 S1, Fut X.K H al H1 al1 S1 ∧ RDs X.K H1 al1 ds vs ∧ kCall (spN n sp) kd xd ds S1) I
    ⟨sg, al, S, _, xd, rs, rl, q, fun ds S1 al1 H1 vs f1 r1 q1 => ⟨ds, al1, S1, f1, r1, q1⟩, ux⟩) ?_) he hpl) hdb)
  rintro us s1 ⟨vs, H1, I1, r, ds, al1, S1, f1, r1, l1, q1⟩
  refine ⟨I1.kIn, ?_⟩
  have h : LP X.K X.mg n sp vs H1 Q E := ⟨by rw [RDs.length r1]; exact l1, ds, al1, S1, kd, xd, f1.rs, r1, q1, up.mono f1, ux.mono f1⟩
  have l2 : (us ++ []).length = ps.length := by rw [List.append_nil, ← r.length]; exact F.len _ _ _ _ h
  have b := hb s1 us I1.kIn l2
  rw [List.append_nil] at b
  refine wpAny_call (codeAny_mono (F.go X.A X.stack s1 H1 ⟨us, []⟩ us vs Q E hG hr I1.env0 b r h) ?_)
  intro r' s' hq
  match r', hq with
  | .error e, hq => exact hx pins σ H1 s1 e s' I1 hq
  | .ok (.ret u), hq => exact I1.after hq
  | .ok .next, hq => exact hq.elim
  | .ok .brk, hq => exact hq.elim
  | .ok .cont, hq => exact hq.elim
/-- repr of a tuple, of a list -/
def spRepr : SpD := fun ds S k _ => ∃ d q, ds = [d] ∧ DPy S d q ∧ flatD d = false ∧ q.showable = true ∧ q.hasDict = false ∧ q.depth ≤ 60 ∧ q.shown.length ≤ sizeLine ∧ k (.str q.shown) S
theorem c_repr (hG : X.A.guards = some []) (hr : Room k X.A) : CallR X (.builtin "repr") (LLs (cy X E) spRepr) := by
  intro pins s σ H xs us Q I r ⟨ds, al, S, kd, xd, rs, rd, ⟨d, q, ed, hd, hf, h1, h2, h3, h4, hk⟩, up, ux⟩
  subst ed
  obtain ⟨v, e, rv⟩ := rds1 rd
  subst e
  obtain ⟨u, eu, ru⟩ := vals1 r
  subst eu
  obtain ⟨as, R⟩ := Dp.reads I q v u (DPy.dp rs q d v hd rv) ru
  have un := hr.un
  obtain ⟨a, ea⟩ : ∃ a, u = .ref a := by
    cases d with
    | tup ds =>
      obtain ⟨a, vs, e, _⟩ := rv
      subst e
      exact ⟨a, ru⟩
    | ref n =>
      obtain ⟨a, e, _⟩ := rv
      subst e
      exact ⟨a, ru⟩
    | _ => exact nomatch hf
  subst ea
  refine repr_of_reads' R h1 (fun z => by rw [h2] at z; cases z) hG (by omega) (fun _ _ e => e) (fun h' u tk kp => ⟨.str q.shown, H, I.kept kp, ⟨u, rfl⟩, up_at up rs (d := .str q.shown) rfl hk⟩) h4
end
end Q
namespace Q
open PySem
open Spec PyProof.Rows L2

/-! ### the law's call, where no repr is under way -/
section
variable {P : Program} {w : World} {K : PySem.W.Frag} {mg mb : Str → Option Value} {k : Nat} {fa a : Addr} {fd : FuncData} {x : Str} {sp : Sp} {st : Shared} {vs : List Value} {ns : List Int} {H : Hp}
/-- the caller's side, where the script alone may be tracked -/
theorem lone_env (KX : K.In st.heap) (hns : st.heap.Ns mainGlobals mg) (hb : st.heap.Ns builtinsNs mb) (hbb : ∀ x : Str, x ≠ "__name__" → mb x = bootBuiltins x) (hlim : st.heap.NoLimit) (hg : st.gens = #[])
    (ha : st.heap.get? a = some { cls := .type "list", data := .seq vs.toArray }) (hok : HOk P w H st.heap) (hA : ∀ b, H b ≠ none → b = a) (hK : H a ≠ none → K.lookup a = none) :
    K.In (hidT st.heap H) ∧ (hidT st.heap H).Ns mainGlobals mg ∧ Env0 P w K mg (hidT st.heap H) callerA [] st H := by
  have free : ∀ {b : Addr}, (H b = none) ∨ (b = a ∧ H b ≠ none) := fun {b} => by
    by_cases q : H b = none
    · exact .inl q
    · exact .inr ⟨hA b q, q⟩
  have nsIn : ∀ {b : Addr} {m : Str → Option Value}, st.heap.Ns b m → (hidT st.heap H).Ns b m := by
    rintro b m ⟨o, es, ep, e, d, r⟩
    rcases free (b := b) with q | ⟨rfl, _⟩
    · exact ⟨o, es, ep, hidT_get e q, d, r⟩
    · rw [ha] at e
      cases e
      cases d
  have kin : K.In (hidT st.heap H) := by
    intro b o e
    rcases free (b := b) with q | ⟨rfl, q⟩
    · exact hidT_get (KX b o e) q
    · rw [hK q] at e
      cases e
  obtain ⟨mc, l1, l2⟩ := hlim
  exact ⟨kin, nsIn hns, rfl, ⟨kin, nsIn hns, ⟨mb, nsIn hb, hbb⟩, mc, nsIn l1, l2⟩, fun b o e => of_hidT e, Nat.le_of_eq (hidT_size _ _), trivial, fun b hb => (nomatch hb), hok, .of_eq hg⟩
theorem law_callG (KX : K.In st.heap) (hns : st.heap.Ns mainGlobals mg) (hb : st.heap.Ns builtinsNs mb) (hbb : ∀ x : Str, x ≠ "__name__" → mb x = bootBuiltins x) (hlim : st.heap.NoLimit) (hg : st.gens = #[])
    (ha : st.heap.get? a = some { cls := .type "list", data := .seq vs.toArray }) (hi : IntsAre vs ns) (hl : ns.length ≤ sizeLine) (hr : Room k callerA)
    (F : ∀ B : Heap, K.In B → B.Ns mainGlobals mg → FnG P w K mg B k fa fd [x] sp) (hbind : ∀ (s : Shared) (u : Value), BindsTo s fd ⟨[u], []⟩ [(x, u)])
    (hsp : ∀ H : Hp, Only H → SqL K H a (ns.map V.int) → sp [.ref a] H (fun v _ => v = .bl true) fun _ _ _ => False)
    (hCX : ∀ H e s', L2.CX P w [] H st (fun _ _ _ => False) e s' → False) :
    codeAny (model P w) callerA (.call (.ref fa) ⟨[.ref a], []⟩) (fun r s' => r = .ok (.ret (.bool true)) ∧ OldK st.heap s'.heap ∧ s'.os = st.os ∧ AllBare s'.gens) st := by
  have rv := vals_ints hi
  suffices go : ∀ H : Hp, Only H → SqL K H a (ns.map V.int) → HOk P w H st.heap → (∀ b, H b ≠ none → b = a) → (H a ≠ none → K.lookup a = none) →
      codeAny (model P w) callerA (.call (.ref fa) ⟨[.ref a], []⟩) (fun r s' => r = .ok (.ret (.bool true)) ∧ OldK st.heap s'.heap ∧ s'.os = st.os ∧ AllBare s'.gens) st by
    cases hk : K.lookup a with
    | some o =>
      have e := KX a o hk
      rw [ha] at e
      cases e
      exact go (fun _ => none) (fun _ => .inl rfl) (.inr ⟨_, vs.toArray, _, hk, rfl, rfl, rfl, by rw [List.size_toArray, hi.length]; exact hl, by simpa using rv⟩) (fun _ _ z => nomatch z) (fun _ z => (z rfl).elim) fun z => (z rfl).elim
    | none =>
      have at_ : ∀ b : Addr, (b = a ∧ (if b = a then some (HO.frz { cls := .type "list", data := .seq vs.toArray } (.lst (ns.map V.int))) else none) = some (.frz { cls := .type "list", data := .seq vs.toArray } (.lst (ns.map V.int)))) ∨
          (if b = a then some (HO.frz { cls := .type "list", data := .seq vs.toArray } (.lst (ns.map V.int))) else none) = none := fun b => by
        by_cases q : b = a
        · exact .inl ⟨q, if_pos q⟩
        · exact .inr (if_neg q)
      refine go (fun b => if b = a then some (.frz { cls := .type "list", data := .seq vs.toArray } (.lst (ns.map V.int))) else none) (fun b => ?_) (.inl (.inr ⟨{ cls := .type "list", data := .seq vs.toArray }, if_pos rfl⟩)) (fun b u z => ?_) (fun b z => ?_) fun _ => hk
      · rcases at_ b with ⟨_, q⟩ | q
        · exact .inr ⟨_, _, q⟩
        · exact .inl q
      · rcases at_ b with ⟨rfl, q⟩ | q
        · cases q.symm.trans z
          exact ⟨ha, by rw [List.length_map]; exact hl, vs, _, rv, ha⟩
        · cases q.symm.trans z
      · rcases at_ b with ⟨e, _⟩ | q
        · exact e
        · exact absurd q z
  intro H hO hS hok hA hK
  obtain ⟨k1, k2, e0⟩ := lone_env KX hns hb hbb hlim hg ha hok hA hK
  refine codeAny_mono ((F _ k1 k2).go callerA [] st H ⟨[.ref a], []⟩ [.ref a] [.ref a] _ _ rfl hr e0 (hbind st (.ref a)) (.cons rfl .nil) (hsp H hO hS)) ?_
  intro r s' h
  match r, h with
  | .error e, h => exact (hCX H e s' h).elim
  | .ok .next, h => exact h.elim
  | .ok .brk, h => exact h.elim
  | .ok .cont, h => exact h.elim
  | .ok (.ret u), ⟨v, H', os, bare, un, hok', r', q⟩ =>
    cases (show v = .bl true from q)
    cases (show u = Value.bool true from r')
    refine ⟨rfl, OldK.of_keep fun b o e => ?_, os, bare⟩
    rcases hO b with z | ⟨ob, xs, z⟩
    · exact un.keep b o e z (by intro z; exact absurd (show b ∈ ([] : List Addr) from z) (by simp)) (by simp)
    · obtain ⟨e1, _⟩ := hok b _ z
      rw [e] at e1
      cases e1
      exact (hok' b _ (un.frzs b _ _ z)).1
end
structure OwesG (Pg : Program) (n k : Nat) (x : Str) (w : World) (mg : Str → Option Value) (fa : Addr) (h : Heap) : Prop where
  ex : ∃ (K : PySem.W.Frag) (fd : FuncData) (sp : Sp), (K.In h ∧ ∀ (s : Shared) (u : Value), BindsTo s fd ⟨[u], []⟩ [(x, u)]) ∧
    (∀ (H : Hp) (a : Addr) (ns : List Int), ns.length ≤ n → Only H → SqL K H a (ns.map V.int) → sp [.ref a] H (fun v _ => v = .bl true) fun _ _ _ => False) ∧ ∀ B : Heap, K.In B → B.Ns mainGlobals mg → FnG Pg w K mg B k fa fd [x] sp
theorem walk_ofG {l : PySem.W.OpenLaw} {n k : Nat} {q : Program} {loose : List Str} {XP : (Str → Option Value) → Heap → Prop} {YP : World → Heap → Prop} {d : DefRec} {x : Str} (hn : l.most = some n) (hn2 : n ≤ sizeLine) (hdf : d.params.defaults = []) (hr : Room k callerA)
    (F : ∀ (w : World) (mg : Str → Option Value) (fa : Addr) (h : Heap), YP w h → h.Ns mainGlobals mg → mg d.name = some (.ref fa) → OwesG l.prog n k x w mg fa h) : PySem.W.WalkO q loose XP YP l.row.toRowW d [] (fun f vs => PySem.call f vs) := by
  refine Att.attach_call hn hdf ?_
  intro w s₀ s₁ mg mb fa o pm cd doc a vs ns G Y ho hd hcd hmg hobj hints hlen hg
  obtain ⟨K, fd, sp, ⟨KX, hb⟩, hsp, hF⟩ := (F w mg fa _ Y G.T.g hmg).ex
  refine law_callG KX G.T.g G.T.b G.T.builtins G.T.nolimit hg hobj hints (Nat.le_trans hlen hn2) hr hF hb (fun H hO hS => hsp H a ns hlen hO hS) ?_
  rintro H e s' ⟨_, _, _, _, _, _, _, _, _, _, _, _, z⟩
  exact z.elim
/-- a def that asks for known guards, known to a caller -/
structure FTG (P : Program) (w : World) (K : PySem.W.Frag) (mg : Str → Option Value) (base : Heap) (x : Str) (k : Nat) (ps : List Str) (sp : SpD) (f : Addr) (fd : FuncData) : Prop where
  ok : FnG P w K mg base k f fd ps (LP K mg ps.length sp)
  hm : mg x = some (.ref f)
  hk : PySem.W.keepIn K (.ref f) = true
  hb : Binds K fd ps []
end Q
namespace Q
open PySem
open Spec PyProof.Rows L2

/-! ### xs.insert(i, y), xs[::-1] of a list -/
def rIns : RMD := fun d ds S k _ => match d, ds with
  | .ref n, [.int i, y] => ∃ xs, S[n]? = some (.lst xs) ∧ xs.length < sizeLine ∧ 0 ≤ i ∧ i < 2 ^ 63 ∧ k .non (S.set n (.lst (xs.take i.toNat ++ [y] ++ xs.drop i.toNat)))
  | _, _ => False
theorem m_ins {X : Cx} {E : XK} : MtR X "list.insert" (LLm (cy X E) rIns) := by
  intro pins s σ H x vs v us Q I rx rv ⟨d, ds, al, S, kd, xd, rs, rd, rds, q, up, ux⟩
  unfold rIns at q
  split at q
  · obtain ⟨xs, h1, hz, h0, h63, q⟩ := q
    obtain ⟨a, us', e1, ha, hH, r1⟩ := lst_at rs h1 rd
    obtain ⟨z, y, e2, rz, ry⟩ := rds2 rds
    cases (show z = _ from rz)
    exact mt_insert pins s σ H x vs v us Q I rx rv ⟨a, us', _, y, e1, e2, hH, by rw [RDs.length r1]; exact hz, h0, h63, up .non _ al _ .non (set_lst rs h1 ha (RDs.append (RDs.append (RDs.take _ r1) (RDs.one ry)) (RDs.drop _ r1))) rfl q⟩
  · exact q.elim
def kRev (k : KD) : KD := fun d S => match d with
  | .ref n => ∃ xs, isL S n xs ∧ k (.ref S.length) (S ++ [.lst xs.reverse])
  | _ => False
def dRevL (te : TED) : TED := fun sg S k x => te sg S (kRev k) x
theorem rds_rev {K : PySem.W.Frag} {H : Hp} {al : List Addr} : ∀ {ds : List D} {vs : List V}, RDs K H al ds vs → RDs K H al ds.reverse vs.reverse
  | [], _, h => by rw [show _ = [] from h]; exact rfl
  | d :: ds, _, ⟨v, r, e, h1, h2⟩ => by
    subst e
    rw [List.reverse_cons, List.reverse_cons]
    exact RDs.append (rds_rev h2) (RDs.one h1)
theorem q_revL {X : Cx} {E : XK} {e : Expr} {te : TED} {k : Nat} {p1 p2 p3 pos : Pos} (he : QE X E e te) : QE X E (.Subscript e (.Slice none none (some (.UnaryOp .USub (.Constant (.int 1) k p1) p2)) p3) pos) (dRevL te) :=
  pe_imp (pe_revL he) fun s H Q ⟨sg, al, S, kd, xd, rs, rl, q, up, ux⟩ => ⟨sg, al, S, kRev kd, xd, rs, rl, q, fun d S1 al1 H1 v f1 r1 q1 => by
    unfold kRev at q1
    split at q1
    · obtain ⟨xs, hl, q1⟩ := q1
      obtain ⟨a, vs, e2, _, h1, rv⟩ := isL_at f1.rs hl r1
      exact ⟨a, vs, e2, h1, fun p hp => up_new (up.mono f1) f1.rs hp (rds_rev rv) q1⟩
    · exact q1.elim, ux⟩
/-- a comprehension whose element may change the store -/
theorem lc_ind {it : ItD} {i : Nat} {te : TED} {sg : Sl} {k : KD} {S : Sto} (I : List D → List D → Sto → Prop) (h0 : I it.items [] (S ++ [.lst []])) (hend : ∀ acc T, I [] acc T → it.grd T ∧ k (.ref S.length) T)
    (hs : ∀ d r acc T (kk : KD), I (d :: r) acc T → (∀ y T2, T2[S.length]? = some (.lst acc) → acc.length < sizeLine → I r (acc ++ [y]) (T2.set S.length (.lst (acc ++ [y]))) → kk y T2) → it.grd T ∧ te (sg.set i (some d)) T kk XF) : kLc (gNm i) dYes te sg k it S := by
  have go : ∀ (items acc : List D) (T : Sto), I items acc T → wLc it.grd (gNm i) dYes te sg S.length (fun S' => k (.ref S.length) S') items T := by
    intro items
    induction items with
    | nil => exact fun acc T h => hend acc T h
    | cons d r ih =>
      intro acc T h
      have q := hs d r acc T (kLc3 S.length (wLc it.grd (gNm i) dYes te sg S.length (fun S' => k (.ref S.length) S') r)) h fun y T2 h1 h2 h3 => ⟨acc, h1, h2, ih _ _ h3⟩
      exact ⟨q.1, ⟨fun _ => q.2, fun z => nomatch z⟩⟩
  exact go _ _ _ h0
theorem set_mid {A G G2 : Sto} {o u : O} {m : Nat} (h : A.length + G.length = m) : (A ++ (G ++ o :: G2)).set m u = A ++ (G ++ u :: G2) := by
  subst h
  rw [← List.append_assoc, ← List.length_append, set_at0, List.append_assoc]
theorem get_mid {A G G2 : Sto} {o : O} {m : Nat} (h : A.length + G.length = m) : (A ++ (G ++ o :: G2))[m]? = some o := by
  subst h
  rw [← List.append_assoc, ← List.length_append, get_at0]
theorem set_in {A G : Sto} {u : O} {m r : Nat} (h : A.length + r = m) : (A ++ G).set m u = A ++ G.set r u := by
  subst h
  exact set_at
end Q
namespace Q
open PySem
open Spec PyProof.Rows L2

/-! ### tuple(range(n)), list(range(n)) -/
def rgD (a b : Int) : List D := (List.range (b - a).toNat).map fun i => D.int (a + (i : Nat))
theorem rg_rds {K : PySem.W.Frag} {H : Hp} {al : List Addr} (a b : Int) : RDs K H al (rgD a b) (rgV a b) := by
  unfold rgD rgV
  generalize List.range (b - a).toNat = l
  induction l with
  | nil => exact rfl
  | cons i l ih => exact ⟨_, _, rfl, rfl, ih⟩
def kTupRg (k : KD) : KD := fun d S => match d with
  | .int n => RgOk 0 n ∧ k (.tup (rgD 0 n)) S
  | _ => False
def kLstRg (k : KD) : KD := fun d S => match d with
  | .int n => RgOk 0 n ∧ k (.ref S.length) (S ++ [.lst (rgD 0 n)])
  | _ => False
def dTupRg (te : TED) : TED := fun sg S k x => te sg S (kTupRg k) x
def dLstRg (te : TED) : TED := fun sg S k x => te sg S (kLstRg k) x
theorem q_tupRg {X : Cx} {E : XK} {a : Expr} {te : TED} {p p2 pos pos2 : Pos} (hc : X.calm = true) (hm : X.mg "tuple" = none) (hr : X.mg "range" = none) (ha : QE X E a te) (hg : Gl X "tuple" := by rfl) (hg2 : Gl X "range" := by rfl)
    (n1 : starEach [a] X.env = (false, eval a X.env) :: starEach [] X.env := by rfl) (n2 : starEach [Expr.Call (.Name "range" p2) [a] [] pos2] X.env = (false, eval (.Call (.Name "range" p2) [a] [] pos2) X.env) :: starEach [] X.env := by rfl) :
    QE X E (.Call (.Name "tuple" p) [.Call (.Name "range" p2) [a] [] pos2] [] pos) (dTupRg te) :=
  pe_imp (pe_tupRg hc hg hm (prg_1 hg2 hr ha n1) n2) fun s H Q ⟨sg, al, S, kd, xd, rs, rl, q, up, ux⟩ => ⟨sg, al, S, kTupRg kd, xd, rs, rl, q, fun d S1 al1 H1 v f1 r1 q1 => by
    unfold kTupRg at q1
    split at q1
    · cases (show v = _ from r1)
      exact ⟨_, rfl, q1.1, fun p hp => up_tup (up.mono f1) f1.rs hp (rg_rds _ _) q1.2⟩
    · exact q1.elim, ux⟩
theorem q_lstRg {X : Cx} {E : XK} {a : Expr} {te : TED} {p p2 pos pos2 : Pos} (hc : X.calm = true) (hm : X.mg "list" = none) (hr : X.mg "range" = none) (ha : QE X E a te) (hg : Gl X "list" := by rfl) (hg2 : Gl X "range" := by rfl)
    (n1 : starEach [a] X.env = (false, eval a X.env) :: starEach [] X.env := by rfl) (n2 : starEach [Expr.Call (.Name "range" p2) [a] [] pos2] X.env = (false, eval (.Call (.Name "range" p2) [a] [] pos2) X.env) :: starEach [] X.env := by rfl) :
    QE X E (.Call (.Name "list" p) [.Call (.Name "range" p2) [a] [] pos2] [] pos) (dLstRg te) :=
  pe_imp (pe_listRg hc hg hm (prg_1 hg2 hr ha n1) n2) fun s H Q ⟨sg, al, S, kd, xd, rs, rl, q, up, ux⟩ => ⟨sg, al, S, kLstRg kd, xd, rs, rl, q, fun d S1 al1 H1 v f1 r1 q1 => by
    unfold kLstRg at q1
    split at q1
    · cases (show v = _ from r1)
      exact ⟨_, rfl, q1.1, fun p hp => up_new (up.mono f1) f1.rs hp (rg_rds _ _) q1.2⟩
    · exact q1.elim, ux⟩
end Q
namespace Q
open PySem
open Spec PyProof.Rows L2

/-! ### xs[::-1] of a list or a tuple -/
section
variable {prog : Program} {w : World} {A : Around} {E : Value → Shared → Prop} {s : Shared}
theorem adj_back (n : Nat) : Builtin.Slice.sliceAdjust none none (-1) (n : Int) = ((n : Int) - 1, -1) := rfl
theorem plc_back (n : Nat) : Builtin.Slice.slicePlaces ((n : Int) - 1) (-1) (-1) = n := by
  unfold Builtin.Slice.slicePlaces
  rw [if_neg (by decide), show (- -1 : Int) = 1 from rfl, Int.ediv_one]
  split <;> omega
theorem back_applied {sl : Addr} {vs : Value} {n : Nat} {Q : Int × Int × Nat → Shared → Prop} (hs : s.heap.IsSliceOf sl .none .none vs) (ps : IsPart vs (some (-1))) (h : Q ((n : Int) - 1, -1, n) s) :
    wpAny (model prog w) A (Builtin.Slice.sliceApplied (.ref sl) (pure (n : Int))) Q E s := by
  obtain ⟨o, ho, _, hd⟩ := id hs
  unfold Builtin.Slice.sliceApplied Builtin.Slice.sliceFields
  refine wpAny_bind (wpAny_bind (wpAny_field ho hd (x := .none) rfl (wpAny_bind (wpAny_field ho hd (x := .none) rfl (wpAny_bind (wpAny_field ho hd (x := vs) rfl (wpAny_pure ?_)))))))
  refine wpAny_bind (HT.slicePart_ ps ?_)
  show wpAny _ _ (if ((-1 : Int) == 0) = true then _ else _) _ _ s
  rw [if_neg (by decide)]
  refine wpAny_bind (slicePart_none (wpAny_bind (slicePart_none (wpAny_bind (wpAny_pure ?_)))))
  show wpAny _ _ (match Builtin.Slice.sliceAdjust none none (-1) (n : Int) with | (lo, hi) => pure (lo, (-1 : Int), Builtin.Slice.slicePlaces lo hi (-1))) _ _ s
  rw [adj_back]
  show wpAny _ _ (pure ((n : Int) - 1, (-1 : Int), Builtin.Slice.slicePlaces ((n : Int) - 1) (-1) (-1))) _ _ s
  rw [plc_back]
  exact wpAny_pure h
theorem back_pick (xs : Array Value) : ((List.range xs.size).filterMap fun (k : Nat) => xs[(((xs.size : Int) - 1) + (k : Int) * (-1)).toNat]?).toArray = xs.toList.reverse.toArray := by
  have e : ((List.range xs.size).filterMap fun (k : Nat) => xs[(((xs.size : Int) - 1) + (k : Int) * (-1)).toNat]?) = ((List.range xs.size).map fun k => xs.size - 1 - k).filterMap (xs[·]?) := by
    rw [List.filterMap_map]
    refine congrArg (fun f => (List.range xs.size).filterMap f) (funext fun k => ?_)
    show xs[(((xs.size : Int) - 1) + (k : Int) * (-1)).toNat]? = xs[xs.size - 1 - k]?
    rw [show (((xs.size : Int) - 1) + (k : Int) * (-1)).toNat = xs.size - 1 - k by omega]
  rw [e, PySem.W.krv_range, List.filterMap_reverse, PySem.W.krv_all]
theorem back_tup {t sl : Addr} {items : Array Value} {vs : Value} {Q : Value → Shared → Prop} (ht : IsTup s.heap t items) (hs : s.heap.IsSliceOf sl .none .none vs) (ps : IsPart vs (some (-1)))
    (h : Q (.ref s.heap.objs.size) { s with heap := s.heap.push { cls := .type "tuple", data := .seq items.toList.reverse.toArray } }) (hz : items.size ≤ sizeLine) : wpAny (model prog w) A (getItem (.ref t) (.ref sl)) Q E s := by
  have ok : sizeOk (.seq items.toList.reverse.toArray) := by
    show items.toList.reverse.toArray.size ≤ sizeLine
    rw [List.size_toArray, List.length_reverse, Array.length_toList]
    exact hz
  obtain ⟨o, ho, hc, hd⟩ := id hs
  have hT : s.TypeIs (.ref sl) "slice" := ⟨o, ho, hc⟩
  unfold getItem
  try with_reducible refine wpAny_holding ?_
  first | refine wpAny_bind (wpAny_pure ?_) | skip
  refine wpAny_bind (wpAny_sequenceKey ht.typeIs (by decide) ?_)
  refine wpAny_bind (wpAny_callSpecial?_slot (name := Str.ofString "__getitem__") ht.typeIs PyProof.Rows.slot_tuple_getitem (wpAny_call_entry PyProof.Rows.slot_tuple_getitem ht.typeIs entry_tuple_getitem ?_ (args_tuple_getitem _ _)))
  show wpAny _ _ (Builtin.Tuple.tupleItemsOf (.ref t) >>= _) _ _ s
  refine wpAny_bind (tupleItemsOf_ ht ?_)
  refine wpAny_bind (wpAny_typeOf hT ?_)
  rw [if_pos (by decide)]
  refine wpAny_bind (back_applied hs ps ?_)
  have no : ¬ ((((items.size : Int) - 1 == 0) && ((-1 : Int) == 1) && (items.size == items.size)) = true) := by
    rw [show ((-1 : Int) == 1) = false from by decide, Bool.and_false, Bool.false_and]
    exact Bool.false_ne_true
  show wpAny _ _ (if (((items.size : Int) - 1 == 0) && ((-1 : Int) == 1) && (items.size == items.size)) = true then _ else _) _ _ s
  rw [if_neg no, back_pick]
  first
    | exact wpAny_bind (m := Builtin.Tuple.tupleExact _) (wpAny_newObj_type (wpAny_pure ⟨_, rfl, wpAny_pure h⟩) ok)
    | exact wpAny_bind (m := Builtin.Tuple.tupleExact _) (wpAny_newObj_type (wpAny_bind (wpAny_pure (wpAny_pure ⟨_, rfl, wpAny_pure h⟩))) ok)
    | exact wpAny_bind (wpAny_bind (m := Builtin.Tuple.tupleExact _) (wpAny_newObj_type (wpAny_pure (wpAny_pure ⟨_, rfl, wpAny_pure h⟩)) ok))
end
def tBack (K : PySem.W.Frag) (te : TE) : TE := fun σ H Q => te σ H fun x H1 => ∃ a xs, x = .ref a ∧
  ((SqL K H1 a xs ∧ ∀ p, H1 p = none → Q (.ref p) (upd H1 p (.lst xs.reverse))) ∨ (SqT K H1 a xs ∧ ∀ p, H1 p = none → Q (.ref p) (upd H1 p (.tup xs.reverse))))
theorem pe_back {X : Cx} {e : Expr} {te : TE} {k : Nat} {p1 p2 p3 pos : Pos} (he : PE X e te) : PE X (.Subscript e (.Slice none none (some (.UnaryOp .USub (.Constant (.int 1) k p1) p2)) p3) pos) (tBack X.K te) := by
  refine ⟨fun pins s σ H Q I h => ?_⟩
  refine Subscript_ (thn (he.run pins s σ H _ I h) fun v s1 ⟨x, H1, I1, r1, a, xs, ex, q⟩ => ?_)
  subst ex
  cases r1
  have step : PO X (some (.UnaryOp .USub (.Constant (.int 1) k p1) p2)) (tPart (tUn (rU fun i => .int (-i)) (tC (.int 1)))) := po_some (pe_un un_neg pe_int)
  refine wpAny_Slice (thn (po_none.run pins s1 σ H1 (fun o H2 => o = none ∧ H2 = H1) I1 ⟨rfl, rfl⟩) fun vl s2 ⟨l, H2, I2, pl, el, e2⟩ => ?_)
  subst el e2
  refine thn (po_none.run pins s2 σ H2 (fun o H3 => o = none ∧ H3 = H2) I2 ⟨rfl, rfl⟩) fun vu s3 ⟨u, H3, I3, pu, eu, e3⟩ => ?_
  subst eu e3
  refine thn (step.run pins s3 σ H3 (fun o H4 => o = some (-1) ∧ H4 = H3) I3 ⟨1, rfl, -1, rfl, rfl, rfl⟩) fun vs s4 ⟨o, H4, I4, ps, eo, e4⟩ => ?_
  subst eo e4
  have I5 : Inv X pins σ H4 { s4 with heap := s4.heap.push { cls := .type "slice", data := .fields #[vl, vu, vs] } } := I4.kept (t' := s4.toks) fun b ob q => Heap.get?_push_of_some _ q
  rcases q with ⟨hx, q⟩ | ⟨hx, q⟩
  · obtain ⟨its, r, ht, hz⟩ := I5.list hx
    have hlen := r.length
    show wpAny (model X.prog X.w) X.A (subscriptTail e (.Slice none none (some (.UnaryOp .USub (.Constant (.int 1) k p1) p2)) p3) (.ref a) (.ref s4.heap.objs.size)) (EP X pins σ Q) X.xe { s4 with heap := s4.heap.push { cls := .type "slice", data := .fields #[vl, vu, vs] } }
    refine tail_any (ops := [.ref a, .ref s4.heap.objs.size]) ht.isList.typeIs (PySem.slot_list_getitem.lookup) ?_ (by with_unfolding_all rfl)
    refine wpAny_getItem_list_slice ht.isList (Heap.IsSliceOf.new _ vl vu vs) pl pu ps (by decide) ?_ (by rw [List.size_toArray]; omega)
    rw [PySem.W.krv_pick]
    refine ⟨.ref _, _, I5.laid (t' := s4.toks) (o := .lst xs.reverse) (fun b ob q => Heap.get?_push_of_some _ q) (Nat.le_refl _) ?_, rfl, q _ (I5.hok.fresh (Nat.le_refl _))⟩
    exact ⟨by rw [List.length_reverse]; exact hz, _, 0, r.reverse, Heap.get?_push_size _ rfl⟩
  · obtain ⟨its, r, ht, hz⟩ := I5.tuple hx
    have hlen := r.length
    cases pl
    cases pu
    show wpAny (model X.prog X.w) X.A (subscriptTail e (.Slice none none (some (.UnaryOp .USub (.Constant (.int 1) k p1) p2)) p3) (.ref a) (.ref s4.heap.objs.size)) (EP X pins σ Q) X.xe { s4 with heap := s4.heap.push { cls := .type "slice", data := .fields #[.none, .none, vs] } }
    refine tail_any (ops := [.ref a, .ref s4.heap.objs.size]) ht.typeIs (PyProof.Rows.slot_tuple_getitem.lookup) ?_ (by with_unfolding_all rfl)
    refine back_tup ht (Heap.IsSliceOf.new _ .none .none vs) ps ?_ (by rw [List.size_toArray]; omega)
    refine ⟨.ref _, _, I5.laid (t' := s4.toks) (o := .tup xs.reverse) (fun b ob q => Heap.get?_push_of_some _ q) (Nat.le_refl _) ?_, rfl, q _ (I5.hok.fresh (Nat.le_refl _))⟩
    exact ⟨by rw [List.length_reverse]; exact hz, its.reverse, r.reverse, ⟨_, Heap.get?_push_size _ rfl, rfl, _, rfl⟩⟩
def kBack (k : KD) : KD := fun d S => match d with
  | .ref n => ∃ xs, isL S n xs ∧ k (.ref S.length) (S ++ [.lst xs.reverse])
  | .tup xs => k (.tup xs.reverse) S
  | _ => False
def dBack (te : TED) : TED := fun sg S k x => te sg S (kBack k) x
theorem q_back {X : Cx} {E : XK} {e : Expr} {te : TED} {k : Nat} {p1 p2 p3 pos : Pos} (he : QE X E e te) : QE X E (.Subscript e (.Slice none none (some (.UnaryOp .USub (.Constant (.int 1) k p1) p2)) p3) pos) (dBack te) :=
  pe_imp (pe_back he) fun s H Q ⟨sg, al, S, kd, xd, rs, rl, q, up, ux⟩ => ⟨sg, al, S, kBack kd, xd, rs, rl, q, fun d S1 al1 H1 v f1 r1 q1 => by
    unfold kBack at q1
    split at q1
    · obtain ⟨xs, hl, q1⟩ := q1
      obtain ⟨a, vs, e2, _, h1, rv⟩ := isL_at f1.rs hl r1
      exact ⟨a, vs, e2, .inl ⟨h1, fun p hp => up_new (up.mono f1) f1.rs hp (rds_rev rv) q1⟩⟩
    · obtain ⟨a, vs, e2, h1, rv⟩ := r1
      exact ⟨a, vs, e2, .inr ⟨h1, fun p hp => up_tup (up.mono f1) f1.rs hp (rds_rev rv) q1⟩⟩
    · exact q1.elim, ux⟩
end Q
namespace Q
open PySem
open Spec PyProof.Rows L2
open Sem (wp)
open AutoSeq1 (wpAny_loadPart')

/-! ### enumerate of a tuple -/
theorem mk_enumT (t : Addr) (xs : Array Value) (n : Nat) (dct : Option Addr) (sl : Array (Option Value)) :
    Meets (Builtin.«enumerate.__new__» ⟨[.type "enumerate", .ref t], []⟩) (fun _ R s => s.heap.get? t = some { cls := .type "tuple", dict := dct, data := .seq xs n, slots := sl } ∧
      R (.ok (.ret (.ref (s.heap.push { cls := .type "tuple_iterator", data := .fields #[.ref t, .int 0 0] }).objs.size)))
        { s with heap := (s.heap.push { cls := .type "tuple_iterator", data := .fields #[.ref t, .int 0 0] }).push { cls := .type "enumerate", data := .fields #[.none, .bool false, .ref s.heap.objs.size, rawInt 0, .none, .none] } }) :=
  .of_wp fun prog w A R s hyp => by
    obtain ⟨hq, g, d, tk, os⟩ := s
    obtain ⟨ht, hyp⟩ := hyp
    have hs := sub_enumerate
    have hT : Heap.IsTuple (Shared.heap ⟨hq, g, d, tk, os⟩) t xs := ⟨_, ht, rfl, n, rfl⟩
    wp_walk using wpAny_loadPart' ht
    refine wpAny_stack_any fun _ => wpAny_pure ?_
    split
    · rename_i c _ _ _ _ _
      cases (c == Value.type "enumerate")
      · wp_walk using wpAny_loadPart' ht, wpAny_pyIter_tuple hT
        exact ⟨_, rfl, hyp⟩
      · wp_walk using wpAny_loadPart' ht, wpAny_pyIter_tuple hT
        exact ⟨_, rfl, hyp⟩
    · wp_walk using wpAny_loadPart' ht, wpAny_pyIter_tuple hT
      exact ⟨_, rfl, hyp⟩
section
variable {prog : Program} {w : World} {A : Around} {E : Value → Shared → Prop} {s : Shared}
theorem call_enumT {t : Addr} {xs : Array Value} {Q : Value → Shared → Prop} (hT : s.heap.IsTuple t xs)
    (h : ∀ g, IsEnum g (s.heap.objs.size + 1) s.heap.objs.size 0 .none → g.IsTupleIter s.heap.objs.size t 0 → (∀ b o, s.heap.get? b = some o → g.get? b = some o) → Q (.ref (s.heap.objs.size + 1)) { s with heap := g }) :
    wpAny (model prog w) A (call (.type "enumerate") [.ref t]) Q E s := by
  obtain ⟨⟨c, dct, dt, sl⟩, ht, hc, n, hd⟩ := hT
  have hc' : c = .type "tuple" := hc
  have hd' : dt = .seq xs n := hd
  subst hc' hd'
  refine callType_new F.called_enumerate (by decide) (F.typeCall_enumerate_1 _) (F.newCall_enumerate_1 _) (fun o => F.args_object_init_2 o _) F.entry_enumerate_new (mk_enumT t xs n dct sl) ⟨ht, ?_⟩
  generalize hg : s.heap.push { cls := .type "tuple_iterator", data := .fields #[.ref t, .int 0 0] } = g1
  have z1 : g1.objs.size = s.heap.objs.size + 1 := by rw [← hg]; exact Heap.size_push ..
  have i1 : g1.get? s.heap.objs.size = some { cls := .type "tuple_iterator", data := .fields #[.ref t, .int 0 0] } := by rw [← hg]; exact Heap.get?_push_size _ rfl
  have k1 : ∀ b o, s.heap.get? b = some o → g1.get? b = some o := fun b o q => by rw [← hg]; exact Heap.get?_push_of_some _ q
  show _ ∧ _
  have en : IsEnum (g1.push { cls := .type "enumerate", data := .fields #[.none, .bool false, .ref s.heap.objs.size, rawInt 0, .none, .none] }) g1.objs.size s.heap.objs.size 0 .none := Heap.get?_push_size _ rfl
  rw [z1] at en ⊢
  exact ⟨⟨_, en, rfl⟩, h _ en ⟨_, Heap.get?_push_of_some _ i1, rfl, rfl⟩ fun b o q => Heap.get?_push_of_some _ (k1 b o q)⟩
theorem enumT_next {e it t : Addr} {i : Nat} {xs : Array Value} {x old : Value} {Q : Value → Shared → Prop} (he : IsEnum s.heap e it i old) (hi : s.heap.IsTupleIter it t i) (ht : s.heap.IsTuple t xs) (hx : xs[i]? = some x) (hne : e ≠ it)
    (hQ : ∀ g, IsEnumOut g e it ((i : Int) + 1) x s.heap.objs.size → g.IsTupleIter it t (i + 1) → g.get? s.heap.objs.size = some { cls := .type "tuple", data := .seq #[.int i s.toks, x] } →
      (∀ b o, b ≠ e → b ≠ it → s.heap.get? b = some o → g.get? b = some o) → Q (.ref s.heap.objs.size) { s with heap := g, toks := s.toks + 1 }) :
    wpAny (model prog w) A (Builtin.«enumerate.__next__» ⟨[.ref e], []⟩) (fun fin s' => ∃ v, fin = .done (.ret v) ∧ Q v s') E s := by
  obtain ⟨hq, gl, dd, tk, os⟩ := s
  show wpAny _ _ (field (.ref e) 2 >>= _) _ _ _
  refine wpAny_bind (wpAny_field he rfl (x := .ref it) rfl (wpAny_bind (RZ.nextOf_tuple_item hi ht hx fun g1 hi1 sb1 => ?_)))
  have sb1 : Heap.SameBut it hq g1 := sb1
  have e1 : IsEnum g1 e it i old := (sb1.2 e hne).trans he
  refine wpAny_bind (s := ⟨g1, gl, dd, tk, os⟩) (wpAny_field e1 rfl (x := rawInt i) rfl (wpAny_bind (s := ⟨g1, gl, dd, tk, os⟩) (wpAny_field e1 rfl (x := .none) rfl ?_)))
  show wpAny _ _ (mkInt i >>= _) _ _ ⟨g1, gl, dd, tk, os⟩
  refine wpAny_bind (wpAny_mkInt ?_)
  refine wpAny_bind (s := ⟨g1, gl, dd, tk + 1, os⟩) (wpAny_setField_rec e1 (by simp) fun g2 e2 sb2 => ?_)
  have sb2 : Heap.SameBut e g1 g2 := sb2
  have e2 : IsEnum g2 e it ((i : Int) + 1) old := e2
  refine wpAny_bind (s := ⟨g2, gl, dd, tk + 1, os⟩) (wpAny_setField_rec e2 (by simp) fun g3 e3 sb3 => ?_)
  have sb3 : Heap.SameBut e g2 g3 := sb3
  have e3 : IsEnum g3 e it ((i : Int) + 1) old := e3
  refine wpAny_bind (s := ⟨g3, gl, dd, tk + 1, os⟩) (wpAny_newTuple ?_)
  have z3 : g3.objs.size = hq.objs.size := by rw [sb3.1, sb2.1, sb1.1]
  generalize hg : g3.push { cls := .type "tuple", data := .seq #[.int i tk, x] } = g4
  have e4 : IsEnum g4 e it ((i : Int) + 1) old := by rw [← hg]; exact Heap.get?_push_of_some _ e3
  have t4 : g4.get? hq.objs.size = some { cls := .type "tuple", data := .seq #[.int i tk, x] } := by rw [← hg, ← z3]; exact Heap.get?_push_size _ rfl
  have i4 : g4.IsTupleIter it t (i + 1) := by
    rw [← hg]
    obtain ⟨o, q, r⟩ := (hi1.extBut sb2.extBut (Ne.symm hne)).extBut sb3.extBut (Ne.symm hne)
    exact ⟨o, Heap.get?_push_of_some _ q, r⟩
  have k4 : ∀ b o, b ≠ e → b ≠ it → hq.get? b = some o → g4.get? b = some o := fun b o n1 n2 q => by
    rw [← hg]
    exact Heap.get?_push_of_some _ (sb3.extBut b o n1 (sb2.extBut b o n1 (sb1.extBut b o n2 q)))
  have hlt : e < hq.objs.size := Heap.lt_size he
  have hgt : hq.objs.size ≠ e := Nat.ne_of_gt hlt
  show wpAny _ _ (Builtin.SmallTypes.ownedTupleIsFree (.ref e) >>= _) _ _ ⟨g4, gl, dd, tk + 1, os⟩
  rw [z3]
  refine wpAny_bind ?_
  unfold Builtin.SmallTypes.ownedTupleIsFree
  refine wpAny_bind (wpAny_field e4 rfl (x := .none) rfl (wpAny_pure ?_))
  simp only [if_true]
  refine wpAny_bind (wpAny_rule (wpAny_bind (wpAny_field e4 rfl (x := old) rfl (wpAny_bind (wpAny_setField_rec e4 (by simp) fun g5 e5 sb5 => ?_)))))
  have sb5 : Heap.SameBut e g4 g5 := sb5
  have e5 : IsEnum g5 e it ((i : Int) + 1) x := e5
  refine wpAny_bind (s := ⟨g5, gl, dd, tk + 1, os⟩) ?_
  unfold Builtin.SmallTypes.ownedTupleHandOut
  refine wpAny_bind (s := ⟨g5, gl, dd, tk + 1, os⟩) (wpAny_setField_rec e5 (by simp) fun g6 e6 sb6 => ?_)
  have sb6 : Heap.SameBut e g5 g6 := sb6
  have e6 : IsEnumOut g6 e it ((i : Int) + 1) x hq.objs.size := e6
  refine wpAny_setField_rec (s := ⟨g6, gl, dd, tk + 1, os⟩) e6 (by simp) fun g7 e7 sb7 => ?_
  have sb7 : Heap.SameBut e g6 g7 := sb7
  have e7 : IsEnumOut g7 e it ((i : Int) + 1) x hq.objs.size := e7
  refine wpAny_bind (s := ⟨g7, gl, dd, tk + 1, os⟩) (wpAny_letGo (wpAny_pure ⟨_, rfl, hQ g7 e7 ?_ ?_ ?_⟩))
  · exact ((i4.extBut sb5.extBut (Ne.symm hne)).extBut sb6.extBut (Ne.symm hne)).extBut sb7.extBut (Ne.symm hne)
  · exact sb7.extBut _ _ hgt (sb6.extBut _ _ hgt (sb5.extBut _ _ hgt t4))
  · exact fun b o n1 n2 q => sb7.extBut b o n1 (sb6.extBut b o n1 (sb5.extBut b o n1 (k4 b o n1 n2 q)))
theorem enumT_item {e it t : Addr} {i : Nat} {xs : Array Value} {x old : Value} {Q : Option Value → Shared → Prop} (he : IsEnum s.heap e it i old) (hi : s.heap.IsTupleIter it t i) (ht : s.heap.IsTuple t xs) (hx : xs[i]? = some x) (hne : e ≠ it)
    (hQ : ∀ g, IsEnumOut g e it ((i : Int) + 1) x s.heap.objs.size → g.IsTupleIter it t (i + 1) → g.get? s.heap.objs.size = some { cls := .type "tuple", data := .seq #[.int i s.toks, x] } →
      (∀ b o, b ≠ e → b ≠ it → s.heap.get? b = some o → g.get? b = some o) → Q (some (.ref s.heap.objs.size)) { s with heap := g, toks := s.toks + 1 }) : wpAny (model prog w) A (pyNext (.ref e)) Q E s := by
  have ty : s.TypeIs (.ref e) "enumerate" := ⟨_, he, rfl⟩
  unfold pyNext
  refine wpAny_bind (wpAny_attempt (wpAny_callSpecial?_slot (name := Str.ofString "__next__") ty F.slot_enumerate_next (wpAny_call_entry F.slot_enumerate_next ty F.entry_enumerate_next ?_ (F.args_enumerate_next_1 _))))
  exact enumT_next he hi ht hx hne fun g a b c d => wpAny_pure (hQ g a b c d)
theorem enumT_end {e it t : Addr} {i : Nat} {xs : Array Value} {old : Value} {Q : Option Value → Shared → Prop} (hh : A.handled = none) (he : IsEnum s.heap e it i old) (hi : s.heap.IsTupleIter it t i) (ht : s.heap.IsTuple t xs) (hx : xs[i]? = none)
    (hQ : ∀ g, Heap.ExtBut it s.heap g → Q none { s with heap := g }) : wpAny (model prog w) A (pyNext (.ref e)) Q E s := by
  have ty : s.TypeIs (.ref e) "enumerate" := ⟨_, he, rfl⟩
  unfold pyNext
  refine wpAny_bind (wpAny_attempt (wpAny_callSpecial?_slot (name := Str.ofString "__next__") ty F.slot_enumerate_next (wpAny_call_entry F.slot_enumerate_next ty F.entry_enumerate_next ?_ (F.args_enumerate_next_1 _))))
  show wpAny _ _ (field (.ref e) 2 >>= _) _ _ _
  refine wpAny_bind (wpAny_field he rfl (x := .ref it) rfl (wpAny_bind (RZ.nextOf_tuple_end hh hi ht hx fun g y xb ⟨o, ho, hc⟩ => ?_)))
  exact wpAny_bind (wpAny_isInstance (T := "StopIteration") (b := true) ⟨o, ho, hc⟩ isSubtype_stop (wpAny_pure (hQ _ xb)))
end
/-- the tuple at a, each item in a new pair -/
def IteT (K : PySem.W.Frag) (a : Addr) : It :=
  ⟨fun i H => ∃ (xs : List V) (x : V), SqT K H a xs ∧ xs[i]? = some x, fun i H v H' => ∃ T x, v = .ref T ∧ H T = none ∧ H' = upd H T (.tup [.int (i : Nat), x]) ∧ ∀ xs, SqT K H a xs → xs[i]? = some x, fun i H => ∃ xs : List V, SqT K H a xs ∧ xs.length ≤ i⟩
theorem turn_enumT {P : Program} {w : World} {K : PySem.W.Frag} {elts : List Expr} {kk : Nat} {tpos : Pos} (a e it : Addr) :
    Turn P w K (.Tuple elts kk tpos) (IteT K a) [e, it] e (fun i h => (∃ old, IsEnum h e it ((i : Nat) : Int) old) ∧ h.IsTupleIter it a i ∧ e ≠ it) where
  mem := by simp
  obj := fun i h st b hb => by
    obtain ⟨⟨old, he⟩, ⟨o, ho, hc, hd⟩, _⟩ := st
    rcases (show b = e ∨ b = it by simpa using hb) with q | q
    · exact q ▸ ⟨_, he, fun v q => nomatch q⟩
    · exact q ▸ ⟨o, ho, fun v z => by rw [hd] at z; cases z⟩
  keep := fun i g g' st kp => by
    obtain ⟨⟨old, he⟩, hi, hne⟩ := st
    exact ⟨⟨old, kp e (by simp) _ he⟩, hi.at fun o q => kp it (by simp) o q, hne⟩
  item := by
    intro X hP hw hK hc i pins s σ H E I hf st hg
    subst hP hw hK
    obtain ⟨⟨old, he⟩, hi, hne⟩ := st
    obtain ⟨xs, x, hq, hx⟩ := hg
    obtain ⟨us, rv, p, _⟩ := I.tuple hq
    obtain ⟨u, hu, ru⟩ := rv.get hx
    have le : e < s.heap.objs.size := Heap.lt_size he
    have li : it < s.heap.objs.size := by
      obtain ⟨_, q, _⟩ := hi
      exact Heap.lt_size q
    refine enumT_item he hi (show s.heap.IsTuple a us.toArray from p) (x := u) (by simpa using hu) hne fun g eo gi gT kp => ?_
    refine ⟨_, rfl, wpAny_letOwnedTupleGo_enum (s := { s with heap := g, toks := s.toks + 1 }) eo fun g2 e2 sb => ?_⟩
    have T2 : g2.get? s.heap.objs.size = some { cls := .type "tuple", data := .seq #[.int i s.toks, u] } := (sb.2 _ (Nat.ne_of_gt le)).trans gT
    have ok : ObjOk X.prog X.w (upd H s.heap.objs.size (.tup [.int (i : Nat), x])) g2 s.heap.objs.size (.tup [.int (i : Nat), x]) := ⟨by show 2 ≤ sizeLine; decide, [.int i s.toks, u], .cons ⟨_, rfl⟩ (.cons ru .nil), ⟨_, T2, rfl, _, rfl⟩⟩
    have I2 : Inv X pins σ (upd H s.heap.objs.size (.tup [.int (i : Nat), x])) { s with heap := g2, toks := s.toks + 1 } :=
      I.turnedNew (ch := [e, it]) (fun b o nb q => (sb.2 b fun z => nb (by simp [z])).trans (kp b o (fun z => nb (by simp [z])) (fun z => nb (by simp [z])) q)) hf (Nat.le_refl _) ok
    refine ⟨.ref s.heap.objs.size, _, I2, rfl, ⟨_, x, rfl, I.hok.fresh (Nat.le_refl _), rfl, fun ys hy => by rw [I.tuple_inj hy hq]; exact hx⟩, ⟨⟨u, ?_⟩, gi.at fun o q => (sb.2 it (Ne.symm hne)).trans q, hne⟩, fun b hb => ?_⟩
    · rw [show ((i + 1 : Nat) : Int) = (i : Int) + 1 by omega]
      exact e2
    · have lb : b < s.heap.objs.size := by
        rcases (show b = e ∨ b = it by simpa using hb) with q | q
        · exact q ▸ le
        · exact q ▸ li
      rw [upd_ne (Nat.ne_of_lt lb)]
      exact (hf b hb).1
  done := by
    intro X hP hw hK hc i pins s σ H E I hf st hg
    subst hP hw hK
    obtain ⟨⟨old, he⟩, hi, hne⟩ := st
    obtain ⟨xs, hq, hx⟩ := hg
    obtain ⟨us, rv, p, _⟩ := I.tuple hq
    obtain ⟨f0, f1, f2, f3, f4, f5⟩ := hf it (by simp)
    have hl := rv.length
    exact enumT_end (I.ok.hd hc) he hi (show s.heap.IsTuple a us.toArray from p) (by simp; omega) fun g xb => ⟨rfl, I.turned (t' := s.toks) (fun b o nb q => xb b o nb q) f0 f1 f3 f4 f5⟩
  self := fun A i s Q E st h => by
    obtain ⟨⟨_, he⟩, _⟩ := st
    exact wpAny_pyIter_enum he h
def iEnumV (K : PySem.W.Frag) (ta : TA) : TI := fun σ H R => ta σ H fun vs H1 => ∃ a xs, vs = [.ref a] ∧ ((SqL K H1 a xs ∧ R (Ite K a) H1) ∨ (SqT K H1 a xs ∧ R (IteT K a) H1))
theorem pi_enumV {X : Cx} {e : Expr} {ta : TA} {p pos tpos : Pos} {elts : List Expr} {kk : Nat} (hg : Gl X "enumerate") (hm : X.mg "enumerate" = none) (ha : PA X [e] ta) (hs : starEach [e] X.env = [(false, eval e X.env)] := by rfl) :
    PI X (.Tuple elts kk tpos) (.Call (.Name "enumerate" p) [e] [] pos) (iEnumV X.K ta) := by
  refine ⟨fun pins s σ H R I h => ?_⟩
  refine Call_ (ld_blt I hg hm boot_enumerate (PyProof.Rows.callWith_type1 (thn (ha.run pos pins s σ H _ I h) fun us s1 ⟨vs, H1, I1, r1, a, xs, ex, q⟩ => ?_) hs rfl))
  subst ex
  obtain ⟨u, eu, ru⟩ := vals1 r1
  subst eu
  cases (show u = .ref a from ru)
  have fr : ∀ b, b ∈ [s1.heap.objs.size + 1, s1.heap.objs.size] → FpOk X pins H1 b := fun b hb => by
    have hle : s1.heap.objs.size ≤ b := by
      rcases (show b = s1.heap.objs.size + 1 ∨ b = s1.heap.objs.size by simpa using hb) with q | q <;> omega
    exact I1.fpOk hle (I1.hok.fresh hle)
  rcases q with ⟨hq, q⟩ | ⟨hq, q⟩
  · obtain ⟨us, rv, p', _⟩ := I1.list hq
    exact call_enumerate_list p'.isList fun g he hi _ kp => wpAny_pyIter_enum he ⟨s1.heap.objs.size + 1, [_, _], _, _, H1, rfl, I1.kept (t' := s1.toks) kp, turn_enum a (s1.heap.objs.size + 1) s1.heap.objs.size, ⟨⟨.none, he⟩, hi, Nat.succ_ne_self _⟩, fr, q⟩
  · obtain ⟨us, rv, p', _⟩ := I1.tuple hq
    exact call_enumT (show s1.heap.IsTuple a us.toArray from p') fun g he hi kp => wpAny_pyIter_enum he ⟨s1.heap.objs.size + 1, [_, _], _, _, H1, rfl, I1.kept (t' := s1.toks) kp, turn_enumT a (s1.heap.objs.size + 1) s1.heap.objs.size, ⟨⟨.none, he⟩, hi, Nat.succ_ne_self _⟩, fr, q⟩
/-- a reading's items with their places -/
def enumD (ds : List D) : List D := (List.range ds.length).zipWith (fun (i : Nat) d => D.tup [.int (i : Int), d]) ds
theorem enumD_get {ds : List D} {i : Nat} {d : D} (h : (enumD ds)[i]? = some d) : ∃ y, ds[i]? = some y ∧ d = .tup [.int (i : Int), y] := by
  unfold enumD at h
  rw [List.getElem?_zipWith] at h
  cases hy : ds[i]? with
  | none =>
    rw [hy] at h
    cases hr : (List.range ds.length)[i]? <;> (rw [hr] at h; cases h)
  | some y =>
    have hi := (List.getElem?_eq_some_iff.mp hy).1
    rw [hy, List.getElem?_range hi] at h
    exact ⟨y, rfl, (Option.some.inj h).symm⟩
theorem enumD_len (ds : List D) : (enumD ds).length = ds.length := by
  unfold enumD
  rw [List.length_zipWith, List.length_range, Nat.min_self]
theorem pair_rd {K : PySem.W.Frag} {H' : Hp} {al' : List Addr} {i : Nat} {y : D} {v : V} {T : Addr} {S' : Sto} (rs : RS K H' al' S') (hT : H' T = none) (rv : RD K H' al' y v) :
    Fut K H' al' (upd H' T (.tup [.int (i : Nat), v])) al' S' ∧ RD K (upd H' T (.tup [.int (i : Nat), v])) al' (.tup [.int (i : Int), y]) (.ref T) := by
  have f := Fut.lay (o := .tup [.int (i : Nat), v]) rs hT
  exact ⟨f, T, [.int (i : Nat), v], rfl, .inl (.of upd_same), _, _, rfl, rfl, RDs.one (f.rd rv)⟩
theorem it_enumT {K : PySem.W.Frag} {H : Hp} {al : List Addr} {a : Addr} {ds : List D} {vs : List V} (h : SqT K H a vs) (r : RDs K H al ds vs) : ItOK K (IteT K a) ⟨enumD ds, fun _ => True⟩ H al where
  go := fun i H' al' S' f _ hi => by
    have hi : i < (enumD ds).length := hi
    rw [enumD_len] at hi
    have hl : i < vs.length := by rw [RDs.length r]; exact hi
    exact ⟨vs, vs[i], sqt_keep f.keep h, List.getElem?_eq_getElem hl⟩
  yld := fun i d H' al' S' x H'' f _ hd hy => by
    obtain ⟨T, y, e1, hT, e2, hy⟩ := hy
    obtain ⟨y0, hy0, rfl⟩ := enumD_get hd
    subst e1 e2
    obtain ⟨v, hv, rv⟩ := RDs.get (f.rds r) hy0
    have q := hy vs (sqt_keep f.keep h)
    rw [hv] at q
    cases q
    exact pair_rd f.rs hT rv
  stop := fun H' al' S' f _ => ⟨vs, sqt_keep f.keep h, by show vs.length ≤ (enumD ds).length; rw [enumD_len, RDs.length r]; exact Nat.le_refl _⟩
theorem it_enumL {K : PySem.W.Frag} {H : Hp} {al : List Addr} {a : Addr} {n : Nat} {ds : List D} (ha : al[n]? = some a) : ItOK K (Ite K a) ⟨enumD ds, fun S => isL S n ds⟩ H al where
  go := fun i H' al' S' f g hi => by
    have hi : i < (enumD ds).length := hi
    rw [enumD_len] at hi
    obtain ⟨vs, h1, r1⟩ := isL_sq f.rs g (getExt f ha)
    have hl : i < vs.length := by rw [RDs.length r1]; exact hi
    exact ⟨vs, vs[i], h1, List.getElem?_eq_getElem hl⟩
  yld := fun i d H' al' S' x H'' f g hd hy => by
    obtain ⟨T, y, e1, hT, e2, hy⟩ := hy
    obtain ⟨y0, hy0, rfl⟩ := enumD_get hd
    subst e1 e2
    obtain ⟨vs, h1, r1⟩ := isL_sq f.rs g (getExt f ha)
    obtain ⟨v, hv, rv⟩ := RDs.get r1 hy0
    have q := hy vs h1
    rw [hv] at q
    cases q
    exact pair_rd f.rs hT rv
  stop := fun H' al' S' f g => by
    obtain ⟨vs, h1, r1⟩ := isL_sq f.rs g (getExt f ha)
    exact ⟨vs, h1, by show vs.length ≤ (enumD ds).length; rw [enumD_len, RDs.length r1]; exact Nat.le_refl _⟩
def kEn (k : ItD → Sto → Prop) : List D → Sto → Prop := fun ds S => match ds with
  | [.tup ds] => k ⟨enumD ds, fun _ => True⟩ S
  | [.ref n] => ∃ ds, isL S n ds ∧ k ⟨enumD ds, fun S => isL S n ds⟩ S
  | _ => False
def iEn (ta : TAD) : TID := fun sg S k x => ta sg S (kEn k) x
theorem q_enum {X : Cx} {E : XK} {e : Expr} {ta : TAD} {p pos tpos : Pos} {elts : List Expr} {kk : Nat} (hg : Gl X "enumerate") (hm : X.mg "enumerate" = none) (ha : QA X E [e] ta) (hs : starEach [e] X.env = [(false, eval e X.env)] := by rfl) :
    QI X E (.Tuple elts kk tpos) (.Call (.Name "enumerate" p) [e] [] pos) (iEn ta) :=
  pi_imp (pi_enumV hg hm ha hs) fun s H R ⟨sg, al, S, kd, xd, rs, rl, q, up, ux⟩ => ⟨sg, al, S, kEn kd, xd, rs, rl, q, fun ds S1 al1 H1 vs f1 r1 q1 => by
    unfold kEn at q1
    split at q1
    · obtain ⟨v, e, a, us, e2, h1, rv⟩ := rds1 r1
      subst e e2
      exact ⟨a, us, rfl, .inr ⟨h1, up _ S1 al1 H1 _ f1 (it_enumT h1 rv) q1⟩⟩
    · obtain ⟨ds, hl, q1⟩ := q1
      obtain ⟨v, e, rv⟩ := rds1 r1
      subst e
      obtain ⟨a, us, e2, ha2, h1, r2⟩ := isL_at f1.rs hl rv
      subst e2
      exact ⟨a, us, rfl, .inl ⟨h1, up _ S1 al1 H1 _ f1 (it_enumL ha2) q1⟩⟩
    · exact q1.elim, ux⟩
end Q
namespace Q
open PySem
open Spec PyProof.Rows L2

/-! ### [.. for x in .. for y in ..] -/
def wLc2 (grd : Sto → Prop) (g : TGD) (tt : TTD) (ti1 : TID) (g1 : TGD) (tt1 : TTD) (te : TED) (vs1 : List Nat) (sg : Sl) (n0 : Nat) (k : Sto → Prop) : List D → Sto → Prop
  | [], S => grd S ∧ k S
  | d :: r, S => grd S ∧ g d sg S (fun sg1 S1 => tt sg1 S1 (fun b S2 => (b = true → ti1 sg1 S2 (fun it1 S3 => wLc it1.grd g1 tt1 te (wipeD sg1 vs1) n0 (wLc2 grd g tt ti1 g1 tt1 te vs1 sg n0 k r) it1.items S3) XF) ∧ (b = false → wLc2 grd g tt ti1 g1 tt1 te vs1 sg n0 k r S2)) XF) XF
def kLc2 (g : TGD) (tt : TTD) (ti1 : TID) (g1 : TGD) (tt1 : TTD) (te : TED) (vs1 : List Nat) (sg : Sl) (k : KD) : ItD → Sto → Prop := fun it S => wLc2 it.grd g tt ti1 g1 tt1 te vs1 sg S.length (fun S' => k (.ref S.length) S') it.items (S ++ [.lst []])
def dLc2 (ti : TID) (g : TGD) (tt : TTD) (ti1 : TID) (g1 : TGD) (tt1 : TTD) (te : TED) (vs vs1 : List Nat) : TED := fun sg S k x => ti sg S (kLc2 g tt ti1 g1 tt1 te vs1 (wipeD sg vs) k) x
theorem lc2_red {K : PySem.W.Frag} {mg : Str → Option Value} {ti ti1 : TID} {g g1 : TGD} {tt tt1 : TTD} {te : TED} {vs vs1 : List Nat} {tV tV1 : TG} {s : L2.St} {H : Hp} {Q : VK} {E : XK}
    (hl : ∀ v s H Q, LG ⟨K, mg, E0⟩ g v s H Q → tV v s H Q) (hw : WipeOK vs tV) (hl1 : ∀ v s H Q, LG ⟨K, mg, E0⟩ g1 v s H Q → tV1 v s H Q) (hw1 : WipeOK vs1 tV1) (h : LE ⟨K, mg, E⟩ (dLc2 ti g tt ti1 g1 tt1 te vs vs1) s H Q) :
    tLc2 (LI ⟨K, mg, E⟩ ti) tV (LT ⟨K, mg, E0⟩ tt) (LI ⟨K, mg, E0⟩ ti1) tV1 (LT ⟨K, mg, E0⟩ tt1) (LE ⟨K, mg, E0⟩ te) vs vs1 s H Q := by
  obtain ⟨sg, al, S, kd, xd, rs, rl, q, up, ux⟩ := h
  refine ⟨sg, al, S, kLc2 g tt ti1 g1 tt1 te vs1 (wipeD sg vs) kd, xd, rs, rl, q, fun it S1 al1 H1 J f1 iok q1 => ?_, ux⟩
  intro D hD
  generalize hk : (fun S' => kd (.ref S1.length) S') = ke
  have q1 : wLc2 it.grd g tt ti1 g1 tt1 te vs1 (wipeD sg vs) S1.length ke it.items (S1 ++ [.lst []]) := by subst hk; exact q1
  have fN : Fut K H1 al1 (upd H1 D (.lst [])) (al1 ++ [D]) (S1 ++ [.lst []]) := new_lst f1.rs hD rfl
  have aN : (al1 ++ [D])[S1.length]? = some D := by rw [← f1.rs.len]; simp
  generalize upd H1 D (.lst []) = H0 at fN ⊢
  generalize al1 ++ [D] = al0 at fN aN
  generalize S1 ++ [O.lst []] = S0 at fN q1
  refine ⟨fun i m H' => ∃ al' S', Fut K H0 al0 H' al' S' ∧ wLc2 it.grd g tt ti1 g1 tt1 te vs1 (wipeD sg vs) S1.length ke (it.items.drop i) S' ∧ m = it.items.length - i ∧ i ≤ it.items.length, ⟨it.items.length, _, _, .now fN.rs, q1, by simp, Nat.zero_le _⟩, ?_⟩
  rintro i m H2 ⟨al2, S2, f2, w2, rfl, hi⟩
  by_cases hlt : i < it.items.length
  · rw [List.drop_eq_getElem_cons hlt] at w2
    obtain ⟨gr, w2⟩ := w2
    refine .inr ⟨iok.go i H2 al2 S2 (fN.trans f2) gr hlt, fun H' => ∃ m', m' < it.items.length - i ∧ ∃ al' S', Fut K H0 al0 H' al' S' ∧ wLc2 it.grd g tt ti1 g1 tt1 te vs1 (wipeD sg vs) S1.length ke (it.items.drop (i + 1)) S' ∧ m' = it.items.length - (i + 1) ∧ i + 1 ≤ it.items.length, fun H' h => h, fun x H' hy => ?_⟩
    obtain ⟨f3, r3⟩ := iok.yld i _ H2 al2 S2 x H' (fN.trans f2) gr (List.getElem?_eq_getElem hlt) hy
    have fA := (f1.trans fN).trans (f2.trans f3)
    refine hw _ _ _ _ _ (fun s2 H2 e q => ⟨e.trans (wipe_wipe _ _), q⟩) (hl _ _ _ _ ⟨_, wipeD sg vs, al2, S2, _, XF, f3.rs, rsl_wipe (fA.rsl rl) vs, r3, w2, fun sg4 S4 al4 H4 sv4 f4 rl4 q4 => ?_, ux0⟩)
    refine ⟨sg4, al4, S4, _, XF, f4.rs, rl4, q4, fun b S5 al5 H5 f5 q5 => ite_of ⟨fun e => ?_, fun e => ?_⟩, ux0⟩
    · refine ⟨sg4, al5, S5, _, XF, f5.rs, f5.rsl rl4, q5.1 e, fun it1 S6 al6 H6 J1 f6 iok1 q6 => ?_, ux0⟩
      have fB := ((f2.trans f3).trans f4).trans (f5.trans f6)
      generalize hkn : wLc2 it.grd g tt ti1 g1 tt1 te vs1 (wipeD sg vs) S1.length ke (it.items.drop (i + 1)) = kn at q6 ⊢
      refine ⟨fun j m H' => ∃ al' S', Fut K H6 al6 H' al' S' ∧ wLc it1.grd g1 tt1 te (wipeD sg4 vs1) S1.length kn (it1.items.drop j) S' ∧ m = it1.items.length - j ∧ j ≤ it1.items.length, ⟨it1.items.length, _, _, .now f6.rs, q6, by simp, Nat.zero_le _⟩, ?_⟩
      rintro j m H7 ⟨al7, S7, f7, w7, rfl, hj⟩
      by_cases hlj : j < it1.items.length
      · rw [List.drop_eq_getElem_cons hlj] at w7
        obtain ⟨gr7, w7⟩ := w7
        refine .inr ⟨iok1.go j H7 al7 S7 f7 gr7 hlj, fun H' => ∃ m', m' < it1.items.length - j ∧ ∃ al' S', Fut K H6 al6 H' al' S' ∧ wLc it1.grd g1 tt1 te (wipeD sg4 vs1) S1.length kn (it1.items.drop (j + 1)) S' ∧ m' = it1.items.length - (j + 1) ∧ j + 1 ≤ it1.items.length, fun H' h => h, fun x1 H' hy1 => ?_⟩
        obtain ⟨f8, r8⟩ := iok1.yld j _ H7 al7 S7 x1 H' f7 gr7 (List.getElem?_eq_getElem hlj) hy1
        refine hw1 _ _ _ _ _ (fun s2 H2 e q => ⟨e.trans (wipe_wipe _ _), q⟩) (hl1 _ _ _ _ ⟨_, wipeD sg4 vs1, al7, S7, _, XF, f8.rs, rsl_wipe (((f5.trans f6).trans (f7.trans f8)).rsl rl4) vs1, r8, w7, fun sg9 S9 al9 H9 sv9 f9 rl9 q9 => ?_, ux0⟩)
        refine ⟨sg9, al9, S9, _, XF, f9.rs, rl9, q9, fun b2 Sa ala Ha fa qa => ite_of ⟨fun e => ?_, fun e => ?_⟩, ux0⟩
        · refine ⟨sg9, ala, Sa, _, XF, fa.rs, fa.rsl rl9, qa.1 e, fun y Sb alb Hb vb fb rb qb => ?_, ux0⟩
          obtain ⟨acc, ha, hz, qb⟩ := qb
          have fC := ((f7.trans f8).trans f9).trans (fa.trans fb)
          have ab := getExt (fB.trans fC) aN
          obtain ⟨us, eb, ru⟩ := fb.rs.ob _ _ _ ha ab
          exact ⟨us, eb, by rw [RDs.length ru]; exact hz, it1.items.length - (j + 1), by omega, alb, _, fC.trans (set_lst fb.rs ha ab (RDs.append ru (RDs.one rb))), qb, rfl, hlj⟩
        · exact ⟨it1.items.length - (j + 1), by omega, ala, Sa, ((f7.trans f8).trans f9).trans fa, qa.2 e, rfl, hlj⟩
      · have e : j = it1.items.length := by omega
        subst e
        rw [List.drop_length] at w7
        obtain ⟨gr7, w7⟩ := w7
        exact .inl ⟨iok1.stop H7 al7 S7 f7 gr7, it.items.length - (i + 1), by omega, al7, S7, fB.trans f7, w7, rfl, hlt⟩
    · exact ⟨it.items.length - (i + 1), by omega, al5, S5, ((f2.trans f3).trans f4).trans f5, q5.2 e, rfl, hlt⟩
  · have e : i = it.items.length := by omega
    subst e
    rw [List.drop_length] at w2
    obtain ⟨gr, w2⟩ := w2
    subst hk
    exact .inl ⟨iok.stop H2 al2 S2 (fN.trans f2) gr, up (.ref S1.length) S2 al2 H2 (.ref D) ((f1.trans fN).trans f2) ⟨D, rfl, getExt f2 aN⟩ w2⟩
section
variable {X : Cx} {E : XK} {tg tg1 : Expr} {g g1 : TGD} {tV tV1 : TG} {is is1 : List Nat} {te : TED} {pos : Pos}
theorem q_lc2 {elt iter iter1 : Expr} {ifs ifs1 : List Expr} {scope : Scope} {own : List (Str × Nat)} {vs1 : List Nat} {ti ti1 : TID} {tt tt1 : TTD} (hc : X.calm = true) (hN : X.N.Nodup) (hi : QI X E tg iter ti) (ok : BlkOk X.N X.env.scope scope own)
    (hg : ∀ (s : Shared) (H : Hp) (C : Addr) (cl : List (Str × Addr)) (fp : List Addr), QG (X.blk s H scope (compEnvC scope cl C X.env) fp) E0 tg g tV is) (ht : ∀ (s : Shared) (H : Hp) (C : Addr) (cl : List (Str × Addr)) (fp : List Addr), QTs (X.blk s H scope (compEnvC scope cl C X.env) fp) E0 ifs tt)
    (hi1 : ∀ (s : Shared) (H : Hp) (C : Addr) (cl : List (Str × Addr)) (fp : List Addr), QI (X.blk s H scope (compEnvC scope cl C X.env) fp) E0 tg1 iter1 ti1)
    (hg1 : ∀ (s : Shared) (H : Hp) (C : Addr) (cl : List (Str × Addr)) (fp : List Addr), QG (X.blk s H scope (compEnvC scope cl C X.env) fp) E0 tg1 g1 tV1 is1) (ht1 : ∀ (s : Shared) (H : Hp) (C : Addr) (cl : List (Str × Addr)) (fp : List Addr), QTs (X.blk s H scope (compEnvC scope cl C X.env) fp) E0 ifs1 tt1)
    (he : ∀ (s : Shared) (H : Hp) (C : Addr) (cl : List (Str × Addr)) (fp : List Addr), QE (X.blk s H scope (compEnvC scope cl C X.env) fp) E0 elt te) (his : is.all (own.map (·.2)).contains = true := by rfl) (his1 : is1.all vs1.contains = true := by rfl) (hvs : vs1.all (own.map (·.2)).contains = true := by rfl)
    (hs : ∀ x, foldedSetIterable iter X.env x = pure x := by intro _; rfl) (hs1 : ∀ env x, foldedSetIterable iter1 env x = pure x := by intro _ _; rfl) :
    QE X E (.ListComp elt [⟨tg, iter, ifs, 0⟩, ⟨tg1, iter1, ifs1, 0⟩] scope pos) (dLc2 ti g tt ti1 g1 tt1 te (own.map (·.2)) vs1) := by
  have mem : ∀ {l m : List Nat}, l.all m.contains = true → ∀ i ∈ l, i ∈ m := fun {l m} h i hi => by
    have q := List.all_eq_true.mp h i hi
    simpa using q
  refine pe_imp (pe_lc2 (vs1 := vs1) (te := LE ⟨X.K, X.mg, E0⟩ te) (tt := LT ⟨X.K, X.mg, E0⟩ tt) (tt1 := LT ⟨X.K, X.mg, E0⟩ tt1) (wi1 := LI ⟨X.K, X.mg, E0⟩ ti1) hc hN hi ok (mem hvs) (fun s H C cl fp => (hg s H C cl fp).1) ht hi1 (fun s H C cl fp => (hg1 s H C cl fp).1) ht1 he hs hs1) fun s H Q q => ?_
  have h0 := hg X.s_0 H 0 [] []
  have h1 := hg1 X.s_0 H 0 [] []
  exact lc2_red (mg := X.mg) h0.2.1 (h0.2.2 _ (mem his)) h1.2.1 (h1.2.2 _ (mem his1)) q
theorem q_gtpB {s : Shared} {H : Hp} {scope : Scope} {env : Env} {fp : List Addr} {es : List Expr} {gs : TGDs} {is : List Nat} {tVs : TGs} {k n : Nat} (hc : X.calm = true) (h : QGs (X.blk s H scope env fp) E es gs tVs is) (hn : (assignEach es (X.blk s H scope env fp).env).length = n := by rfl)
    (hst : (assignEach es (X.blk s H scope env fp).env).findIdx? (·.1) = none := by rfl) : QG (X.blk s H scope env fp) E (.Tuple es k pos) (gTp n gs) (gTup X.K n tVs) is := q_gtp (X := X.blk s H scope env fp) hc h hn hst
end
/-- a comprehension with a test and any target, reckoned purely; st: the slots behind the target -/
theorem lc_filterG {it : ItD} {g : TGD} {tt : TTD} {te : TED} {sg : Sl} {k : KD} {S : Sto} (st : D → Sl) (p : D → Bool) (f : D → D)
    (hs : ∀ d ∈ it.items, ∀ (T : Sto) (K : Sl → Sto → Prop), K (st d) T → g d sg T K XF)
    (ht : ∀ d ∈ it.items, ∀ (acc : List D) (kk : Bool → Sto → Prop), kk (p d) (S ++ [.lst acc]) → tt (st d) (S ++ [.lst acc]) kk XF)
    (he : ∀ d ∈ it.items, p d = true → ∀ (acc : List D) (kk : KD), kk (f d) (S ++ [.lst acc]) → te (st d) (S ++ [.lst acc]) kk XF) (hg : ∀ acc, it.grd (S ++ [.lst acc])) (hl : it.items.length ≤ sizeLine)
    (hk : k (.ref S.length) (S ++ [.lst ((it.items.filter p).map f)])) : kLc g tt te sg k it S := by
  have go : ∀ (rest acc : List D), (∀ d ∈ rest, d ∈ it.items) → acc.length + rest.length ≤ sizeLine → k (.ref S.length) (S ++ [.lst (acc ++ (rest.filter p).map f)]) →
      wLc it.grd g tt te sg S.length (fun S' => k (.ref S.length) S') rest (S ++ [.lst acc]) := by
    intro rest
    induction rest with
    | nil => exact fun acc _ _ h => ⟨hg acc, by simpa using h⟩
    | cons d r ih =>
      intro acc hm hz h
      rw [List.length_cons] at hz
      have hd := hm d List.mem_cons_self
      have hr := fun y hy => hm y (List.mem_cons_of_mem _ hy)
      refine ⟨hg acc, hs d hd _ _ (ht d hd acc _ ⟨fun e => he d hd e acc _ ⟨acc, get_at0, by omega, ?_⟩, fun e => ih acc hr (by omega) ?_⟩)⟩
      · rw [set_at0]
        refine ih _ hr (by rw [List.length_append, List.length_singleton]; omega) ?_
        rw [List.filter_cons_of_pos e, List.map_cons] at h
        rwa [List.append_assoc]
      · rwa [List.filter_cons_of_neg (by rw [e]; decide)] at h
  exact go it.items [] (fun _ h => h) (by simpa using hl) hk
/-- [y for x in .. for y in ..] -/
theorem lc2_flat {it : ItD} {i j : Nat} {ti : TID} {sg : Sl} {k : KD} {S : Sto} (f : D → List D) (hj : j < sg.length)
    (hin : ∀ d ∈ it.items, ∀ (acc : List D) (K : ItD → Sto → Prop), (∀ grd : Sto → Prop, (∀ acc, grd (S ++ [.lst acc])) → K ⟨f d, grd⟩ (S ++ [.lst acc])) → ti (sg.set i (some d)) (S ++ [.lst acc]) K XF)
    (hg : ∀ acc, it.grd (S ++ [.lst acc])) (hl : (it.items.flatMap f).length ≤ sizeLine) (hk : k (.ref S.length) (S ++ [.lst (it.items.flatMap f)])) : kLc2 (gNm i) dYes ti (gNm j) dYes (dVar j) [j] sg k it S := by
  have inner : ∀ (sg2 : Sl) (grd : Sto → Prop) (ke : Sto → Prop), j < sg2.length → (∀ acc, grd (S ++ [.lst acc])) → ∀ (rest acc : List D), acc.length + rest.length ≤ sizeLine → ke (S ++ [.lst (acc ++ rest)]) → wLc grd (gNm j) dYes (dVar j) sg2 S.length ke rest (S ++ [.lst acc]) := by
    intro sg2 grd ke h2 hg2 rest
    induction rest with
    | nil => exact fun acc _ h => ⟨hg2 acc, by simpa using h⟩
    | cons d r ih =>
      intro acc hz h
      rw [List.length_cons] at hz
      refine ⟨hg2 acc, fun _ => ?_, fun z => nomatch z⟩
      simp only [dVar, List.getElem?_set_self h2]
      refine ⟨acc, get_at0, by omega, ?_⟩
      rw [set_at0]
      refine ih _ (by rw [List.length_append, List.length_singleton]; omega) ?_
      rwa [List.append_assoc]
  have go : ∀ (rest acc : List D), (∀ d ∈ rest, d ∈ it.items) → acc.length + (rest.flatMap f).length ≤ sizeLine → k (.ref S.length) (S ++ [.lst (acc ++ rest.flatMap f)]) →
      wLc2 it.grd (gNm i) dYes ti (gNm j) dYes (dVar j) [j] sg S.length (fun S' => k (.ref S.length) S') rest (S ++ [.lst acc]) := by
    intro rest
    induction rest with
    | nil => exact fun acc _ _ h => ⟨hg acc, by simpa using h⟩
    | cons d r ih =>
      intro acc hm hz h
      rw [List.flatMap_cons, List.length_append] at hz
      rw [List.flatMap_cons] at h
      refine ⟨hg acc, fun _ => hin d (hm d List.mem_cons_self) acc _ fun grd hgr => ?_, fun z => nomatch z⟩
      refine inner _ grd _ (by show j < ((sg.set i (some d)).set j none).length; simpa using hj) hgr (f d) acc (by omega) ?_
      exact ih _ (fun y hy => hm y (List.mem_cons_of_mem _ hy)) (by rw [List.length_append]; omega) (by rwa [List.append_assoc])
  exact go it.items [] (fun _ h => h) (by simpa using hl) hk
end Q
namespace Q
open PySem
open Spec PyProof.Rows L2
open Sem (wp)

/-! ### sorted(set(xs)) of a list of ints -/
abbrev nset (w : World) : Obj := { cls := .type "set", dict := none, data := .set #[] 0 (.fresh 0 0 (!w.params.followText "set-order")) }
abbrev lit (l : Addr) : Obj := { cls := .type "list_iterator", data := .fields #[.ref l, .int 0 0] }
section
variable {P : Program} {w : World} {A : Around} {E : Value → Shared → Prop} {s : Shared}
theorem set_of_list {l : Addr} {xs : Array Value} (ns : List Int) {Q : Value → Shared → Prop} (hh : A.handled = none) (hL : s.heap.IsList l xs) (hI : IntsAre xs.toList ns) (room : ns.length + 1 < scanBound)
    (hQ : ∀ (g : Heap) (tk c : Nat), SetR w g s.heap.objs.size (fun j => decide (j ∈ ns)) c → c ≤ ns.length → (∀ b o, s.heap.get? b = some o → g.get? b = some o) → Q (.ref s.heap.objs.size) { s with heap := g, toks := tk }) :
    wpAny (model P w) A (call (.type "set") [.ref l]) Q E s := by
  have size : xs.size = ns.length := by
    have := IntsAre.length hI
    rwa [Array.length_toList] at this
  obtain ⟨c, tl, hmro⟩ := F.called_set.mro
  have f1 := F.called_set.made
  have f2 := F.called_set.sub
  have f3 := F.called_set.notType
  have f4 := F.called_set.canCreate
  have f5 := F.typeCall_set_1 (.ref l)
  refine wpAny_call (codeAny_of_tree ?_)
  show wpAny _ _ (callAny (.type "set") _) _ _ _
  refine wpAny_pure ⟨Code.quiet_builtin _ (by decide +kernel), codeAny_builtin F.entry_type_call ?_⟩
  rw [Around.under_plain (weight_type_call_type "set" [.ref l] []) rfl]
  repeat (any_goals (first | assumption | wp_step))
  refine codeAny_mono (code_set_led1 (.ref l) (E := E) (Q₁ := fun o s1 => o = .ref s.heap.objs.size ∧ s1 = { s with heap := s.heap.push (nset w) }) ⟨rfl, rfl⟩) fun r s1 hr => ?_
  match r, hr with
  | .error e, hr => exact hr
  | .ok .next, hr => exact hr.elim
  | .ok .brk, hr => exact hr.elim
  | .ok .cont, hr => exact hr.elim
  | .ok (.ret o), hr =>
    obtain ⟨rfl, rfl⟩ := hr
    have g0 : (s.heap.push (nset w)).get? s.heap.objs.size = some (nset w) := Heap.get?_push_size _ rfl
    have ty : Shared.TypeIs { s with heap := s.heap.push (nset w) } (.ref s.heap.objs.size) "set" := ⟨_, g0, rfl⟩
    have f6 := F.called_set.init.lookup
    have f7 := F.called_set.init.bind (.ref s.heap.objs.size)
    repeat (any_goals (first | assumption | wp_step))
    refine codeAny_mono (codeAny_call_builtin (R := wants (fun r s2 => r = .none ∧ ∃ g tk c, s2 = { s with heap := g, toks := tk } ∧ SetR w g s.heap.objs.size (fun j => decide (j ∈ ns)) c ∧ c ≤ ns.length ∧ (∀ b o, s.heap.get? b = some o → g.get? b = some o)) E) F.called_set.init.plain F.entry_set_init (check_set_init_1 ty ?_)) fun r2 s2 h2 => ?_
    · obtain ⟨ol, hol, hcl, nl, hdl⟩ := hL
      obtain ⟨oc, od, oda, osl⟩ := ol
      have hcl : oc = .type "list" := hcl
      have hdl : oda = .seq xs nl := hdl
      subst hcl hdl
      have kol : (s.heap.push (nset w)).get? l = some { cls := .type "list", dict := od, data := .seq xs nl, slots := osl } := Heap.get?_push_of_some _ hol
      have f8 := F.sub_list_set
      have f9 := F.sub_list_frozenset
      have f10 : (Value.type "list" == Value.type "dict") = false := by decide
      have hL1 : (s.heap.push (nset w)).IsList l xs := ⟨_, kol, rfl, nl, rfl⟩
      unfold Builtin.«set.__init__» noKeywords Builtin.Frozenset.updateFrom
      generalize hPI : pyIter = PI
      wp_walk
      subst hPI
      refine wpAny_pyIter_list hL1 ?_
      refine wpAny_bind (wpAny_runValue ?_)
      have lt : l < s.heap.objs.size := Heap.lt_size hol
      have h3 : A.in1.in1.in1.handled = none := by simp [hh]
      have z1 : (s.heap.push (nset w)).objs.size = s.heap.objs.size + 1 := Heap.size_push ..
      have n1 : l ≠ (s.heap.push (nset w)).objs.size := by rw [z1]; exact Nat.ne_of_lt (Nat.lt_succ_of_lt lt)
      have n2 : s.heap.objs.size ∉ [(s.heap.push (nset w)).objs.size, l] := by
        rw [z1]
        simp only [List.mem_cons, List.not_mem_nil, or_false, not_or]
        exact ⟨Nat.ne_of_lt (Nat.lt_succ_self _), Nat.ne_of_gt lt⟩
      have val : ∀ (i : Nat) (v : Value), xs[i]? = some v → ∃ k t, ns[i]? = some k ∧ v = .int k t := fun i v hv => by
        have hi : i < ns.length := by rw [← size]; exact (Array.getElem?_eq_some_iff.mp hv).1
        obtain ⟨t, e⟩ := PyProof.Rows.IntsAre.int_at hI i v (by rw [Array.getElem?_toList]; exact hv)
        rw [List.getD_eq_getElem?_getD, List.getElem?_eq_getElem hi] at e
        exact ⟨ns[i], t, List.getElem?_eq_getElem hi, e⟩
      refine set_update_ints ((Walks.list h3 _ l n1 xs).toS) s.heap.objs.size n2 ns size room val (xs.size - 0) 0 _ (by omega) (Nat.zero_le _) ⟨⟨_, Heap.get?_push_size _ rfl, rfl, rfl⟩, hL1.push _⟩ ?_ ?_
      · have g1 : ((s.heap.push (nset w)).push (lit l)).get? s.heap.objs.size = some (nset w) := Heap.get?_push_of_some _ g0
        exact ⟨0, Nat.le_refl 0, setR_new_at g1⟩
      · intro s3 c3 mv hc3 R3
        obtain ⟨g, gg, dd, tk, os⟩ := s3
        cases mv.gens
        cases mv.drawn
        cases mv.os
        rw [size] at hc3
        refine wpAny_pure (wpAny_pure ⟨rfl, g, tk, c3, rfl, R3, hc3, fun b o e => ?_⟩)
        have b0 : b < s.heap.objs.size := Heap.lt_size e
        refine mv.heap b o ?_ (Heap.get?_push_of_some _ (Heap.get?_push_of_some _ e))
        simp only [List.mem_cons, List.not_mem_nil, or_false, not_or]
        exact ⟨Nat.ne_of_lt b0, by show b ≠ (s.heap.push (nset w)).objs.size; rw [z1]; exact Nat.ne_of_lt (Nat.lt_succ_of_lt b0)⟩
    · match r2, h2 with
      | .error e, h2 => exact h2
      | .ok .next, h2 => exact h2.elim
      | .ok .brk, h2 => exact h2.elim
      | .ok .cont, h2 => exact h2.elim
      | .ok (.ret r), h2 =>
        obtain ⟨rfl, g, tk, c', rfl, R3, hc3, kp⟩ := h2
        repeat (any_goals (first | assumption | wp_step))
        exact hQ _ _ _ R3 hc3 kp
end
end Q
namespace Q
open PySem
open Spec PyProof.Rows L2

/-! ### sorted(set(xs)) -/
section
variable {X : Cx} {E : XK}
def tSrtSet (K : PySem.W.Frag) (ta : TE) : TE := fun σ H Q => ta σ H fun x H1 => ∃ (l : Addr) (ns : List Int), x = .ref l ∧ (SqL K H1 l (ns.map V.int) ∨ SqT K H1 l (ns.map V.int)) ∧ ns.length < 64 ∧
  ∀ (ms : List Int) (p : Addr), ms.Pairwise (· < ·) → (∀ i, i ∈ ms ↔ i ∈ ns) → H1 p = none → Q (.ref p) (upd H1 p (.lst (ms.map V.int)))
theorem pe_srtSet {a : Expr} {ta : TE} {p p2 q pos : Pos} (hc : X.calm = true) (hg : Gl X "sorted") (hm : X.mg "sorted" = none) (hg2 : Gl X "set") (hm2 : X.mg "set" = none) (ha : PE X a ta)
    (na : starEach [a] X.env = (false, eval a X.env) :: starEach [] X.env := by rfl) : PE X (.Call (.Name "sorted" p) [.Call (.Name "set" p2) [a] [] q] [] pos) (tSrtSet X.K ta) := by
  refine ⟨fun pins s σ H Q I h => Call_ (ld_blt I hg hm boot_sorted (PyProof.Rows.callWith_builtin1 (PyProof.Rows.args_cons (Call_ (ld_blt I hg2 hm2 boot_set ?_)) rfl) rfl rfl))⟩
  refine PyProof.Rows.callWith_type1 (PyProof.Rows.args_cons (thn (ha.run pins s σ H _ I h) fun v s1 ⟨x, H1, I1, r1, l, ns, ex, hq, h64, q1⟩ => PyProof.Rows.args_nil ?_) na) na rfl
  subst ex
  cases r1
  have hh := I1.ok.hd hc
  have fin : ∀ (g : Heap) (tk c : Nat), SetR X.w g s1.heap.objs.size (fun j => decide (j ∈ ns)) c → c ≤ ns.length → (∀ b o, s1.heap.get? b = some o → g.get? b = some o) →
      wpAny (model X.prog X.w) X.A (spliced (backTo pos (starEach [] X.env))) (fun vs s₂ => wpAny (model X.prog X.w) X.A (call (.builtin "sorted") (Value.ref s1.heap.objs.size :: vs)) (EP X pins σ Q) X.xe s₂) X.xe { s1 with heap := g, toks := tk } := fun g tk c R hcn kp => by
    refine PyProof.Rows.args_nil ?_
    have I2 : Inv X pins σ H1 { s1 with heap := g, toks := tk } := I1.kept fun b o e => kp b o e
    refine sorted_set R hh (Nat.lt_of_le_of_lt hcn h64) fun s2 a2 out c2 ms k g2 o2 hp hg3 hi hs hm3 hl => ?_
    have hlen : (ms.map V.int).length ≤ sizeLine := by rw [List.length_map, hl, sizeLine_eq]; omega
    have hn : H1 a2 = none := I2.hok.fresh hp
    have J : Inv X pins σ (upd H1 a2 (.lst (ms.map V.int))) { (⟨g, s1.gens, s1.drawn, tk, s1.os⟩ : Shared) with heap := s2.heap, gens := s2.gens, drawn := s2.drawn, toks := s2.toks } :=
      I2.call (ch := []) (Un.laid k hp hn) (I2.hok.laid k hp ⟨hlen, out.toList, c2, vals_of_ints hi, hg3⟩) (by rw [g2]; exact I2.bare) (fun _ z => nomatch z)
    have e : s2 = { s1 with heap := s2.heap, gens := s2.gens, drawn := s2.drawn, toks := s2.toks } := by
      cases s2
      cases s1
      cases o2
      rfl
    rw [e]
    exact ⟨.ref a2, _, J, rfl, q1 ms a2 hs (fun i => (hm3 i).trans (decide_eq_true_iff)) hn⟩
  rcases hq with hq | hq
  · obtain ⟨us, rv, pl, _⟩ := I1.list hq
    exact set_of_list ns hh pl.isList (by simpa using ints_of_vals rv) (by unfold scanBound; omega) fin
  · obtain ⟨us, rv, pl, _⟩ := I1.tuple hq
    exact call_set_tupI ns hh (show s1.heap.IsTuple l us.toArray from pl) (by simpa using ints_of_vals rv) (by unfold scanBound; omega) fin
def kSrtSet (k : KD) : KD := fun d S => match d with
  | .ref n => ∃ ns : List Int, isL S n (ns.map D.int) ∧ ns.length < 64 ∧ ∀ ms : List Int, ms.Pairwise (· < ·) → (∀ i, i ∈ ms ↔ i ∈ ns) → k (.ref S.length) (S ++ [.lst (ms.map D.int)])
  | .tup ds => ∃ ns : List Int, ds = ns.map D.int ∧ ns.length < 64 ∧ ∀ ms : List Int, ms.Pairwise (· < ·) → (∀ i, i ∈ ms ↔ i ∈ ns) → k (.ref S.length) (S ++ [.lst (ms.map D.int)])
  | _ => False
def dSrtSet (te : TED) : TED := fun sg S k x => te sg S (kSrtSet k) x
theorem q_srtSet {a : Expr} {te : TED} {p p2 q pos : Pos} (hc : X.calm = true) (hm : X.mg "sorted" = none) (hm2 : X.mg "set" = none) (ha : QE X E a te) (hg : Gl X "sorted" := by rfl) (hg2 : Gl X "set" := by rfl)
    (na : starEach [a] X.env = (false, eval a X.env) :: starEach [] X.env := by rfl) : QE X E (.Call (.Name "sorted" p) [.Call (.Name "set" p2) [a] [] q] [] pos) (dSrtSet te) :=
  pe_imp (pe_srtSet hc hg hm hg2 hm2 ha na) fun s H Q ⟨sg, al, S, kd, xd, rs, rl, q, up, ux⟩ => ⟨sg, al, S, kSrtSet kd, xd, rs, rl, q, fun d S1 al1 H1 v f1 r1 q1 => by
    unfold kSrtSet at q1
    split at q1
    · obtain ⟨ns, hl, h64, q1⟩ := q1
      obtain ⟨l, us, e2, _, h1, rv⟩ := isL_at f1.rs hl r1
      rw [rd_ints rv] at h1
      exact ⟨l, ns, e2, .inl h1, h64, fun ms p h2 h3 hp => up_new (up.mono f1) f1.rs hp (ints_rd ms) (q1 ms h2 h3)⟩
    · obtain ⟨ns, e, h64, q1⟩ := q1
      subst e
      obtain ⟨l, us, e2, h1, rv⟩ := r1
      rw [rd_ints rv] at h1
      exact ⟨l, ns, e2, .inr h1, h64, fun ms p h2 h3 hp => up_new (up.mono f1) f1.rs hp (ints_rd ms) (q1 ms h2 h3)⟩
    · exact q1.elim, ux⟩
/-! ### str(i) -/
def strI (i : Int) : Str := toString i
def spStr : SpD := fun ds S k _ => match ds with
  | [.int i] => i.natAbs.log2 < 1920 ∧ k (.str (strI i)) S
  | _ => False
theorem c_str : CallR X (.type "str") (LLs (cy X E) spStr) := by
  intro pins s σ H xs us Q I r ⟨ds, al, S, kd, xd, rs, rd, q, up, ux⟩
  unfold spStr at q
  split at q
  · obtain ⟨v, e, rv⟩ := rds1 rd
    cases (show v = _ from rv)
    subst e
    rename_i i
    exact call_str_int pins s σ H _ us Q I r ⟨i, rfl, q.1, up_at up rs (d := .str (strI i)) rfl q.2⟩
  · exact q.elim
/-! ### sep.join(xs) -/
theorem rd_strs {K : PySem.W.Frag} {H : Hp} {al : List Addr} : ∀ {ys : List Str} {vs : List V}, RDs K H al (ys.map D.str) vs → vs = ys.map V.str
  | [], vs, h => h
  | y :: ys, vs, ⟨v, r, e, h1, h2⟩ => by
    rw [e, show v = V.str y from h1, rd_strs h2]
    rfl
def kJoin2 (k : KD) (a : Str) : KD := fun e S => match e with
  | .ref n => ∃ ys : List Str, isL S n (ys.map D.str) ∧ (ys.map (·.length)).sum + ys.length * a.length ≤ 16777216 ∧ k (.str (Txt.join a ys)) S
  | _ => False
def kJoin1 (te : TED) (sg : Sl) (k : KD) (x : XD) : KD := fun d S => match d with
  | .str a => te sg S (kJoin2 k a) x
  | _ => False
def dJoin (to te : TED) : TED := fun sg S k x => to sg S (kJoin1 te sg k x) x
theorem q_join {o e : Expr} {to te : TED} {apos pos : Pos} (ho : QE X E o to) (he : QE X E e te) (hs : starEach [e] X.env = [(false, eval e X.env)] := by rfl) (hbase : attributeBase o "join" X.env (eval o X.env) = eval o X.env := by rfl) (hline : (apos.endLine == pos.line) = true := by rfl) :
    QE X E (.Call (.Attribute o "join" apos) [e] [] pos) (dJoin to te) :=
  pe_imp (pe_join ho he hs hbase hline) fun s H Q ⟨sg, al, S, kd, xd, rs, rl, q, up, ux⟩ => ⟨sg, al, S, kJoin1 te sg kd xd, xd, rs, rl, q, fun d S1 al1 H1 v f1 r1 q1 => by
    unfold kJoin1 at q1
    split at q1
    · rename_i a
      cases (show v = V.str a from r1)
      refine ⟨⟨a, rfl⟩, sg, al1, S1, kJoin2 kd a, xd, f1.rs, f1.rsl rl, q1, fun d2 S2 al2 H2 v2 f2 r2 q2 => ?_, ux.mono f1⟩
      unfold kJoin2 at q2
      split at q2
      · obtain ⟨ys, hl, hz, q2⟩ := q2
        obtain ⟨p, us, e2, _, h1, rv⟩ := isL_at f2.rs hl r2
        rw [rd_strs rv] at h1
        exact ⟨a, p, ys, rfl, by rw [e2], .inl h1, hz, up_at (up.mono (f1.trans f2)) f2.rs (d := .str (Txt.join a ys)) rfl q2⟩
      · exact q2.elim
    · exact q1.elim, ux⟩
end
end Q
namespace Q
open PySem
open Spec PyProof.Rows L2

/-! ### zip of two lists or two tuples -/
def zipD (xs ys : List D) : List D := xs.zipWith (fun a b => D.tup [a, b]) ys
theorem zipD_get {xs ys : List D} {i : Nat} {d : D} (h : (zipD xs ys)[i]? = some d) : ∃ a b, xs[i]? = some a ∧ ys[i]? = some b ∧ d = .tup [a, b] := by
  unfold zipD at h
  rw [List.getElem?_zipWith] at h
  cases ha : xs[i]? with
  | none => rw [ha] at h; cases h
  | some a =>
    cases hb : ys[i]? with
    | none => rw [ha, hb] at h; cases h
    | some b =>
      rw [ha, hb] at h
      exact ⟨a, b, rfl, rfl, (Option.some.inj h).symm⟩
theorem zipD_len (xs ys : List D) : (zipD xs ys).length = min xs.length ys.length := List.length_zipWith ..
theorem two_rd {K : PySem.W.Frag} {H' : Hp} {al' : List Addr} {y z : D} {v u : V} {T : Addr} {S' : Sto} (rs : RS K H' al' S') (hT : H' T = none) (rv : RD K H' al' y v) (ru : RD K H' al' z u) :
    Fut K H' al' (upd H' T (.tup [v, u])) al' S' ∧ RD K (upd H' T (.tup [v, u])) al' (.tup [y, z]) (.ref T) := by
  have f := Fut.lay (o := .tup [v, u]) rs hT
  exact ⟨f, T, [v, u], rfl, .inl (.of upd_same), _, _, rfl, f.rd rv, RDs.one (f.rd ru)⟩
theorem it_zipT {K : PySem.W.Frag} {H : Hp} {al : List Addr} {a b : Addr} {xs ys : List D} {vs us : List V} (h1 : SqT K H a vs) (r1 : RDs K H al xs vs) (h2 : SqT K H b us) (r2 : RDs K H al ys us) : ItOK K (RZ.ItzT K a b) ⟨zipD xs ys, fun _ => True⟩ H al where
  go := fun i H' al' S' f _ hi => by
    have hi : i < (zipD xs ys).length := hi
    rw [zipD_len] at hi
    have l1 : i < vs.length := by rw [RDs.length r1]; omega
    have l2 : i < us.length := by rw [RDs.length r2]; omega
    exact ⟨vs, us, vs[i], us[i], sqt_keep f.keep h1, sqt_keep f.keep h2, List.getElem?_eq_getElem l1, List.getElem?_eq_getElem l2⟩
  yld := fun i d H' al' S' x H'' f _ hd hy => by
    obtain ⟨T, y, z, e1, hT, e2, hy, hz⟩ := hy
    obtain ⟨a0, b0, ha0, hb0, rfl⟩ := zipD_get hd
    subst e1 e2
    obtain ⟨v, hv, rv⟩ := RDs.get (f.rds r1) ha0
    obtain ⟨u, hu, ru⟩ := RDs.get (f.rds r2) hb0
    have q1 := hy vs (sqt_keep f.keep h1)
    have q2 := hz us (sqt_keep f.keep h2)
    rw [hv] at q1
    rw [hu] at q2
    cases q1
    cases q2
    exact two_rd f.rs hT rv ru
  stop := fun H' al' S' f _ => ⟨vs, us, sqt_keep f.keep h1, sqt_keep f.keep h2, by
    show vs.length ≤ (zipD xs ys).length ∨ us.length ≤ (zipD xs ys).length
    rw [zipD_len, RDs.length r1, RDs.length r2]
    omega⟩
theorem it_zipL {K : PySem.W.Frag} {H : Hp} {al : List Addr} {a b : Addr} {n m : Nat} {xs ys : List D} (ha : al[n]? = some a) (hb : al[m]? = some b) : ItOK K (Itz K a b) ⟨zipD xs ys, fun S => isL S n xs ∧ isL S m ys⟩ H al where
  go := fun i H' al' S' f g hi => by
    have hi : i < (zipD xs ys).length := hi
    rw [zipD_len] at hi
    obtain ⟨vs, h1, r1⟩ := isL_sq f.rs g.1 (getExt f ha)
    obtain ⟨us, h2, r2⟩ := isL_sq f.rs g.2 (getExt f hb)
    have l1 : i < vs.length := by rw [RDs.length r1]; omega
    have l2 : i < us.length := by rw [RDs.length r2]; omega
    exact ⟨vs, us, vs[i], us[i], h1, h2, List.getElem?_eq_getElem l1, List.getElem?_eq_getElem l2⟩
  yld := fun i d H' al' S' x H'' f g hd hy => by
    obtain ⟨T, y, z, e1, hT, e2, hy, hz⟩ := hy
    obtain ⟨a0, b0, ha0, hb0, rfl⟩ := zipD_get hd
    subst e1 e2
    obtain ⟨vs, h1, r1⟩ := isL_sq f.rs g.1 (getExt f ha)
    obtain ⟨us, h2, r2⟩ := isL_sq f.rs g.2 (getExt f hb)
    obtain ⟨v, hv, rv⟩ := RDs.get r1 ha0
    obtain ⟨u, hu, ru⟩ := RDs.get r2 hb0
    have q1 := hy vs h1
    have q2 := hz us h2
    rw [hv] at q1
    rw [hu] at q2
    cases q1
    cases q2
    exact two_rd f.rs hT rv ru
  stop := fun H' al' S' f g => by
    obtain ⟨vs, h1, r1⟩ := isL_sq f.rs g.1 (getExt f ha)
    obtain ⟨us, h2, r2⟩ := isL_sq f.rs g.2 (getExt f hb)
    refine ⟨vs, us, h1, h2, ?_⟩
    show vs.length ≤ (zipD xs ys).length ∨ us.length ≤ (zipD xs ys).length
    rw [zipD_len, RDs.length r1, RDs.length r2]
    omega
def kZp (k : ItD → Sto → Prop) : List D → Sto → Prop := fun ds S => match ds with
  | [.tup xs, .tup ys] => k ⟨zipD xs ys, fun _ => True⟩ S
  | [.ref n, .ref m] => ∃ xs ys, isL S n xs ∧ isL S m ys ∧ k ⟨zipD xs ys, fun S => isL S n xs ∧ isL S m ys⟩ S
  | _ => False
def iZp (ta : TAD) : TID := fun sg S k x => ta sg S (kZp k) x
section
variable {X : Cx} {E : XK}
theorem q_zip {e e2 : Expr} {ta : TAD} {p pos tpos : Pos} {elts : List Expr} {kk : Nat} (hg : Gl X "zip") (hm : X.mg "zip" = none) (ha : QA X E [e, e2] ta)
    (hs : starEach [e, e2] X.env = (false, eval e X.env) :: starEach [e2] X.env := by rfl) (hpl : (backTo pos (starEach [e2] X.env)).any (·.1) = false := by rfl) :
    QI X E (.Tuple elts kk tpos) (.Call (.Name "zip" p) [e, e2] [] pos) (iZp ta) :=
  pi_imp (RZ.pi_zipA hg hm ha hs hpl) fun s H R ⟨sg, al, S, kd, xd, rs, rl, q, up, ux⟩ => ⟨sg, al, S, kZp kd, xd, rs, rl, q, fun ds S1 al1 H1 vs f1 r1 q1 => by
    unfold kZp at q1
    split at q1
    · obtain ⟨v, u, e, r2, r3⟩ := rds2 r1
      obtain ⟨a, vs1, e1, h1, rv1⟩ := r2
      obtain ⟨b, vs2, e2, h2, rv2⟩ := r3
      subst e e1 e2
      exact ⟨a, b, vs1, vs2, rfl, .inr ⟨h1, h2, up _ S1 al1 H1 _ f1 (it_zipT h1 rv1 h2 rv2) q1⟩⟩
    · obtain ⟨xs, ys, hl1, hl2, q1⟩ := q1
      obtain ⟨v, u, e, r2, r3⟩ := rds2 r1
      subst e
      obtain ⟨a, vs1, e1, ha1, h1, _⟩ := isL_at f1.rs hl1 r2
      obtain ⟨b, vs2, e2, hb1, h2, _⟩ := isL_at f1.rs hl2 r3
      subst e1 e2
      exact ⟨a, b, vs1, vs2, rfl, .inl ⟨h1, h2, up _ S1 al1 H1 _ f1 (it_zipL ha1 hb1) q1⟩⟩
    · exact q1.elim, ux⟩
/-! ### a op b op c -/
def kCh3 (r : R2D) (k : KD) (x : XD) (y : D) : KD := fun z S => r y z S k x
def kCh2 (r r' : R2D) (tc : TED) (sg : Sl) (k : KD) (x : XD) (d : D) : KD := fun y S => r d y S (fun z S1 => match z with
  | .bl true => tc sg S1 (kCh3 r' k x y) x
  | .bl false => k (.bl false) S1
  | _ => False) x
def kCh1 (r r' : R2D) (tb tc : TED) (sg : Sl) (k : KD) (x : XD) : KD := fun d S => tb sg S (kCh2 r r' tc sg k x d) x
def dChain (r r' : R2D) (ta tb tc : TED) : TED := fun sg S k x => ta sg S (kCh1 r r' tb tc sg k x) x
theorem chain_red {r r' : R2D} {ta tb tc : TED} {s : L2.St} {H : Hp} {Q : VK} (h : LE (cy X E) (dChain r r' ta tb tc) s H Q) : tChain (LL2 (cy X E) r) (LL2 (cy X E) r') (LE (cy X E) ta) (LE (cy X E) tb) (LE (cy X E) tc) s H Q := by
  obtain ⟨sg, al, S, kd, xd, rs, rl, q, up, ux⟩ := h
  refine ⟨sg, al, S, kCh1 r r' tb tc sg kd xd, xd, rs, rl, q, fun d1 S1 al1 H1 v1 f1 r1 q1 => ?_, ux⟩
  refine ⟨sg, al1, S1, kCh2 r r' tc sg kd xd d1, xd, f1.rs, f1.rsl rl, q1, fun d2 S2 al2 H2 v2 f2 r2 q2 => ?_, ux.mono f1⟩
  refine ⟨d1, d2, al2, S2, _, xd, f2.rs, f2.rd r1, r2, q2, fun d3 S3 al3 H3 v3 f3 r3 q3 => ?_, ux.mono (f1.trans f2)⟩
  cases d3 <;> try exact q3.elim
  case bl z =>
    cases (show v3 = V.bl z from r3)
    refine ⟨z, rfl, ?_⟩
    cases z with
    | true =>
      refine ite_of ⟨fun _ => ?_, fun z => nomatch z⟩
      refine ⟨sg, al3, S3, _, xd, f3.rs, ((f1.trans f2).trans f3).rsl rl, q3, fun d4 S4 al4 H4 v4 f4 r4 q4 => ?_, ux.mono ((f1.trans f2).trans f3)⟩
      exact ⟨d2, d4, al4, S4, kd, xd, f4.rs, (f3.trans f4).rd r2, r4, q4, up.mono (((f1.trans f2).trans f3).trans f4), ux.mono (((f1.trans f2).trans f3).trans f4)⟩
    | false =>
      refine ite_of ⟨fun z => (nomatch z), fun _ => ?_⟩
      exact up (.bl false) S3 al3 H3 (.bl false) ((f1.trans f2).trans f3) rfl q3
theorem q_chain {op op' : CmpOp} {r r' : R2D} {a b c : Expr} {ta tb tc : TED} {pos : Pos} (ho : OpR X (compareOp op) (LL2 (cy X E) r)) (ho' : OpR X (compareOp op') (LL2 (cy X E) r')) (ha : QE X E a ta) (hb : QE X E b tb) (hc : QE X E c tc)
    (hm : lastMarks [op, op'] [b, c] = false := by with_unfolding_all rfl) : QE X E (.Compare a [op, op'] [b, c] pos) (dChain r r' ta tb tc) :=
  pe_imp (pe_chain ho ho' ha hb hc hm) fun _ _ _ => chain_red
/-! ### len(set(xs)) of unlike ints -/
def tLenNew (K : PySem.W.Frag) (ta : TE) : TE := fun σ H Q => ta σ H fun x H1 => ∃ (l : Addr) (ns : List Int), x = .ref l ∧ (SqL K H1 l (ns.map V.int) ∨ SqT K H1 l (ns.map V.int)) ∧ ns.Nodup ∧ ns.length < 1000 ∧ Q (.int ns.length) H1
theorem pe_lenNew {a : Expr} {ta : TE} {p p2 q pos : Pos} (hc : X.calm = true) (hg : Gl X "len") (hm : X.mg "len" = none) (hg2 : Gl X "set") (hm2 : X.mg "set" = none) (ha : PE X a ta)
    (na : starEach [a] X.env = (false, eval a X.env) :: starEach [] X.env := by rfl) : PE X (.Call (.Name "len" p) [.Call (.Name "set" p2) [a] [] q] [] pos) (tLenNew X.K ta) := by
  refine ⟨fun pins s σ H Q I h => Call_ (ld_blt I hg hm boot_len (PyProof.Rows.callWith_builtin1 (PyProof.Rows.args_cons (Call_ (ld_blt I hg2 hm2 boot_set ?_)) rfl) rfl rfl))⟩
  refine PyProof.Rows.callWith_type1 (PyProof.Rows.args_cons (thn (ha.run pins s σ H _ I h) fun v s1 ⟨x, H1, I1, r1, l, ns, ex, hq, hnd, h1k, q1⟩ => PyProof.Rows.args_nil ?_) na) na rfl
  subst ex
  cases r1
  have hh := I1.ok.hd hc
  have fin : ∀ (g : Heap) (tk c : Nat), SetR X.w g s1.heap.objs.size (fun j => decide (j ∈ ns)) c → c ≤ ns.length → (∀ b o, s1.heap.get? b = some o → g.get? b = some o) →
      wpAny (model X.prog X.w) X.A (spliced (backTo pos (starEach [] X.env))) (fun vs s₂ => wpAny (model X.prog X.w) X.A (call (.builtin "len") (Value.ref s1.heap.objs.size :: vs)) (EP X pins σ Q) X.xe s₂) X.xe { s1 with heap := g, toks := tk } := fun g tk c R _ kp => by
    refine PyProof.Rows.args_nil ?_
    have I2 : Inv X pins σ H1 { s1 with heap := g, toks := tk } := I1.kept fun b o e => kp b o e
    obtain ⟨o, es, ep, t, ho, hex, hd, _, nd, hmem, _, hf, hn, _, _⟩ := R
    have pm : (es.toList.map keyOf).Perm ns := (List.perm_ext_iff_of_nodup nd hnd).mpr fun j => (hmem j).symm.trans decide_eq_true_iff
    have hsz : es.size = ns.length := by
      have := pm.length_eq
      rwa [List.length_map, Array.length_toList] at this
    exact call_len_set ho hex hd hf (by rw [hsz]; omega) ⟨.int ns.length, H1, I2.tok _, ⟨_, by rw [hsz]⟩, q1⟩
  rcases hq with hq | hq
  · obtain ⟨us, rv, pl, _⟩ := I1.list hq
    exact set_of_list ns hh pl.isList (by simpa using ints_of_vals rv) (by unfold scanBound; omega) fin
  · obtain ⟨us, rv, pl, _⟩ := I1.tuple hq
    exact call_set_tupI ns hh (show s1.heap.IsTuple l us.toArray from pl) (by simpa using ints_of_vals rv) (by unfold scanBound; omega) fin
def kLenNew (k : KD) : KD := fun d S => match d with
  | .ref n => ∃ ns : List Int, isL S n (ns.map D.int) ∧ ns.Nodup ∧ ns.length < 1000 ∧ k (.int ns.length) S
  | .tup ds => ∃ ns : List Int, ds = ns.map D.int ∧ ns.Nodup ∧ ns.length < 1000 ∧ k (.int ns.length) S
  | _ => False
def dLenNew (te : TED) : TED := fun sg S k x => te sg S (kLenNew k) x
theorem q_lenNew {a : Expr} {te : TED} {p p2 q pos : Pos} (hc : X.calm = true) (hm : X.mg "len" = none) (hm2 : X.mg "set" = none) (ha : QE X E a te) (hg : Gl X "len" := by rfl) (hg2 : Gl X "set" := by rfl)
    (na : starEach [a] X.env = (false, eval a X.env) :: starEach [] X.env := by rfl) : QE X E (.Call (.Name "len" p) [.Call (.Name "set" p2) [a] [] q] [] pos) (dLenNew te) :=
  pe_imp (pe_lenNew hc hg hm hg2 hm2 ha na) fun s H Q ⟨sg, al, S, kd, xd, rs, rl, q, up, ux⟩ => ⟨sg, al, S, kLenNew kd, xd, rs, rl, q, fun d S1 al1 H1 v f1 r1 q1 => by
    unfold kLenNew at q1
    split at q1
    · obtain ⟨ns, hl, hnd, hz, q1⟩ := q1
      obtain ⟨l, us, e2, _, h1, rv⟩ := isL_at f1.rs hl r1
      rw [rd_ints rv] at h1
      exact ⟨l, ns, e2, .inl h1, hnd, hz, up_at (up.mono f1) f1.rs (d := .int ns.length) rfl q1⟩
    · obtain ⟨ns, e, hnd, hz, q1⟩ := q1
      subst e
      obtain ⟨l, us, e2, h1, rv⟩ := r1
      rw [rd_ints rv] at h1
      exact ⟨l, ns, e2, .inr h1, hnd, hz, up_at (up.mono f1) f1.rs (d := .int ns.length) rfl q1⟩
    · exact q1.elim, ux⟩
end
end Q
namespace Q
open PySem
open Spec PyProof.Rows L2

/-! ### dicts: {}, d[k], d.get(k, x), d[k] = v -/
def valD (kvs : List (Key × D)) (k : Key) : Option D := (kvs.find? fun p => decide (p.1 = k)).map (·.2)
theorem rks_val {K : PySem.W.Frag} {H : Hp} {al : List Addr} {k : Key} : ∀ {ds : List (Key × D)} {vs : List (Key × V)}, RKs K H al ds vs → (∀ d, valD ds k = some d → ∃ v, valV vs k = some v ∧ RD K H al d v) ∧ (valD ds k = none → valV vs k = none)
  | [], _, h => by
    rw [show _ = [] from h]
    exact ⟨fun _ z => (by cases z), fun _ => rfl⟩
  | p :: ds, _, ⟨w, r, e, h1, h2⟩ => by
    subst e
    have ih := rks_val (k := k) h2
    unfold valD valV at ih ⊢
    by_cases q : p.1 = k
    · rw [List.find?_cons_of_pos (by simpa using q), List.find?_cons_of_pos (by simpa using q)]
      refine ⟨fun d z => ⟨w, rfl, ?_⟩, fun z => ?_⟩
      · cases z
        exact h1
      · cases z
    · rw [List.find?_cons_of_neg (by simpa using q), List.find?_cons_of_neg (by simpa using q)]
      exact ih
def dDicE : TED := fun _ S k _ => k (.ref S.length) (S ++ [.dic []])
def rDget (d y : D) (S : Sto) (k : Option D → Sto → Prop) : Prop := match d with
  | .ref n => ∃ kvs key, S[n]? = some (.dic kvs) ∧ y = keyD key ∧ k (valD kvs key) S
  | _ => False
def kDg2 (k : KD) (d : D) : KD := fun y S => rDget d y S fun o S' => ∃ v, o = some v ∧ k v S'
def kDg1 (ty : TED) (sg : Sl) (k : KD) (x : XD) : KD := fun d S => ty sg S (kDg2 k d) x
/-- d[y] of a dict -/
def dDget (td ty : TED) : TED := fun sg S k x => td sg S (kDg1 ty sg k x) x
def kDh3 (k : KD) (d y : D) : KD := fun z S => rDget d y S fun o S' => k (o.getD z) S'
def kDh2 (tx : TED) (sg : Sl) (k : KD) (x : XD) (d : D) : KD := fun y S => tx sg S (kDh3 k d y) x
def isDic (S : Sto) (d : D) : Prop := match d with
  | .ref n => ∃ kvs, S[n]? = some (.dic kvs)
  | _ => False
def kDh1 (ty tx : TED) (sg : Sl) (k : KD) (x : XD) : KD := fun d S => isDic S d ∧ ty sg S (kDh2 tx sg k x d) x
/-- d.get(y, z) -/
def dDget2 (td ty tx : TED) : TED := fun sg S k x => td sg S (kDh1 ty tx sg k x) x
def rDset : D → D → D → Sto → (Sto → Prop) → Prop := fun o i v S q => match o with
  | .ref n => ∃ kvs key, S[n]? = some (.dic kvs) ∧ i = keyD key ∧ kvs.length < sizeLine ∧ q (S.set n (.dic (putD kvs key v)))
  | _ => False
def kGd2 (o : D) (v : D) (sg : Sl) (q : Sl → Sto → Prop) : KD := fun i S => rDset o i v S (fun S' => q sg S')
def kGd1 (ti : TED) (v : D) (sg : Sl) (q : Sl → Sto → Prop) (x : XD) : KD := fun o S => ti sg S (kGd2 o v sg q) x
/-- d[i] = .. of a dict -/
def gDb (to ti : TED) : TGD := fun v sg S q x => to sg S (kGd1 ti v sg q x) x
theorem dic_at {K : PySem.W.Frag} {H : Hp} {al : List Addr} {S : Sto} {n : Nat} {ds : List (Key × D)} {v : V} (rs : RS K H al S) (h : S[n]? = some (.dic ds)) (r : RD K H al (.ref n) v) : ∃ a vs, v = .ref a ∧ al[n]? = some a ∧ H a = some (.dK vs) ∧ RKs K H al ds vs := by
  obtain ⟨a, e, ha⟩ := r
  obtain ⟨vs, e1, r1⟩ := rs.ob n _ a h ha
  exact ⟨a, vs, e, ha, e1, r1⟩
section
variable {X : Cx} {E : XK} {o i e f : Expr} {to ti te tx : TED} {pos pos' apos cpos : Pos}
theorem q_dNew : QE X E (.Dict [] [] pos) dDicE :=
  pe_imp pe_dnewK fun s H Q ⟨sg, al, S, kd, xd, rs, rl, q, up, ux⟩ => fun p hp => up (.ref S.length) _ _ _ (.ref p) (new_dic (ds := []) (vs := []) rs hp rfl) ⟨p, rfl, by rw [← rs.len]; simp⟩ q
theorem q_dget (hu : X.A.units + 64 < cLine) (ho : QE X E o to) (hi : QE X E i ti) (hs : NoSl i := by intro _ _; rfl) : QE X E (.Subscript o i pos) (dDget to ti) :=
  pe_imp (pe_dget (Nat.lt_of_le_of_lt (Nat.add_le_add_left (by decide) _) hu) ho hi hs) fun s H Q ⟨sg, al, S, kd, xd, rs, rl, q, up, ux⟩ => ⟨sg, al, S, kDg1 ti sg kd xd, xd, rs, rl, q, fun d1 S1 al1 H1 v1 f1 r1 q1 =>
    ⟨sg, al1, S1, kDg2 kd d1, xd, f1.rs, f1.rsl rl, q1, fun d2 S2 al2 H2 v2 f2 r2 q2 => by
      have qz : rDget d1 d2 S2 fun o S' => ∃ v, o = some v ∧ kd v S' := q2
      clear q2
      unfold rDget at qz
      split at qz
      · obtain ⟨kvs, key, h1, e2, v, hv, q2⟩ := qz
        subst e2
        obtain ⟨a, vs, ea, _, eH, rk⟩ := dic_at f2.rs h1 (f2.rd r1)
        obtain ⟨w, hw, rw'⟩ := (rks_val (k := key) rk).1 v hv
        rw [key_rd r2]
        exact ⟨a, w, ea, by rw [← hw]; exact DGet.k eH, up_at (up.mono (f1.trans f2)) f2.rs rw' q2⟩
      · exact qz.elim, ux.mono f1⟩, ux⟩
theorem q_dget2 (hu : X.A.units + 64 < cLine) (ho : QE X E o to) (he : QE X E e te) (hf : QE X E f tx) (m : M2 X o "get" apos e f cpos := by exact ⟨rfl, rfl, rfl, rfl⟩) : QE X E (.Call (.Attribute o "get" apos) [e, f] [] cpos) (dDget2 to te tx) :=
  pe_imp (pe_dget2 (Nat.lt_of_le_of_lt (Nat.add_le_add_left (by decide) _) hu) ho he hf m) fun s H Q ⟨sg, al, S, kd, xd, rs, rl, q, up, ux⟩ => ⟨sg, al, S, kDh1 te tx sg kd xd, xd, rs, rl, q, fun d1 S1 al1 H1 v1 f1 r1 q1 => by
    obtain ⟨hD, q1⟩ := q1
    cases d1 with
    | ref n =>
      obtain ⟨kvs0, h0⟩ := hD
      obtain ⟨a, vs0, ea, han, eH0, rk0⟩ := dic_at f1.rs h0 r1
      refine ⟨a, ea, .inl ⟨vs0, .inl eH0⟩, sg, al1, S1, kDh2 tx sg kd xd (.ref n), xd, f1.rs, f1.rsl rl, q1, fun d2 S2 al2 H2 v2 f2 r2 q2 => ?_, ux.mono f1⟩
      refine ⟨sg, al2, S2, kDh3 kd (.ref n) d2, xd, f2.rs, (f1.trans f2).rsl rl, q2, fun d3 S3 al3 H3 v3 f3 r3 q3 => ?_, ux.mono (f1.trans f2)⟩
      have qz : rDget (.ref n) d2 S3 fun o S' => kd (o.getD d3) S' := q3
      clear q3
      unfold rDget at qz
      obtain ⟨kvs, key, h1, e2, q3⟩ := qz
      subst e2
      obtain ⟨a', vs, ea', _, eH, rk⟩ := dic_at f3.rs h1 ((f2.trans f3).rd r1)
      rw [ea] at ea'
      cases ea'
      rw [key_rd r2]
      have fA := (f1.trans f2).trans f3
      refine ⟨valV vs key, DGet.k eH, ?_⟩
      have rv := rks_val (k := key) rk
      cases hv : valD kvs key with
      | none =>
        rw [hv] at q3
        rw [rv.2 hv]
        exact up_at (up.mono fA) f3.rs r3 q3
      | some v =>
        rw [hv] at q3
        obtain ⟨w, hw, rw'⟩ := rv.1 v hv
        rw [hw]
        exact up_at (up.mono fA) f3.rs rw' q3
    | _ => exact hD.elim, ux⟩
theorem q_gdb (hu : X.A.units + 64 < cLine) (ho : QE X E o to) (hi : QE X E i ti) (ha : ∀ v, assign (.Subscript o i pos) X.env v = (do
      let b ← holding [v] (eval o X.env)
      let c ← holding [v, b] (eval i X.env)
      standAt pos; holding [v, b, c] (setItem b c v); release [v, b, c] []) := by intro _; rfl) : QGp X E (.Subscript o i pos) (gDb to ti) := by
  refine pg_imp (pg_sub ho hi (set_dict (Nat.lt_of_le_of_lt (Nat.add_le_add_left (by decide) _) hu)) ha) fun v s H Q ⟨d, sg, al, S, qd, xd, rs, rl, rd, q, up, ux⟩ => ?_
  refine ⟨sg, al, S, _, xd, rs, rl, q, fun d1 S1 al1 H1 v1 f1 r1 q1 => ⟨sg, al1, S1, _, xd, f1.rs, f1.rsl rl, q1, fun d2 S2 al2 H2 v2 f2 r2 q2 => ?_, ux.mono f1⟩, ux⟩
  have qz : rDset d1 d2 d S2 (fun S' => qd sg S') := q2
  clear q2
  unfold rDset at qz
  split at qz
  · obtain ⟨kvs, key, h1, e2, hz, q2⟩ := qz
    subst e2
    obtain ⟨a, vs, e1, ha1, eH, rk⟩ := dic_at f2.rs h1 (f2.rd r1)
    have rv := (f1.trans f2).rd rd
    have f3 := set_dic f2.rs h1 ha1 (rks_put (k := key) rv rk)
    rw [key_rd r2]
    exact ⟨a, _, e1, DPut.k eH (by rw [rks_len rk]; exact hz), up sg _ al2 _ s ((f1.trans f2).trans f3) (((f1.trans f2).trans f3).rsl rl) q2⟩
  · exact qz.elim
/-! ### xs[i] op= e of a list -/
def kAs4 (M : EndsD) (sg : Sl) (n j : Nat) : KD := fun v S => ∃ xs, S[n]? = some (.lst xs) ∧ j < xs.length ∧ M.nx sg (S.set n (.lst (xs.set j v)))
def kAs3 (r : R2D) (M : EndsD) (sg : Sl) (n j : Nat) (y : D) : KD := fun z S => r y z S (kAs4 M sg n j) M.ex
def kAs2 (te : TED) (r : R2D) (M : EndsD) (sg : Sl) (d : D) : KD := fun i S => match d, i with
  | .ref n, .int k => ∃ xs j y, S[n]? = some (.lst xs) ∧ k = ((j : Nat) : Int) ∧ xs[j]? = some y ∧ te sg S (kAs3 r M sg n j y) M.ex
  | _, _ => False
def kAs1 (ti te : TED) (r : R2D) (M : EndsD) (sg : Sl) : KD := fun d S => ti sg S (kAs2 te r M sg d) M.ex
def dAugS (r : R2D) (to ti te : TED) : TSD := fun M sg S => to sg S (kAs1 ti te r M sg) M.ex
def gIxN : V → V → Hp → VK → Prop := fun o i H Q => ∃ p xs, ∃ k : Nat, ∃ v, o = .ref p ∧ i = .int (k : Int) ∧ H p = some (.lst xs) ∧ xs[k]? = some v ∧ Q v H
theorem get_ixN : PGet X gIxN := by
  intro pins s σ H x y v u Q I rx ry h
  obtain ⟨p, xs, k, z, rfl, rfl, hq, he, q⟩ := h
  cases rx
  obtain ⟨t, rfl⟩ := ry
  obtain ⟨its, r, pl, hz⟩ := I.list (.inl (.inl hq))
  obtain ⟨w, ew, rw'⟩ := r.get he
  have hk : k < its.length := (List.getElem?_eq_some_iff.mp ew).1
  have hn := line63
  have hs : its.length ≤ sizeLine := by have := r.length; omega
  exact wpAny_getItem_list pl.isList (by omega) (by omega) (by simpa using ew) ⟨z, H, I, rw', q⟩
theorem q_augS {op : Operator} {r : R2D} {tpos : Pos} (ho' : OpR X (inplaceOp op) (LL2 (cy X E) r)) (ho : QE X E o to) (hi : QE X E i ti) (he : QE X E e te)
    (ha : ∀ ov iv new, augStore i ov iv new = (do holding [new, ov, iv] (setItem ov iv new); release [new, ov, iv] []; pure .next) := by intros; rfl) : QS X E (.AugAssign (.Subscript o i tpos) op e pos) (dAugS r to ti te) := by
  have hp : PIp X op (LL2 (cy X E) r) := fun pins s σ H x y v u Q I r1 r2 h => ho' pins s σ H x y v u Q I r1 r2 h
  refine ps_imp (ps_augS ho hi get_ixN he hp set_list ha) fun De s H ⟨sg, al, S, M, rs, rl, q, ue⟩ => ?_
  refine ⟨sg, al, S, kAs1 ti te r M sg, M.ex, rs, rl, q, fun d1 S1 al1 H1 v1 f1 r1 q1 => ?_, ue.ex⟩
  refine ⟨sg, al1, S1, kAs2 te r M sg d1, M.ex, f1.rs, f1.rsl rl, q1, fun d2 S2 al2 H2 v2 f2 r2 q2 => ?_, ue.ex.mono f1⟩
  unfold kAs2 at q2
  split at q2
  · rename_i n k
    obtain ⟨xs, j, y, h1, hk, hy, q2⟩ := q2
    subst hk
    obtain ⟨a, vs, e1, ha1, eH, rv⟩ := lst_at f2.rs h1 (f2.rd r1)
    obtain ⟨w, hw, rw'⟩ := RDs.get rv hy
    cases (show v2 = _ from r2)
    have f12 := f1.trans f2
    refine ⟨a, vs, j, w, e1, rfl, eH, hw, sg, al2, S2, kAs3 r M sg n j y, M.ex, f2.rs, f12.rsl rl, q2, fun d3 S3 al3 H3 v3 f3 r3 q3 => ?_, ue.ex.mono f12⟩
    have f123 := f12.trans f3
    refine ⟨y, d3, al3, S3, kAs4 M sg n j, M.ex, f3.rs, f3.rd rw', r3, q3, fun d4 S4 al4 H4 v4 f4 r4 q4 => ?_, ue.ex.mono f123⟩
    obtain ⟨xs4, h4, hj4, q4⟩ := q4
    obtain ⟨a4, vs4, e4, ha4, eH4, rv4⟩ := lst_at f4.rs h4 (((f2.trans f3).trans f4).rd r1)
    rw [e1] at e4
    cases e4
    have f5 := set_lst f4.rs h4 ha4 (RDs.set j rv4 r4)
    have fA := (f123.trans f4).trans f5
    refine ⟨a, vs4, (j : Int), j, e1, rfl, eH4, by rw [RDs.length rv4]; unfold ixN; rw [if_pos (by omega), if_pos (by omega)]; simp, ?_⟩
    exact ue.nx sg _ al4 _ s fA (fA.rsl rl) q4
  · exact q2.elim
/-! ### xs.remove(k) of a list of ints -/
def rRem : RMD := fun d ds S k _ => match d, ds with
  | .ref n, [.int i] => ∃ ns : List Int, S[n]? = some (.lst (ns.map D.int)) ∧ i ∈ ns ∧ k .non (S.set n (.lst ((ns.erase i).map D.int)))
  | _, _ => False
theorem idx_first {i : Int} : ∀ {ns : List Int}, i ∈ ns → ∃ j : Nat, ns[j]? = some i ∧ (∀ m : Nat, m < j → ns[m]? ≠ some i) ∧ ns.erase i = ns.eraseIdx j
  | [], h => nomatch h
  | a :: ns, h => by
    by_cases e : a = i
    · subst e
      exact ⟨0, rfl, fun m hm => absurd hm (Nat.not_lt_zero _), by rw [List.erase_cons_head]; rfl⟩
    · obtain ⟨j, h1, h2, h3⟩ := idx_first (ns := ns) ((List.mem_cons.mp h).resolve_left fun z => e z.symm)
      refine ⟨j + 1, by simpa using h1, fun m hm => ?_, ?_⟩
      · cases m with
        | zero => simpa using e
        | succ m => simpa using h2 m (by omega)
      · rw [List.erase_cons_tail (by simpa using e), h3]
        rfl
theorem m_rem : MtR X "list.remove" (LLm (cy X E) rRem) := by
  intro pins s σ H x xs v us Q I rx rv ⟨d, ds, al, S, kd, xd, rs, rd, rds, q, up, ux⟩
  unfold rRem at q
  split at q
  · obtain ⟨ns, h1, hi, q⟩ := q
    obtain ⟨a, us', e1, ha, hH, r1⟩ := lst_at rs h1 rd
    obtain ⟨y, e2, ry⟩ := rds1 rds
    cases (show y = _ from ry)
    rw [rd_ints r1] at hH
    obtain ⟨j, j1, j2, j3⟩ := idx_first hi
    rw [j3] at q
    exact mt_remove pins s σ H x xs v us Q I rx rv ⟨a, ns, _, j, e1, e2, hH, j1, j2, up .non _ al _ .non (set_lst rs h1 ha (ints_rd _)) rfl q⟩
  · exact q.elim
end
end Q
namespace Q
open PySem
open Spec PyProof.Rows L2

/-! ### sorted of a tuple of ints -/
section
variable {prog : Program} {w : World} {A : Around} {E : Value → Shared → Prop} {s : Shared}
abbrev bagH (h : Heap) (vs : List Value) : Heap := (h.push (seqObj "list" #[] 0)).update h.objs.size (Obj.mapSeq (· ++ vs.toArray))
theorem collect_tup {t : Addr} {vs : List Value} {Q : List Value → Shared → Prop} (ht : IsTup s.heap t vs.toArray) (hz : vs.length ≤ sizeLine) (h : Q vs { s with heap := bagH s.heap vs }) : wpAny (model prog w) A (collect (.ref t)) Q E s := by
  obtain ⟨o, ho, hc, n, hd⟩ := (id ht : IsTup _ _ _)
  have h0 : (s.heap.push (seqObj "list" #[] 0)).get? s.heap.objs.size = some (seqObj "list" #[] 0) := Heap.get?_push_size _ rfl
  have h1 : (s.heap.push (seqObj "list" #[] 0)).get? t = some o := Heap.get?_push_of_some _ ho
  have hn : (#[] ++ vs.toArray).size ≤ sizeLine + 1 := by simp only [Array.size_append, List.size_toArray, List.length_nil]; omega
  have grow : ∀ A' : Around, wpAny (model prog w) A' (Builtin.List.listExtendWith (.ref s.heap.objs.size) (.ref t) (.ref s.heap.objs.size)) (fun f s' => f = .done (.ret (.ref s.heap.objs.size)) ∧ s' = { s with heap := bagH s.heap vs }) (fun _ _ => False) { s with heap := s.heap.push (seqObj "list" #[] 0) } := fun A' => by
    unfold Builtin.List.listExtendWith
    refine wpAny_bind (wpAny_typeOf (T := "tuple") ⟨o, h1, hc⟩ ?_)
    have hb : (Value.type "tuple" == Value.type "tuple") = true := by rfl
    rw [if_pos (by simp [hb])]
    refine wpAny_bind (listItems_at h1 hd (wpAny_bind (listItems_at (xs := #[]) (n := 0) h0 rfl ?_)))
    rw [if_neg (by simp)]
    exact wpAny_bind (listUpdate_at (xs := #[]) (n := 0) h0 rfl (wpAny_pure ⟨rfl, rfl⟩) (Nat.zero_le _) hn)
  unfold collect
  refine wpAny_bind (wpAny_runValue (codeAny_builtin entry_proto_collect' (show wpAny _ _ (do again (.builtin "list.__iadd__" ⟨[← newList [], .ref t], []⟩)) _ _ s from wpAny_bind (wpAny_newList (wpAny_pure ⟨Code.quiet_builtin _ (by decide +kernel), codeAny_builtin entry_list_iadd' (wpAny_mono (grow _) (fun f s' hf => ?_) fun _ _ x => x.elim)⟩)))))
  obtain ⟨rfl, rfl⟩ := hf
  show wpAny (model prog w) A (load s.heap.objs.size >>= fun o => match o.data with | .seq xs _ => pure xs.toList | _ => unsupported "internal:collect") Q E { s with heap := bagH s.heap vs }
  refine wpAny_bind (wpAny_load (get?_update_seq h0 _) ?_)
  have e : ((#[] : Array Value) ++ vs.toArray).toList = vs := by simp
  have fin : ∀ us : List Value, us = vs → wpAny (model prog w) A (pure us) Q E { s with heap := bagH s.heap vs } := fun us eu => by
    subst eu
    exact wpAny_pure h
  exact fin _ e
theorem sorted_tupI {t : Addr} {vs : List Value} {ns : List Int} {Q : Value → Shared → Prop} (hI : IntsAre vs ns) (ht : IsTup s.heap t vs.toArray) (hz : vs.length ≤ sizeLine)
    (h : ∀ out : List Value, IntsAre out (out.map SrtO.iv) → (out.map SrtO.iv).Perm ns → (out.map SrtO.iv).Pairwise (· ≤ ·) → Q (.ref (s.heap.objs.size + 1)) { s with heap := sortedAll s.heap vs out.toArray }) : wpAny (model prog w) A (call (.builtin "sorted") [.ref t]) Q E s := by
  refine Calls.call_function_entry kind_sorted plain_sorted entry_sorted (args_sorted1 (.ref t)) ?_
  unfold Builtin.«sorted»
  refine wpAny_bind (m := checkCount "sorted" 1 1 _) (wpAny_pure (wpAny_bind (collect_tup ht hz (wpAny_bind (wpAny_newList ?_ hz)))))
  have hs : (bagH s.heap vs).objs.size = s.heap.objs.size + 1 := by rw [Heap.size_update, size_push']
  have hL : ((bagH s.heap vs).push (seqObj "list" vs.toArray 0)).get? (s.heap.objs.size + 1) = some (seqObj "list" vs.toArray 0) := hs ▸ Heap.get?_push_size _ rfl
  show wpAny _ _ _ _ _ { s with heap := (bagH s.heap vs).push (seqObj "list" vs.toArray 0) }
  rw [hs]
  refine wpAny_bind (wpAny_holding (wpAny_call_entry slot_list_sort ⟨_, hL, rfl⟩ entry_list_sort (SrtO.list_sort_ord SrtO.swo_int hL hz (fun h2 => SrtO.ints_sortable hI h2) fun out h1 h2 => ⟨_, rfl, ?_⟩) (args_list_sort _)))
  obtain ⟨k1, k2, k3⟩ := SrtO.ints_out hI h1 h2
  exact wpAny_pure ⟨_, rfl, h out k1 k2 k3⟩
end
def spSortedT : SpD := fun ds S k _ => match ds with
  | [.tup xs] => ∃ ns : List Int, xs = ns.map D.int ∧ xs.length ≤ sizeLine ∧ ∀ ms : List Int, ms.Perm ns → ms.Pairwise (· ≤ ·) → k (.ref S.length) (S ++ [.lst (ms.map D.int)])
  | _ => False
theorem c_sortedT {X : Cx} {E : XK} : CallR X (.builtin "sorted") (LLs (cy X E) spSortedT) := by
  intro pins s σ H xs us Q I r ⟨ds, al, S, kd, xd, rs, rd, q, up, ux⟩
  unfold spSortedT at q
  split at q
  · obtain ⟨ns, e, hz, q⟩ := q
    subst e
    obtain ⟨v, e, a, vs, e2, h1, r1⟩ := rds1 rd
    subst e e2
    rw [rd_ints r1] at h1
    obtain ⟨its, rv, pl, hz2⟩ := I.tuple h1
    rw [Vals.ref1 r]
    have hi := ints_of_vals rv
    have hlen : its.length = ns.length := by
      have := rv.length
      rw [List.length_map] at this
      omega
    rw [List.length_map] at hz
    refine sorted_tupI hi pl (by omega) fun out k1 k2 k3 => ?_
    obtain ⟨eq0, hq0⟩ := PyProof.Rows.sortedAll_at s.heap its out.toArray
    refine ⟨.ref _, upd H (s.heap.objs.size + 1) (.lst ((out.map SrtO.iv).map V.int)), I.laid (t' := s.toks) (fun _ _ => PyProof.Rows.sortedAll_old) (Nat.le_succ _) ⟨by rw [List.length_map, k2.length_eq]; exact hz, out, eq0, vals_of_ints k1, hq0⟩, rfl, ?_⟩
    exact up_new up rs (I.hok.fresh (Nat.le_succ _)) (ints_rd _) (q _ k2 k3)
  · exact q.elim
end Q
namespace Q
open PySem
open Spec PyProof.Rows L2

/-! ### a tuple of targets, some of them places of lists -/
abbrev QGsp (X : Cx) (E : XK) (tg : List Expr) (t : TGDs) : Prop := PGs X tg (LGs (cy X E) t)
section
variable {X : Cx} {E : XK} {tg : Expr} {es : List Expr} {g : TGD} {gs : TGDs} {pos : Pos}
theorem pgs_imp {t t' : TGs} (h : PGs X es t) (f : ∀ v s H Q, t' v s H Q → t v s H Q) : PGs X es t' := ⟨fun pins s σ H v u Q I r q => h.run pins s σ H v u Q I r (f v σ H Q q)⟩
theorem q_gsnilP : QGsp X E [] gsNil := pgs_imp pgs_nil fun vs s H Q ⟨d, sg, al, S, qd, xd, rs, rl, rd, q, up, ux⟩ => by
  cases d with
  | nil => exact ⟨rd, up sg S al H s (.now rs) rl q⟩
  | cons _ _ => exact q.elim
theorem q_gsconsP (h1 : QGp X E tg g) (h2 : QGsp X E es gs) (hs : (assignEach (tg :: es) X.env).map (·.2) = assign tg X.env :: (assignEach es X.env).map (·.2) := by rfl) : QGsp X E (tg :: es) (gsCons g gs) :=
  pgs_imp (pgs_cons h1 h2 hs) fun vs s H Q ⟨d, sg, al, S, qd, xd, rs, rl, rd, q, up, ux⟩ => by
    cases d with
    | nil => exact q.elim
    | cons d r =>
      obtain ⟨v, u, e, r1, r2⟩ := rd
      exact ⟨v, u, e, d, sg, al, S, _, xd, rs, rl, r1, q, fun sg1 S1 al1 H1 sv1 f1 rl1 q1 => ⟨r, sg1, al1, S1, qd, xd, f1.rs, rl1, f1.rds r2, q1, up.mono f1, ux.mono f1⟩, ux⟩
theorem q_gtpP {k n : Nat} (hc : X.calm = true) (h : QGsp X E es gs) (hn : (assignEach es X.env).length = n := by rfl) (hst : (assignEach es X.env).findIdx? (·.1) = none := by rfl) : QGp X E (.Tuple es k pos) (gTp n gs) :=
  pg_imp (pg_tup hc h hn hst) fun v s H Q ⟨d, sg, al, S, qd, xd, rs, rl, rd, q, up, ux⟩ => by
    cases d <;> try exact q.elim
    case tup ds =>
      obtain ⟨a, vs, e, h1, r1⟩ := rd
      exact ⟨a, vs, e, h1, by rw [RDs.length r1]; exact q.1, ds, sg, al, S, qd, xd, rs, rl, r1, q.2, up, ux⟩
end
end Q
namespace Q
open PySem
open Spec PyProof.Rows L2

/-! ### xs[lo::st] of a list, st above 0 -/
def pickG {α : Type} (xs : List α) (lo : Option Int) (c : Int) : List α :=
  (sliceRange (sliceBounds lo none (some c) xs.length).1 (sliceBounds lo none (some c) xs.length).2.1 (sliceBounds lo none (some c) xs.length).2.2).filterMap (xs[·]?)
theorem vals_pick {xs : List V} {us : List Value} (r : Vals xs us) : ∀ ps : List Nat, Vals (ps.filterMap (xs[·]?)) (ps.filterMap (us[·]?))
  | [] => .nil
  | p :: ps => by
    cases hx : xs[p]? with
    | none =>
      have hu : us[p]? = none := by
        rw [List.getElem?_eq_none_iff] at hx ⊢
        rw [← r.length]
        exact hx
      rw [List.filterMap_cons_none hx, List.filterMap_cons_none hu]
      exact vals_pick r ps
    | some v =>
      obtain ⟨w, hw, rw'⟩ := r.get hx
      rw [List.filterMap_cons_some hx, List.filterMap_cons_some hw]
      exact .cons rw' (vals_pick r ps)
theorem rds_pick {K : PySem.W.Frag} {H : Hp} {al : List Addr} {ds : List D} {vs : List V} (r : RDs K H al ds vs) : ∀ ps : List Nat, RDs K H al (ps.filterMap (ds[·]?)) (ps.filterMap (vs[·]?))
  | [] => rfl
  | p :: ps => by
    cases hx : ds[p]? with
    | none =>
      have hu : vs[p]? = none := by
        rw [List.getElem?_eq_none_iff] at hx ⊢
        rw [RDs.length r]
        exact hx
      rw [List.filterMap_cons_none hx, List.filterMap_cons_none hu]
      exact rds_pick r ps
    | some v =>
      obtain ⟨w, hw, rw'⟩ := RDs.get r hx
      rw [List.filterMap_cons_some hx, List.filterMap_cons_some hw]
      exact ⟨w, _, rfl, rw', rds_pick r ps⟩
theorem pickG_len {α : Type} (xs : List α) (lo : Option Int) (c : Int) : (pickG xs lo c).length ≤ (sliceRange (sliceBounds lo none (some c) xs.length).1 (sliceBounds lo none (some c) xs.length).2.1 (sliceBounds lo none (some c) xs.length).2.2).length := List.length_filterMap_le ..
def tStp (K : PySem.W.Frag) (te : TE) (tl ts : TO) : TE := fun σ H Q => te σ H fun x H1 => tl σ H1 fun lo H2 => ts σ H2 fun u H3 => ∃ a xs c, x = .ref a ∧ u = some c ∧ 0 < c ∧ SqL K H3 a xs ∧ ∀ p, H3 p = none → Q (.ref p) (upd H3 p (.lst (pickG xs lo c)))
theorem pe_stp {X : Cx} {e : Expr} {te : TE} {lo : Option Expr} {tl : TO} {st : Expr} {ts : TO} {p3 pos : Pos} (he : PE X e te) (hl : PO X lo tl) (hs : PO X (some st) ts) : PE X (.Subscript e (.Slice lo none (some st) p3) pos) (tStp X.K te tl ts) := by
  refine ⟨fun pins s σ H Q I h => ?_⟩
  refine Subscript_ (thn (he.run pins s σ H _ I h) fun v s1 ⟨x, H1, I1, r1, q1⟩ => ?_)
  refine wpAny_Slice (thn (hl.run pins s1 σ H1 _ I1 q1) fun vl s2 ⟨l, H2, I2, pl, q2⟩ => ?_)
  refine thn (po_none.run pins s2 σ H2 (fun o H3 => o = none ∧ H3 = H2) I2 ⟨rfl, rfl⟩) fun vu s3 ⟨u, H3, I3, pu, eu, e3⟩ => ?_
  subst eu e3
  refine thn (hs.run pins s3 σ H3 _ I3 q2) fun vs s4 ⟨o, H4, I4, ps, a, xs, c, ex, eo, hc, hx, q⟩ => ?_
  subst eo ex
  cases r1
  have I5 : Inv X pins σ H4 { s4 with heap := s4.heap.push { cls := .type "slice", data := .fields #[vl, vu, vs] } } := I4.kept (t' := s4.toks) fun b ob q => Heap.get?_push_of_some _ q
  obtain ⟨its, r, ht, hz⟩ := I5.list hx
  have hlen := r.length
  show wpAny (model X.prog X.w) X.A (subscriptTail e (.Slice lo none (some st) p3) (.ref a) (.ref s4.heap.objs.size)) (EP X pins σ Q) X.xe { s4 with heap := s4.heap.push { cls := .type "slice", data := .fields #[vl, vu, vs] } }
  refine tail_any (ops := [.ref a, .ref s4.heap.objs.size]) ht.isList.typeIs (PySem.slot_list_getitem.lookup) ?_ (by with_unfolding_all rfl)
  refine wpAny_getItem_list_slice ht.isList (Heap.IsSliceOf.new _ vl vu vs) pl pu ps (by intro z; cases z; omega) ?_ (by rw [List.size_toArray]; omega)
  have ep : slicePick its.toArray l none (some c) = (pickG its l c).toArray := by
    unfold slicePick pickG
    rw [List.size_toArray]
    simp
  rw [ep]
  have hle : (pickG xs l c).length ≤ sizeLine := by
    have h1 := slicePick_size_le its.toArray l none (some c)
    rw [ep, List.size_toArray, List.size_toArray] at h1
    have h2 : (pickG xs l c).length = (pickG its l c).length := by
      have := (vals_pick r (sliceRange (sliceBounds l none (some c) xs.length).1 (sliceBounds l none (some c) xs.length).2.1 (sliceBounds l none (some c) xs.length).2.2)).length
      unfold pickG
      rw [this, hlen]
    omega
  have rp : Vals (pickG xs l c) (pickG its l c) := by
    have := vals_pick r (sliceRange (sliceBounds l none (some c) xs.length).1 (sliceBounds l none (some c) xs.length).2.1 (sliceBounds l none (some c) xs.length).2.2)
    unfold pickG
    rw [← hlen]
    exact this
  refine ⟨.ref _, _, I5.laid (t' := s4.toks) (o := .lst (pickG xs l c)) (fun b ob q => Heap.get?_push_of_some _ q) (Nat.le_refl _) ?_, rfl, q _ (I5.hok.fresh (Nat.le_refl _))⟩
  exact ⟨hle, _, 0, rp, Heap.get?_push_size _ rfl⟩
def kSt2 (k : KD) (d : D) (lo : Option Int) : Option Int → Sto → Prop := fun st S => match d, st with
  | .ref n, some c => 0 < c ∧ ∃ xs, isL S n xs ∧ k (.ref S.length) (S ++ [.lst (pickG xs lo c)])
  | _, _ => False
def kSt1 (ts : TOD) (sg : Sl) (k : KD) (x : XD) (d : D) : Option Int → Sto → Prop := fun lo S => ts sg S (kSt2 k d lo) x
def kSt0 (tl ts : TOD) (sg : Sl) (k : KD) (x : XD) : KD := fun d S => tl sg S (kSt1 ts sg k x d) x
def dStp (te : TED) (tl ts : TOD) : TED := fun sg S k x => te sg S (kSt0 tl ts sg k x) x
theorem q_stp {X : Cx} {E : XK} {e : Expr} {te : TED} {lo : Option Expr} {tl : TOD} {st : Expr} {ts : TOD} {p3 pos : Pos} (he : QE X E e te) (hl : QO X E lo tl) (hs : QO X E (some st) ts) : QE X E (.Subscript e (.Slice lo none (some st) p3) pos) (dStp te tl ts) :=
  pe_imp (pe_stp he hl hs) fun s H Q ⟨sg, al, S, kd, xd, rs, rl, q, up, ux⟩ => ⟨sg, al, S, kSt0 tl ts sg kd xd, xd, rs, rl, q,
    fun d1 S1 al1 H1 v1 f1 r1 q1 => ⟨sg, al1, S1, kSt1 ts sg kd xd d1, xd, f1.rs, f1.rsl rl, q1, fun l S2 al2 H2 f2 q2 =>
      ⟨sg, al2, S2, kSt2 kd d1 l, xd, f2.rs, (f1.trans f2).rsl rl, q2, fun u S3 al3 H3 f3 q3 => by
        have rd := (f2.trans f3).rd r1
        cases d1 <;> cases u <;> try exact q3.elim
        case ref.some n c =>
          obtain ⟨hc, xs, hx, q4⟩ := q3
          obtain ⟨a, vs, e1, _, h1, rr⟩ := isL_at f3.rs hx rd
          refine ⟨a, vs, c, e1, rfl, hc, h1, fun p hp => up_new (up.mono ((f1.trans f2).trans f3)) f3.rs hp ?_ q4⟩
          unfold pickG
          rw [← RDs.length rr]
          exact rds_pick rr _, ux.mono (f1.trans f2)⟩, ux.mono f1⟩, ux⟩
end Q
namespace Q
open PySem
open Spec PyProof.Rows L2

/-! ### sum of a list of truths; y in d of a dict -/
theorem preSum_bls (bs : List Bool) : ∀ n, n ≤ bs.length → preSum (fun i => if bs.getD i false then 1 else 0) n = ((bs.take n).countP id : Nat)
  | 0, _ => by simp [preSum]
  | n + 1, h => by
    have hn : n < bs.length := h
    rw [preSum, preSum_bls bs n (by omega), List.take_add_one, List.countP_append, List.getElem?_eq_getElem hn, List.getD_eq_getElem?_getD, List.getElem?_eq_getElem hn]
    cases bs[n] <;> simp
theorem cr_sumB {X : Cx} (hc : X.calm = true) : CallR X (.builtin "sum") (fun vs H Q => ∃ (a : Addr) (bs : List Bool), vs = [V.ref a] ∧ SqL X.K H a (bs.map V.bl) ∧ Q (.int (bs.countP id : Nat)) H) := by
  intro pins s σ H vs us Q I r h
  obtain ⟨a, bs, rfl, hs, q⟩ := h
  obtain ⟨its, rv, hl, _⟩ := I.list hs
  rw [Vals.ref1 r]
  have hb := rv.bls
  refine call_sum_walkAnyB (iter_any hl.isList fun s₂ e2 st hne => ?_)
  subst e2
  have hlt : a < s.heap.objs.size := by obtain ⟨_, e, _⟩ := hl.isList; exact Heap.lt_size e
  refine ⟨_, _, _, _, _, _, _, fun i => if bs.getD i false then 1 else 0, rfl, (Walks.list (A := X.A.in1) (I.ok.hd hc) _ a hne its.toArray).toS, st, fun b hbm => ?_, fun i v hv => ?_, fun s' t' hm => ?_⟩
  · show b < (s.heap.push _).objs.size
    rw [Heap.size_push]
    rcases List.mem_cons.mp hbm with rfl | hbm
    · exact Nat.lt_succ_self _
    · rcases List.mem_cons.mp hbm with rfl | hbm
      · exact Nat.lt_succ_of_lt hlt
      · cases hbm
  · have hv' : its[i]? = some v := by simpa using hv
    rw [hb, List.getElem?_map] at hv'
    obtain ⟨b, hb2, rfl⟩ := Option.map_eq_some_iff.mp hv'
    have hg : bs.getD i false = b := by rw [List.getD_eq_getElem?_getD, hb2] <;> rfl
    exact .inr ⟨b, rfl, by show (if bs.getD i false = true then (1 : Int) else 0) = _; rw [hg]⟩
  · have hsz : its.toArray.size = bs.length := by rw [List.size_toArray, hb, List.length_map]
    rw [hsz, preSum_bls bs _ (Nat.le_refl _), List.take_length]
    obtain ⟨h1, h2, h3, h4, h5⟩ := hm
    obtain ⟨hp, tk, gs, dr, os⟩ := s'
    try simp only at h1 h2 h3 h4 h5
    subst h2 h3 h4
    refine ⟨.int _, H, I.kept fun b o eo => h1 b o (fun hmem => ?_) (Heap.get?_push_of_some _ eo), ⟨_, rfl⟩, q⟩
    rcases List.mem_cons.mp hmem with e1 | hmem
    · exact absurd (e1 ▸ Heap.lt_size eo) (Nat.lt_irrefl _)
    · cases hmem
def spSumB : SpD := fun ds S k _ => match ds with
  | [.ref n] => ∃ bs : List Bool, isL S n (bs.map D.bl) ∧ k (.int (bs.countP id : Nat)) S
  | _ => False
def rDin : R2D := fun d e S k _ => match e with
  | .ref n => ∃ kvs key, S[n]? = some (.dic kvs) ∧ d = keyD key ∧ k (.bl (valD kvs key).isSome) S
  | _ => False
section
variable {X : Cx} {E : XK}
theorem c_sumB (hc : X.calm = true) : CallR X (.builtin "sum") (LLs (cy X E) spSumB) := by
  intro pins s σ H xs us Q I r ⟨ds, al, S, kd, xd, rs, rd, q, up, ux⟩
  unfold spSumB at q
  split at q
  · obtain ⟨bs, hl, q⟩ := q
    obtain ⟨v, e, rv⟩ := rds1 rd
    obtain ⟨a, vs, e2, _, h1, r1⟩ := isL_at rs hl rv
    have e3 := rd_bls r1
    subst e e2 e3
    exact cr_sumB hc pins s σ H _ us Q I r ⟨a, bs, rfl, h1, up_at up rs (d := .int _) rfl q⟩
  · exact q.elim
theorem o_dIn (hu : X.A.units + 64 < cLine) : OpR X (compareOp .In) (LL2 (cy X E) rDin) := by
  intro pins s σ H x y v u Q I rx ry ⟨d, e, al, S, kd, xd, rs, rd, re, q, up, ux⟩
  unfold rDin at q
  split at q
  · obtain ⟨kvs, key, h1, e2, q⟩ := q
    subst e2
    obtain ⟨a, vs, ea, _, eH, rk⟩ := dic_at rs h1 re
    subst ea
    rw [key_rd rd] at rx
    cases ry
    have rv := rks_val (k := key) rk
    refine d_in (o := valV vs key) (Nat.lt_of_le_of_lt (Nat.add_le_add_left (by decide) _) hu) I (DGet.k eH) rx fun s' I' => ⟨.bl (valV vs key).isSome, H, I', rfl, ?_⟩
    have e3 : (valV vs key).isSome = (valD kvs key).isSome := by
      cases hv : valD kvs key with
      | none => rw [rv.2 hv]; rfl
      | some d =>
        obtain ⟨w, hw, _⟩ := rv.1 d hv
        rw [hw]
        rfl
    rw [e3]
    exact up_at up rs (d := .bl _) rfl q
  · exact q.elim
end
end Q
namespace Q
open PySem
open Spec PyProof.Rows L2

/-! ### bit_length; y not in d; sorted and min of lists of data -/
def kBits (k : KD) : KD := fun d S => match d with
  | .int i => k (.int (Builtin.Int.intBits i : Nat)) S
  | _ => False
def dBits (te : TED) : TED := fun sg S k x => te sg S (kBits k) x
theorem q_bits {X : Cx} {E : XK} {o : Expr} {to : TED} {apos pos : Pos} (ho : QE X E o to) (hbase : attributeBase o "bit_length" X.env (eval o X.env) = eval o X.env := by rfl) (hline : (apos.endLine == pos.line) = true := by rfl) : QE X E (.Call (.Attribute o "bit_length" apos) [] [] pos) (dBits to) :=
  pe_imp (pe_bits ho hbase hline) fun s H Q ⟨sg, al, S, kd, xd, rs, rl, q, up, ux⟩ => ⟨sg, al, S, kBits kd, xd, rs, rl, q, fun d S1 al1 H1 v f1 r1 q1 => by
    unfold kBits at q1
    split at q1
    · rename_i i
      exact ⟨i, r1, up (.int _) S1 al1 H1 _ f1 rfl q1⟩
    · exact q1.elim, ux⟩
def rDnin : R2D := fun d e S k _ => match e with
  | .ref n => ∃ kvs key, S[n]? = some (.dic kvs) ∧ d = keyD key ∧ k (.bl (!(valD kvs key).isSome)) S
  | _ => False
section
variable {X : Cx} {E : XK}
theorem o_dNin (hu : X.A.units + 64 < cLine) : OpR X (compareOp .NotIn) (LL2 (cy X E) rDnin) := by
  intro pins s σ H x y v u Q I rx ry ⟨d, e, al, S, kd, xd, rs, rd, re, q, up, ux⟩
  unfold rDnin at q
  split at q
  · obtain ⟨kvs, key, h1, e2, q⟩ := q
    subst e2
    obtain ⟨a, vs, ea, _, eH, rk⟩ := dic_at rs h1 re
    subst ea
    rw [key_rd rd] at rx
    cases ry
    have rv := rks_val (k := key) rk
    refine d_notIn (o := valV vs key) (Nat.lt_of_le_of_lt (Nat.add_le_add_left (by decide) _) hu) I (DGet.k eH) rx fun s' I' => ⟨.bl (!(valV vs key).isSome), H, I', rfl, ?_⟩
    have e3 : (valV vs key).isSome = (valD kvs key).isSome := by
      cases hv : valD kvs key with
      | none => rw [rv.2 hv]; rfl
      | some d =>
        obtain ⟨w, hw, _⟩ := rv.1 d hv
        rw [hw]
        rfl
    rw [e3]
    exact up_at up rs (d := .bl _) rfl q
  · exact q.elim
theorem each_vals {xs : List V} {us : List Value} (r : Vals xs us) : ∀ {ps : List PyData}, ps.length = xs.length → PySem.W.EachIs (fun (u : Value) (b : V × PyData) => RelV b.1 u) us (xs.zip ps) := by
  induction r with
  | nil => intro ps _; exact .nil
  | cons h t ih =>
    intro ps hl
    cases ps with
    | nil => cases hl
    | cons p ps => exact .cons h (ih (by simpa using hl))
theorem each_zip {h : Heap} {xs : List V} : ∀ {us : List Value} {ps : List PyData} {as : List Addr}, ReadsAll h us ps as → xs.length = ps.length → PySem.W.EachIs (fun (u : Value) (b : V × PyData) => ∃ as, Reads h u b.2 as) us (xs.zip ps) := by
  induction xs with
  | nil =>
    intro us ps as r hl
    cases ps with
    | cons p ps => cases hl
    | nil => cases r; exact .nil
  | cons x xs ih =>
    intro us ps as r hl
    cases ps with
    | nil => cases hl
    | cons p ps =>
      cases r with
      | cons h1 h2 => exact .cons ⟨_, h1⟩ (ih h2 (by simpa using hl))
theorem vals_each {bs : List (V × PyData)} : ∀ {us : List Value}, PySem.W.EachIs (fun (u : Value) (b : V × PyData) => RelV b.1 u) us bs → Vals (bs.map (·.1)) us
  | _, .nil => .nil
  | _, .cons h t => .cons h (vals_each t)
theorem dpall_len {K : PySem.W.Frag} {H : Hp} : ∀ {xs : List V} {ps : List PyData}, DpAll K H xs ps → ps.length = xs.length
  | _, _, .nil => rfl
  | _, _, .cons _ t => by rw [List.length_cons, List.length_cons, dpall_len t]
theorem cr_sortedG (hu : X.A.units + 64 < cLine) : CallR X (.builtin "sorted") (fun vs H Q => ∃ (a : Addr) (xs : List V) (ps : List PyData), vs = [V.ref a] ∧ SqL X.K H a xs ∧ DpAll X.K H xs ps ∧ PySem.W.AllAlike ps ∧ PySem.W.Sortable ps ∧ (∀ p ∈ ps, p.depth ≤ 60) ∧
    ∀ p : Addr, H p = none → Q (.ref p) (upd H p (.lst (((xs.zip ps).mergeSort (PySem.W.dataLe false (·.2))).map (·.1))))) := by
  intro pins s σ H vs us Q I r h
  obtain ⟨a, xs, ps, rfl, hs, hp, hal, hso, hdp, q⟩ := h
  obtain ⟨its, rv, hl, hz⟩ := I.list hs
  rw [Vals.ref1 r]
  have hlen := dpall_len hp
  obtain ⟨as, hr⟩ := Dp.readsAll I ps xs its hp rv
  have hmap : (xs.zip ps).map (·.2) = ps := List.map_snd_zip (by omega)
  have hbl : (xs.zip ps).length = xs.length := by rw [List.length_zip, hlen, Nat.min_self]
  refine PySem.W.sorted_data (enc := fun b : V × PyData => b.2) (bs := xs.zip ps) (R := fun (u : Value) (b : V × PyData) => RelV b.1 u) hl.isList (each_vals rv hlen) (each_zip hr hlen.symm) (by rw [hmap]; exact hal) (by rw [hmap]; exact hso) (by rw [hbl]; exact hz) (fun b hb => ?_) fun out ho eo => ?_
  · have := hdp b.2 (by rw [← hmap]; exact List.mem_map.mpr ⟨b, hb, rfl⟩)
    omega
  · obtain ⟨ep, he'⟩ := PyProof.Rows.sortedAll_at s.heap its out.toArray
    refine ⟨.ref _, upd H (s.heap.objs.size + 1) (.lst _), I.laid (t' := s.toks) (fun _ _ => PyProof.Rows.sortedAll_old) (Nat.le_succ _) ⟨?_, out, ep, vals_each eo, he'⟩, rfl, q _ (I.hok.fresh (Nat.le_succ _))⟩
    rw [List.length_map, List.length_mergeSort, hbl]
    exact hz
theorem reads_at {h : Heap} : ∀ {vs : List Value} {ds : List PyData} {as : List Addr}, ReadsAll h vs ds as → ∀ {i : Nat} {v : Value}, vs[i]? = some v → ∃ d as', ds[i]? = some d ∧ Reads h v d as'
  | _, _, _, .nil, i, v, e => by simp at e
  | _, _, _, .cons r t, 0, v, e => by
    cases e
    exact ⟨_, _, rfl, r⟩
  | _, _, _, .cons r t, i + 1, v, e => reads_at t (i := i) e
theorem cr_minG (hc : X.calm = true) (hu : X.A.units + 64 < cLine) : CallR X (.builtin "min") (fun vs H Q => ∃ (a : Addr) (xs : List V) (p0 : PyData) (ps : List PyData), vs = [V.ref a] ∧ SqL X.K H a xs ∧ DpAll X.K H xs (p0 :: ps) ∧ PySem.W.AlikeAll (p0 :: ps) ∧ PyData.depthAll (p0 :: ps) ≤ 60 ∧
    ∀ (i : Nat) (v : V), xs[i]? = some v → (p0 :: ps)[i]? = some (PySem.W.minD p0 ps) → Q v H) := by
  intro pins s σ H vs us Q I r h
  obtain ⟨a, xs, p0, ps, rfl, hs, hp, hal, hdp, q⟩ := h
  obtain ⟨its, rv, hl, hz⟩ := I.list hs
  rw [Vals.ref1 r]
  obtain ⟨as, hr⟩ := Dp.readsAll I (p0 :: ps) xs its hp rv
  refine PySem.W.min_list_data (I.ok.hd hc) hl.isList hr hal (by omega) fun i v h' tk bs hv hm hk => ?_
  have hv' : its[i]? = some v := by simpa using hv
  have hi : i < xs.length := by
    rw [rv.length]
    exact (List.getElem?_eq_some_iff.mp hv').1
  obtain ⟨w, hw, rw'⟩ := rv.get (List.getElem?_eq_getElem hi)
  rw [hv'] at hw
  cases hw
  obtain ⟨d, as', hd, hrd⟩ := reads_at hr hv'
  have hdm := (PyProof.Rows.reads_det (fun b o e _ => hk b o e) hrd hm).1
  exact ⟨xs[i], H, I.kept hk, rw', q i _ (List.getElem?_eq_getElem hi) (by rw [hd, hdm])⟩
def spSortD : SpD := fun ds S k _ => match ds with
  | [.ref n] => ∃ xs ps, isL S n xs ∧ DPys S xs ps ∧ PySem.W.AllAlike ps ∧ PySem.W.Sortable ps ∧ (∀ p ∈ ps, p.depth ≤ 60) ∧ k (.ref S.length) (S ++ [.lst (((xs.zip ps).mergeSort (PySem.W.dataLe false (·.2))).map (·.1))])
  | _ => False
def spMinD : SpD := fun ds S k _ => match ds with
  | [.ref n] => ∃ xs p0 ps, isL S n xs ∧ DPys S xs (p0 :: ps) ∧ PySem.W.AlikeAll (p0 :: ps) ∧ PyData.depthAll (p0 :: ps) ≤ 60 ∧ ∀ (i : Nat) (d : D), xs[i]? = some d → (p0 :: ps)[i]? = some (PySem.W.minD p0 ps) → k d S
  | _ => False
theorem rds_len {K : PySem.W.Frag} {H : Hp} {al : List Addr} : ∀ {ds : List D} {vs : List V}, RDs K H al ds vs → ∀ ps : List PyData, ps.length = ds.length →
    ∃ T : List (D × V × PyData), T.map (fun t => (t.1, t.2.2)) = ds.zip ps ∧ T.map (fun t => (t.2.1, t.2.2)) = vs.zip ps ∧ ∀ t ∈ T, RD K H al t.1 t.2.1
  | [], _, h, ps, _ => by
    rw [show _ = [] from h]
    exact ⟨[], by simp, by simp, fun _ h => (nomatch h)⟩
  | d :: ds, _, ⟨v, r, e, h1, h2⟩, ps, hl => by
    subst e
    cases ps with
    | nil => cases hl
    | cons p ps =>
      obtain ⟨T, t1, t2, t3⟩ := rds_len h2 ps (by simpa using hl)
      refine ⟨(d, v, p) :: T, by rw [List.map_cons, t1]; rfl, by rw [List.map_cons, t2]; rfl, fun t ht => ?_⟩
      rcases List.mem_cons.mp ht with rfl | ht
      · exact h1
      · exact t3 t ht
theorem rds_trip {K : PySem.W.Frag} {H : Hp} {al : List Addr} : ∀ T : List (D × V × PyData), (∀ t ∈ T, RD K H al t.1 t.2.1) → RDs K H al (T.map (·.1)) (T.map (·.2.1))
  | [], _ => rfl
  | t :: T, h => ⟨t.2.1, _, rfl, h t List.mem_cons_self, rds_trip T fun u hu => h u (List.mem_cons_of_mem _ hu)⟩
theorem dpys_len {S : Sto} : ∀ {xs : List D} {ps : List PyData}, DPys S xs ps → ps.length = xs.length
  | _, _, .nil => rfl
  | _, _, .cons _ t => by rw [List.length_cons, List.length_cons, dpys_len t]
theorem c_sortedG (hu : X.A.units + 64 < cLine) : CallR X (.builtin "sorted") (LLs (cy X E) spSortD) := by
  intro pins s σ H xs us Q I r ⟨ds, al, S, kd, xd, rs, rd, q, up, ux⟩
  unfold spSortD at q
  split at q
  · obtain ⟨bs, ps, hl, hp, hal, hso, hdp, q⟩ := q
    obtain ⟨v, e, rv⟩ := rds1 rd
    obtain ⟨a, vs, e2, _, h1, r1⟩ := isL_at rs hl rv
    subst e e2
    obtain ⟨T, t1, t2, t3⟩ := rds_len r1 ps (dpys_len hp)
    refine cr_sortedG hu pins s σ H _ us Q I r ⟨a, vs, ps, rfl, h1, DPys.dp rs ps bs vs hp r1, hal, hso, hdp, fun p hn => ?_⟩
    have e1 : ((bs.zip ps).mergeSort (PySem.W.dataLe false (·.2))).map (·.1) = (T.mergeSort (PySem.W.dataLe false fun t : D × V × PyData => t.2.2)).map (·.1) := by
      rw [← t1, ← List.map_mergeSort (r := PySem.W.dataLe false fun t : D × V × PyData => t.2.2) (f := fun t : D × V × PyData => (t.1, t.2.2)) (fun a _ b _ => rfl), List.map_map]
      rfl
    have e2 : ((vs.zip ps).mergeSort (PySem.W.dataLe false (·.2))).map (·.1) = (T.mergeSort (PySem.W.dataLe false fun t : D × V × PyData => t.2.2)).map (·.2.1) := by
      rw [← t2, ← List.map_mergeSort (r := PySem.W.dataLe false fun t : D × V × PyData => t.2.2) (f := fun t : D × V × PyData => (t.2.1, t.2.2)) (fun a _ b _ => rfl), List.map_map]
      rfl
    rw [e1] at q
    rw [e2]
    exact up_new up rs hn (rds_trip _ fun t ht => t3 t (List.mem_mergeSort.mp ht)) q
  · exact q.elim
theorem c_minG (hc : X.calm = true) (hu : X.A.units + 64 < cLine) : CallR X (.builtin "min") (LLs (cy X E) spMinD) := by
  intro pins s σ H xs us Q I r ⟨ds, al, S, kd, xd, rs, rd, q, up, ux⟩
  unfold spMinD at q
  split at q
  · obtain ⟨bs, p0, ps, hl, hp, hal, hdp, q⟩ := q
    obtain ⟨v, e, rv⟩ := rds1 rd
    obtain ⟨a, vs, e2, _, h1, r1⟩ := isL_at rs hl rv
    subst e e2
    refine cr_minG hc hu pins s σ H _ us Q I r ⟨a, vs, p0, ps, rfl, h1, DPys.dp rs (p0 :: ps) bs vs hp r1, hal, hdp, fun i w hw hm => ?_⟩
    have hi : i < bs.length := by
      have h3 := RDs.length r1
      have h4 := (List.getElem?_eq_some_iff.mp hw).1
      omega
    obtain ⟨w2, hw2, rw'⟩ := RDs.get r1 (List.getElem?_eq_getElem hi)
    rw [hw] at hw2
    cases hw2
    exact up_at up rs rw' (q i _ (List.getElem?_eq_getElem hi) hm)
  · exact q.elim
theorem rks_len2 {K : PySem.W.Frag} {H : Hp} {al : List Addr} : ∀ {ds : List (Key × D)} {vs : List (Key × V)}, RKs K H al ds vs → vs.length = ds.length
  | [], _, h => by
    rw [show _ = [] from h]
    rfl
  | p :: ds, _, ⟨w, r, e, h1, h2⟩ => by
    subst e
    rw [List.length_cons, List.length_cons, rks_len2 h2]
def spLenD : SpD := fun ds S k _ => match ds with
  | [.ref n] => ∃ kvs, S[n]? = some (.dic kvs) ∧ k (.int kvs.length) S
  | _ => False
theorem c_lenD : CallR X (.builtin "len") (LLs (cy X E) spLenD) := by
  intro pins s σ H xs us Q I r ⟨ds, al, S, kd, xd, rs, rd, q, up, ux⟩
  unfold spLenD at q
  split at q
  · obtain ⟨kvs, hk, q⟩ := q
    obtain ⟨v, e, rv⟩ := rds1 rd
    obtain ⟨a, vs, e2, _, eH, rk⟩ := dic_at rs hk rv
    subst e e2
    rw [Vals.ref1 r]
    refine d_len I (.inl eH) fun t s' I' => ⟨.int _, H, I', ⟨t, rfl⟩, ?_⟩
    rw [rks_len2 rk]
    exact up_at up rs (d := .int _) rfl q
  · exact q.elim
end
end Q
namespace Q
open PySem
open Spec PyProof.Rows L2

/-! ### a tuple some times over -/
theorem tuple_mulOne (l : Addr) (items : Array Value) (n : Nat) (dd : Option Addr) (sl : Array (Option Value)) (u : Tok) :
    Meets (Builtin.«tuple.__mul__» ⟨[.ref l, .int 1 u], []⟩) (fun _ R s => s.heap.get? l = some { cls := .type "tuple", dict := dd, data := .seq items n, slots := sl } ∧ R (.ok (.ret (Value.ref l))) s) :=
  .of_wp fun prog w A R s h => by
    obtain ⟨hp, g, d, tk, os⟩ := s
    obtain ⟨hl, h⟩ := h
    have f1 := AutoSeq1.idx_int
    have c0 : (decide ((1 : Int) < -(2 ^ 63)) || decide ((1 : Int) ≥ 2 ^ 63)) = false := by decide
    have c1 : (items.isEmpty || (1 : Int) == 1) = true := by cases items.isEmpty <;> rfl
    wp_walk using wpAny_loadPart' hl
    repeat (first
      | (refine wpAny_ite_false (decide_eq_false (by rw [c0]; exact Bool.false_ne_true)) ?_; wp_walk using wpAny_loadPart' hl)
      | (refine wpAny_ite_true (decide_eq_true (by rw [c1])) ?_; wp_walk using wpAny_loadPart' hl))
    exact ⟨_, rfl, h⟩
section
variable {X : Cx} {E : XK}
theorem op_repT1 : OpR X (binaryOp .Mult) (fun x y H Q => ∃ l xs, x = .ref l ∧ y = .int 1 ∧ SqT X.K H l xs ∧ Q (.ref l) H) := by
  intro pins s σ H x y v u Q I rx ry h
  obtain ⟨l, xs, rfl, rfl, hT, q⟩ := h
  cases rx
  obtain ⟨t, rfl⟩ := ry
  obtain ⟨its, r, ⟨⟨cls, dd, data, sl⟩, ho, hc, n, hd⟩, hs⟩ := I.tuple hT
  simp only at hc hd
  subst hc hd
  refine wpAny_binaryOp_repeat_ref (T := "tuple") (U := "int") (by decide) ⟨_, ho, rfl⟩ (fun s' => typeIs_int s' 1 t) noFill_tuple_mul F.fills_int_mul F.slot_int_rmul repeat_tuple F.slot_int_index.lookup
    (call_meets F.slot_int_rmul (typeIs_int s 1 t) F.entry_int_rmul (F.args_int_rmul_2 _ _) (int_rmul_tuple 1 t l its.toArray n dd sl)
      ⟨ho, rfl, ⟨_, ho, rfl⟩, call_meets F.slot_tuple_mul ⟨_, ho, rfl⟩ F.entry_tuple_mul (F.args_tuple_mul_2 _ _) (tuple_mulOne l its.toArray n dd sl t) ⟨ho, ?_⟩⟩)
  exact ⟨.ref l, H, I, rfl, q⟩
def rMulT : R2D := fun d e S k _ => match d, e with
  | .tup xs, .int j => xs ≠ [] ∧ 1 ≤ j ∧ j ≤ 1000 ∧ xs.length ≤ 1000 ∧ k (.tup (List.replicate j.toNat xs).flatten) S
  | _, _ => False
theorem rds_ne {K : PySem.W.Frag} {H : Hp} {al : List Addr} {ds : List D} {vs : List V} (h : RDs K H al ds vs) (hn : ds ≠ []) : vs ≠ [] := fun e => by
  have := RDs.length h
  rw [e] at this
  cases ds with
  | nil => exact hn rfl
  | cons a b => cases this
theorem o_mulT : OpR X (binaryOp .Mult) (LL2 (cy X E) rMulT) := by
  intro pins s σ H x y v u Q I rx ry ⟨d, e, al, S, kd, xd, rs, rd, re, q, up, ux⟩
  unfold rMulT at q
  split at q
  · next xs j =>
    obtain ⟨hne, h1, h2, hl, q⟩ := q
    have re : y = .int j := re
    obtain ⟨a, vs, ex, h3, r1⟩ := rd
    by_cases hj : j = 1
    · subst hj
      subst re
      refine op_repT1 pins s σ H x _ v u Q I rx ry ⟨a, vs, ex, rfl, h3, ?_⟩
      subst ex
      refine up_at up rs (d := .tup xs) ⟨a, vs, rfl, h3, r1⟩ ?_
      simpa using q
    · refine op_repT pins s σ H x y v u Q I rx ry ⟨a, j, vs, ex, re, h3, rds_ne r1 hne, by omega, h2, by rw [RDs.length r1]; exact hl, fun p hp => up_tup up rs hp (rds_rep r1 _) q⟩
  · exact q.elim
end
end Q
namespace Q
open PySem
open Spec PyProof.Rows L2

/-! ### a value among those of a list, of any depth -/
def rInP : R2D := fun d e S k _ => match e with
  | .ref n => ∃ p xs ps, isL S n xs ∧ DPy S d p ∧ DPys S xs ps ∧ SeqAt.shaped p = true ∧ SeqAt.shaped (.list ps) = true ∧ p.depth ≤ 60 ∧ k (.bl (ps.any fun z => PyData.eqv z p)) S
  | _ => False
section
variable {X : Cx} {E : XK}
theorem o_inP (hu : X.A.units + 64 < cLine) : OpR X (compareOp .In) (LL2 (cy X E) rInP) := by
  intro pins s σ H x y v u Q I rx ry ⟨d, e, al, S, kd, xd, rs, rd, re, q, up, ux⟩
  unfold rInP at q
  split at q
  · next n =>
    obtain ⟨p, xs, ps, hl, hp, hps, s1, s2, hdp, q⟩ := q
    obtain ⟨a, vs, e2, _, h1, r1⟩ := isL_at rs hl re
    subst e2
    obtain ⟨as, r1'⟩ := Dp.reads I p x v (DPy.dp rs p d x hp rd) rx
    obtain ⟨bs, r2'⟩ := Dp.reads I (.list ps) (.ref a) u (.lst h1 (DPys.dp rs ps xs vs hps r1)) ry
    refine SeqAt.in_list_reads r2' r1' (SeqAt.canLay_of_shaped s2) (SeqAt.canLay_of_shaped s1) ?_ ⟨.bl _, H, I, rfl, up_at up rs (d := .bl _) rfl q⟩
    have := Nat.min_le_right (PyData.depthAll ps) p.depth
    omega
  · exact q.elim
end
end Q
namespace Q
open PySem
open Spec PyProof.Rows L2

/-! ### a list unpacked -/
def gUl (n : Nat) (u : TGDs) : TGD := fun d sg S q x => match d with
  | .ref m => ∃ ds, isL S m ds ∧ ds.length = n ∧ u ds sg S q x
  | _ => False
section
variable {X : Cx} {E : XK} {es : List Expr} {gs : TGDs} {pos : Pos}
theorem q_gulP {k n : Nat} (hc : X.calm = true) (h : QGsp X E es gs) (hn : (assignEach es X.env).length = n := by rfl) (hst : (assignEach es X.env).findIdx? (·.1) = none := by rfl) : QGp X E (.Tuple es k pos) (gUl n gs) :=
  pg_imp (pg_unl hc h hn hst) fun v s H Q ⟨d, sg, al, S, qd, xd, rs, rl, rd, q, up, ux⟩ => by
    unfold gUl at q
    split at q
    · obtain ⟨ds, hl, hlen, q⟩ := q
      obtain ⟨a, vs, e, _, h1, r1⟩ := isL_at rs hl rd
      exact ⟨a, vs, e, h1, by rw [RDs.length r1]; exact hlen, ds, sg, al, S, qd, xd, rs, rl, r1, q, up, ux⟩
    · exact q.elim
end
end Q
namespace Q
open PySem
open Spec PyProof.Rows L2

/-! ### exceptions: what the head says of their classes -/
theorem oexB_ok {K : PySem.W.Frag} {C : Addr} (q : oexB K C = true) : ∃ nm qn N bs bm sn sub ab col dd k0 k1 k2 k3 k5, K.lookup C = some (excClassObj nm qn C N bs bm true sn sub ab col dd k0 k1 k2 k3 k5 "ValueError.__new__") ∧ PySem.HandSPX.refsVE bm = true := by
  unfold oexB at q
  split at q
  · rename_i dd cd sl ho
    split at q
    · rename_i C1 bm j0 j1 j2 j3 n j5 hm hs
      obtain ⟨q1, q⟩ := Bool.and_eq_true_iff.mp q
      obtain ⟨q2, q⟩ := Bool.and_eq_true_iff.mp q
      obtain ⟨q3, q⟩ := Bool.and_eq_true_iff.mp q
      obtain ⟨q4, q5⟩ := Bool.and_eq_true_iff.mp q
      have q1 := eq_of_beq q1
      have q2 := eq_of_beq q2
      subst q1 q2
      obtain ⟨nm, bs, mro, ns, qn, hd, sn, sub, ab, col, del⟩ := cd
      dsimp only at hm q3 q4
      have q3 : del = false := by simpa using q3
      subst hm q3 q4
      have hl : sl = #[j0, j1, j2, j3, some (.builtin "ValueError.__new__"), j5] := by
        obtain ⟨l⟩ := sl
        simp only at hs
        rw [hs]
      subst hl
      exact ⟨nm, qn, ns, bs, bm, sn, sub, ab, col, dd, j0, j1, j2, j3, j5, ho, q5⟩
    · cases q
  · cases q
structure ExC (K : PySem.W.Frag) (x : Str) : Prop where
  oex : OexC K (He.ga K x)
  xf : XfC K (He.ga K x)
  val : PySem.W.findIn K (.ref (He.ga K x)) "value" = some none
  ini : PySem.W.findIn K (.ref (He.ga K x)) "__init__" = some (some (.ref (initA K)))
  tyI : PySem.W.typeIn K (.ref (initA K)) = some (.type "function")
  ns : PySem.W.nsIn K mainGlobals x = some (some (.ref (He.ga K x)))
  sub : ∀ y ∈ exNs, ∀ C, PySem.W.nsIn K mainGlobals y = some (some (.ref C)) → PySem.W.exmOne K (.ref (He.ga K x)) (.ref C) = some (exSub x y)
theorem exB_ok {K : PySem.W.Frag} {x : Str} (q : exB K x = true) : ExC K x := by
  unfold exB at q
  obtain ⟨q1, q⟩ := Bool.and_eq_true_iff.mp q
  obtain ⟨q2, q⟩ := Bool.and_eq_true_iff.mp q
  obtain ⟨q3, q⟩ := Bool.and_eq_true_iff.mp q
  obtain ⟨q4, q⟩ := Bool.and_eq_true_iff.mp q
  obtain ⟨q5, q⟩ := Bool.and_eq_true_iff.mp q
  obtain ⟨q6, q⟩ := Bool.and_eq_true_iff.mp q
  obtain ⟨q7, q⟩ := Bool.and_eq_true_iff.mp q
  obtain ⟨q8, q⟩ := Bool.and_eq_true_iff.mp q
  obtain ⟨q9, q⟩ := Bool.and_eq_true_iff.mp q
  obtain ⟨q10, q⟩ := Bool.and_eq_true_iff.mp q
  refine ⟨⟨oexB_ok q1, of_decide_eq_true q2, of_decide_eq_true q3, of_decide_eq_true q4, q5⟩, xfB_ok q6, of_decide_eq_true q7, of_decide_eq_true q8, of_decide_eq_true q9, He.eqO_ok q10, fun y hy C hC => ?_⟩
  have h := List.all_eq_true.mp q y hy
  rw [hC] at h
  exact of_decide_eq_true h
/-! ### an exception at rest is told -/
section
variable {X : Cx} {pins : List (Addr × Obj)} {σ : L2.St} {H : Hp} {s : Shared}
theorem inv_track {a : Addr} {oe : Obj} {vs : Array Value} {o : HO} (I : Inv X pins σ H s) (ha : s.heap.get? a = some oe) (hd : oe.data = .fields vs) (na : H a = none) (n0 : X.s_0.heap.get? a = none) (nL : a ≠ X.env.locals)
    (nP : ∀ p ∈ X.pn ++ pins, p.1 ≠ a) (ho : ObjOk X.prog X.w (upd H a o) s.heap a o) : Inv X pins σ (upd H a o) s := by
  have nC : ∀ x c, X.env.cells.lookup x = some c → c ≠ a := fun x c e z => by
    obtain ⟨v, o2, e1, e2⟩ := I.cell x c e
    rw [z, ha] at e1
    cases e1
    rw [hd] at e2
    cases e2
  refine ⟨I.ok, I.os, I.bare, ⟨I.base.keep, I.base.slot, fun b u e n hx => ?_, I.base.there, fun b xs e => ?_, fun b u z e => ?_, fun b ps e => ?_⟩, I.loc, I.cell, ?_, fun x c e => ?_, fun p hp => ?_, fun b u e => ?_, I.len⟩
  · rw [upd_ne (fun z => by rw [z, n0] at e; cases e)]
    exact I.base.free b u e n hx
  · have e2 := I.base.tups b xs e
    rw [upd_ne (ne_of_none e2 na)]
    exact e2
  · have e2 := I.base.frzs b u z e
    rw [upd_ne (ne_of_none e2 na)]
    exact e2
  · obtain ⟨more, e2⟩ := I.base.tbls b ps e
    exact ⟨more, by rw [upd_ne (ne_of_none e2 na)]; exact e2⟩
  · rw [upd_ne nL.symm]
    exact I.free
  · rw [upd_ne (nC x c e)]
    exact I.freeC x c e
  · obtain ⟨p1, p2, p3⟩ := I.pin p hp
    exact ⟨p1, by rw [upd_ne (nP p hp)]; exact p2, p3⟩
  · by_cases hb : b = a
    · subst hb
      rw [upd_same] at e
      cases e
      exact ho
    · rw [upd_ne hb] at e
      exact (I.hok b u e).stay (fun c w hc q => q) (fun c hc => by rw [upd_ne (ne_of_none hc na)]; exact hc) fun c xs hc => by rw [upd_ne (ne_of_none hc na)]; exact hc
theorem exV_ok {P : Program} {w : World} {G : Hp} {h : Heap} {a : Addr} {cls : Value} {d : Option Addr} {oe : Obj} {vs : Array Value} (e : h.get? a = some oe) (z : Zc cls d oe) (hd : oe.data = .fields vs) : ObjOk P w G h a (ExV cls d a) :=
  ⟨⟨oe, vs, e, z, hd⟩, ⟨oe, e⟩, fun _ _ ⟨o, v, q, r⟩ k => ⟨o, v, k o q, r⟩⟩
/-- the context of a clause's suite, the exception told -/
abbrev suiteX (X : Cx) (a : Addr) (pn : List (Addr × Obj)) : Cx := X.suite a pn
theorem inv_in {a : Addr} (I : Inv X pins σ H s) : Inv (suiteX X a (X.pn ++ pins)) [] σ H s :=
  ⟨I.ok.suite _ _, I.os, I.bare, I.base, I.loc, I.cell, I.free, I.freeC, fun p hp => I.pin p (by rw [List.append_nil] at hp; exact hp), I.hok, I.len⟩
theorem inv_out {a : Addr} {more : List (Addr × Obj)} (I : Inv (suiteX X a (X.pn ++ pins)) more σ H s) (ok : X.Ok) : Inv X pins σ H s :=
  ⟨ok, I.os, I.bare, I.base, I.loc, I.cell, I.free, I.freeC, fun p hp => I.pin p (List.mem_append_left _ hp), I.hok, I.len⟩
end
/-! ### try with several clauses, with or without names -/
/-- a clause: the class, the slot of its name, its suite -/
structure HdT where
  c : Value
  i : Option Nat
  ts : Addr → Value → Option Addr → TS
def clr (i : Option Nat) (σ : L2.St) : L2.St := match i with
  | some j => σ.set j none
  | none => σ
def put (i : Option Nat) (a : Addr) (σ : L2.St) : L2.St := match i with
  | some j => σ.set j (some (.ref a))
  | none => σ
def clrE (i : Option Nat) (D : Ends) : Ends := { nx := fun σ H => D.nx (clr i σ) H, rt := D.rt, bk := fun σ H => D.bk (clr i σ) H, ct := fun σ H => D.ct (clr i σ) H }
def wHd (K : PySem.W.Frag) (Wout : WX) (D : Ends) : List HdT → WX
  | [] => Wout
  | h :: r => fun cls d σ H => ∃ b, PySem.W.exmOne K cls h.c = some b ∧ (b = true → ∀ a, H a = none → h.ts a cls d (clrE h.i D) (put h.i a σ) (upd H a (ExV cls d a))) ∧ (b = false → wHd K Wout D r cls d σ H)
inductive HdsA (X : Cx) : List ExceptHandler → List HdT → Prop
  | nil : HdsA X [] []
  | cons {y : Str} {h : HdT} {nm : Option Str} {st0 : Stmt} {sts : List Stmt} {p1 p2 : Pos} {hds : List ExceptHandler} {l : List HdT} (hc : Names X y h.c)
      (hi : (nm = none ∧ h.i = none) ∨ ∃ n j, nm = some n ∧ h.i = some j ∧ X.N[j]? = some n ∧ X.env.kindOf n = some .local)
      (hsu : ∀ (a : Addr) (cls : Value) (d : Option Addr) (pn : List (Addr × Obj)), PSs (suiteX X a pn) (st0 :: sts) (h.ts a cls d)) (r : HdsA X hds l) : HdsA X (.ExceptHandler (some (.Name y p1)) nm (st0 :: sts) p2 :: hds) (h :: l)
section
variable {X : Cx} {body : List Stmt} {hd0 : ExceptHandler} {hds : List ExceptHandler} {l : List HdT} {pos : Pos} {tb : WX → TS} {Wout : WX}
theorem ps_tryA (hs : X.stack = X.env :: X.outer) (hf : X.env.frame = some X.env.locals) (hex : X.ex = []) (hN : X.N.Nodup) (tk : Takes X Wout)
    (hb : ∀ (W : WX) (pn : List (Addr × Obj)) (xe : Value → Shared → Prop), Takes (X.tr pn xe) W → PassesOwn (model X.prog X.w) X.A X.env xe → PSs (X.tr pn xe) body (tb W)) (hh : HdsA X (hd0 :: hds) l) :
    PS X (.Try body (hd0 :: hds) [] [] pos) (fun D σ H => tb (wHd X.K Wout D l) D σ H) := by
  refine ⟨fun pins s σ H D I hstart => ?_⟩
  have ok := I.ok
  have frames : X.A.frames = some (X.env :: X.outer) := by rw [ok.frames, hs]
  have pinsOut : ∀ {f : Flow} {s1 : Shared}, SP (X.tr (X.pn ++ pins) fun e s₁ => wpAny (model X.prog X.w) X.A (noteFrame e X.env) (fun _ s₂ => wpAny (model X.prog X.w) X.A (setFlight e none) (fun _ s₃ =>
      wpAny (model X.prog X.w) X.A (handleBy e X.env (hd0 :: hds)) (SP X pins D) X.xe s₃) X.xe s₂) X.xe s₁) [] D f s1 → SP X pins D f s1 := fun {f s1} q => by
    cases f with
    | next => obtain ⟨σ2, H2, J, q⟩ := q; exact ⟨σ2, H2, J.ofTry ok, q⟩
    | brk => obtain ⟨σ2, H2, J, q⟩ := q; exact ⟨σ2, H2, J.ofTry ok, q⟩
    | cont => obtain ⟨σ2, H2, J, q⟩ := q; exact ⟨σ2, H2, J.ofTry ok, q⟩
    | ret u => obtain ⟨v, σ2, H2, J, r, q⟩ := q; exact ⟨v, σ2, H2, J.ofTry ok, r, q⟩
  refine wpAny_Try_except (wpAny_mono ((hb (wHd X.K Wout D l) (X.pn ++ pins) _ (fun u s2 xx => ?_) PassesOwn.looking).run [] s σ H D (I.toTry _) hstart) (fun f s1 q => ?_) fun _ _ z => z)
  · obtain ⟨a, B, sI, pins2, σ2, H2, cls, d, rfl, Jt, nb, up, sky, na, hos, hag, w⟩ := xx
    have J : Inv X pins σ2 H2 sI := Jt.ofTry ok
    have skyE : Sky B (X.env :: X.outer) a (Zc cls d) X.env.locals s2.heap := by
      rw [← hs]
      exact sky
    show wpAny (model X.prog X.w) X.A (noteFrame (.ref a) X.env) _ _ _
    refine Sky.land Zc.steady frames hf skyE fun h3 fl3 up3 => ?_
    have J3 : Inv X pins σ2 H2 { s2 with heap := h3 } := J.landed nb fl3.1 (up.trans up3) hos hag
    obtain ⟨o3, v3, e3, z3, d3⟩ := fl3.there
    have noFrame : ∀ {h : Heap} {o : Obj} {vs : Array Value}, h.FunFrames B (X.env :: X.outer) → h.get? a = some o → o.data = .fields vs → a ∉ frs (X.env :: X.outer) := fun {h o vs} ff e dd hm => by
      obtain ⟨_, o2, q2, hnf⟩ := ff.mem hm
      rw [e] at q2
      cases q2
      exact hnf _ dd
    have nfr := noFrame fl3.2.2.1 e3 d3
    have nL : a ≠ X.env.locals := fun z => nfr (List.mem_filterMap.mpr ⟨X.env, List.mem_cons_self, by rw [hf, z]⟩)
    have nI : sI.heap.get? a = none := by
      cases q : sI.heap.get? a with
      | none => rfl
      | some o =>
        have := nb a o q (by rw [hs]; exact nfr)
        rw [fl3.2.1] at this
        cases this
    have n0 : X.s_0.heap.get? a = none := by
      cases q : X.s_0.heap.get? a with
      | none => rfl
      | some o =>
        obtain ⟨o2, q2⟩ := J.base.there a o q (by rw [hex]; simp)
        rw [nI] at q2
        cases q2
    have nP : ∀ p ∈ X.pn ++ pins, p.1 ≠ a := fun p hp z => by
      have := (J.pin p hp).1
      rw [z, nI] at this
      cases this
    have look : PySem.W.Looks (model X.prog X.w) h3 (typeOf (.ref a)) cls := fun A Q E s k q => wpAny_typeOf_ref (k _ _ e3) (by rw [z3.1]; exact q)
    have go : ∀ {hds2 : List ExceptHandler} {l2 : List HdT}, HdsA X hds2 l2 → wHd X.K Wout D l2 cls d σ2 H2 →
        wpAny (model X.prog X.w) X.A (handleBy (.ref a) X.env hds2) (SP X pins D) X.xe { s2 with heap := h3 } := by
      intro hds2 l2 hk
      induction hk with
      | nil =>
        intro w
        refine wpAny_handleBy_nil ?_
        obtain ⟨m1, m2, m3, oe, vs, T, oT, ts2, he, hz, hd, h1, hr⟩ := id fl3
        unfold PySem.passOn
        refine wpAny_bind (wpAny_field he hd h1 ?_)
        rw [if_neg (show ¬ ((Value.ref T == Value.none) = true) from by simp)]
        have fin : wpAny (model X.prog X.w) X.A (setFlight (.ref a) X.env.frame) (fun _ s4 => wpAny (model X.prog X.w) X.A (throw (.ref a) : Sem Flow) (SP X pins D) X.xe s4) X.xe { s2 with heap := h3 } := by
          rw [hf]
          exact HandSPX.setFlight_upZ fl3 fun h4 hh4 up4 => wpAny_throw (tk _ _ ⟨a, B, sI, pins, σ2, H2, cls, d, rfl, J, nb, (up.trans up3).trans up4, .inr (.inr (by rw [hs]; exact hh4)), na, hos, hag, w⟩)
        first
          | exact wpAny_bind (wpAny_pure (wpAny_bind fin))
          | exact wpAny_bind fin
      | @cons y hd nm st0 sts p1 p2 hds3 l3 hc hi hsu r ih =>
        intro w
        obtain ⟨b, hb1, hyes, hno⟩ := w
        refine wpAny_handleBy_cons (codeAny_handlers_test ?_) (by intro q; cases q)
        have is := PySem.W.exm_one (M := model X.prog X.w) (J3.kIn) look hb1
        have test : ∀ {Q : Value → Shared → Prop} {E : Value → Shared → Prop}, Q hd.c { s2 with heap := h3 } → wpAny (model X.prog X.w) (X.A.mark (some (.ref a))) (eval (.Name y p1) X.env) Q E { s2 with heap := h3 } := fun {Q E} q => by
          obtain ⟨hg, hdbg, hm | ⟨hm, hv, hnn⟩⟩ := hc
          · exact ld_glob (X := suiteX X a (X.pn ++ pins)) (inv_in J3) hg hm q hdbg
          · exact ld_blt (X := suiteX X a (X.pn ++ pins)) (inv_in J3) hg hm hv q hnn hdbg
        refine test (is.here ?_)
        cases b with
        | true =>
          have within : ∀ {h4 : Heap}, HandSPX.FlyingZ B (X.env :: X.outer) a (Zc cls d) h4 → h3.UpToSlots h4 → Inv (suiteX X a (X.pn ++ pins)) [] σ2 (upd H2 a (ExV cls d a)) { s2 with heap := h4 } := fun {h4} fl4 up4 => by
            have J4 : Inv X pins σ2 H2 { s2 with heap := h4 } := J.landed nb fl4.1 ((up.trans up3).trans up4) hos hag
            obtain ⟨o4, v4, e4, z4, d4⟩ := fl4.there
            exact inv_in (inv_track J4 e4 d4 na n0 nL nP (exV_ok e4 z4 d4))
          rcases hi with ⟨rfl, hi⟩ | ⟨n, j, rfl, hi, hj, hl⟩
          · refine codeAny_handlers_suite ?_
            refine HandSPX.lands_againZ fl3 fun h4 fl4 up4 => ?_
            have q := hyes rfl a na
            rw [hi] at q
            refine wpAny_mono ((hsu a cls d (X.pn ++ pins)).run [] _ _ _ _ (within fl4 up4) q) (fun f s6 q6 => ?_) (fun _ _ z => False.elim z)
            cases f with
            | next => obtain ⟨σ6, H6, S6, q6⟩ := q6; exact ⟨_, _, inv_out S6 ok, q6⟩
            | brk => obtain ⟨σ6, H6, S6, q6⟩ := q6; exact ⟨_, _, inv_out S6 ok, q6⟩
            | cont => obtain ⟨σ6, H6, S6, q6⟩ := q6; exact ⟨_, _, inv_out S6 ok, q6⟩
            | ret u => obtain ⟨v6, σ6, H6, S6, r6, q6⟩ := q6; exact ⟨_, _, _, inv_out S6 ok, r6, q6⟩
          · refine codeAny_handlers_suite_as ?_
            refine HandSPX.lands_againZ fl3 fun h4 fl4 up4 => ?_
            have q := hyes rfl a na
            rw [hi] at q
            refine store_ok (X := suiteX X a (X.pn ++ pins)) (v := .ref a) (within fl4 up4) hN hj (.inl hl) rfl (fun s5 S5 => ?_) (.inr hl)
            refine wpAny_mono ((hsu a cls d (X.pn ++ pins)).run [] s5 _ _ _ S5 q) (fun f s6 q6 => ?_) (fun _ _ z => False.elim z)
            have leave : ∀ {σ6 : L2.St} {H6 : Hp} {Q : Shared → Prop}, Inv (suiteX X a (X.pn ++ pins)) [] σ6 H6 s6 → (∀ s7, Inv X pins (σ6.set j none) H6 s7 → Q s7) →
                wpAny (model X.prog X.w) X.A (do bindName X.env n .none; unbindBehindTheSuite X.env n p2) (fun _ s7 => Q s7) X.xe s6 := fun {σ6 H6 Q} S6 hq => gone_ok (inv_out S6 ok) hN hj hl hq
            cases f with
            | next => obtain ⟨σ6, H6, S6, q6⟩ := q6; exact leave S6 fun s7 J7 => ⟨_, _, J7, q6⟩
            | brk => obtain ⟨σ6, H6, S6, q6⟩ := q6; exact leave S6 fun s7 J7 => ⟨_, _, J7, q6⟩
            | cont => obtain ⟨σ6, H6, S6, q6⟩ := q6; exact leave S6 fun s7 J7 => ⟨_, _, J7, q6⟩
            | ret u => obtain ⟨v6, σ6, H6, S6, r6, q6⟩ := q6; exact leave S6 fun s7 J7 => ⟨_, _, _, J7, r6, q6⟩
        | false => exact ih (hno rfl)
    exact go hh w
  · cases f with
    | next => obtain ⟨σ2, H2, J, q⟩ := q; exact wpAny_execs_nil ⟨σ2, H2, J.ofTry ok, q⟩
    | brk => exact pinsOut q
    | cont => exact pinsOut q
    | ret u => exact pinsOut q
end
/-! ### e.value of an exception at rest -/
def tXv (K : PySem.W.Frag) (n : Str) (te : TE) : TE := fun σ H Q => te σ H fun x H1 => ∃ (a C dx : Addr) (fs : List (Str × V)) (v : V), x = .ref a ∧ H1 a = some (ExV (.ref C) (some dx) a) ∧ XfC K C ∧ PySem.W.findIn K (.ref C) n = some none ∧ H1 dx = some (.xd fs) ∧ fs.lookup n = some v ∧ Q v H1
theorem pe_xv {X : Cx} {e : Expr} {te : TE} {pos : Pos} {n : Str} (he : PE X e te) (hb : attributeBase e n X.env (eval e X.env) = eval e X.env := by rfl) : PE X (.Attribute e n pos) (tXv X.K n te) := by
  refine ⟨fun pins s σ H Q I h => attr_of hb (thn (he.run pins s σ H _ I h) fun u s1 hh => ?_)⟩
  obtain ⟨x, H1, J, rx, a, C, dx, fs, v, ex, ea, T, hno, ed, hl, q⟩ := hh
  subst ex
  obtain rfl : u = Value.ref a := rx
  obtain ⟨⟨oe, vs, e1, z1, d1⟩, _⟩ := (J.hok a _ ea : ObjOk X.prog X.w H1 s1.heap a (ExV (.ref C) (some dx) a))
  obtain ⟨mA, hns, hr⟩ := (J.hok dx _ ed : ObjOk X.prog X.w H1 s1.heap dx (.xd fs))
  obtain ⟨od, ho, hlk⟩ := lookIn_ns hns
  obtain ⟨u, hu, ru⟩ := RelO.some_of (v := v) (o := mA n) (by rw [← hl]; exact hr n)
  have at_ : PySem.W.InstAt s1.heap a oe C (some od) := ⟨e1, z1.1, by unfold PySem.W.notCls; rw [d1] <;> rfl, by rw [z1.2]; exact ho⟩
  exact HandSPX.exc_get J.kIn at_ T.ga T.gg T.exC (PySem.W.findObj_own T.hdC hno rfl (by rw [hlk, hu])) (handed_of ru) ⟨v, H1, J.tok _, ru, q⟩
/-! ### the exceptions' own __init__ -/
def spI (K : PySem.W.Frag) : Sp := fun vs H Q _ => ∃ (a C : Addr) (v : V), vs = [.ref a, v] ∧ OexC K C ∧ PySem.W.findIn K (.ref C) "value" = some none ∧ H a = some (exo a C none) ∧ ∀ dx, H dx = none → dx ≠ a → Q .non (upd (upd H dx (exd dx [("value", v)])) a (exo a C (some dx)))
def tIni (K : PySem.W.Frag) : TS := tSeq (tDrop (tVeI K (tCons (tVar 0) (tCons (tVar 1) tNil)))) (tOst K "value" (tVar 0) (tVar 1))
theorem init_ok {P : Program} {w : World} {K : PySem.W.Frag} {mg : Str → Option Value} {base : Heap} {qual : Str} {params : Arguments} {body : List Stmt} {scope : Scope} {f : Addr} {fd : FuncData}
    (F : FunD K "__init__" qual params body scope [] [] f fd) (S : FnScope ["self", "value"] ["self", "value"] scope)
    (hb : ∀ (cdv : Value) (A : Around) (outer : List Env) (s : Shared) (H : Hp) (E : XK), PSs (cxOf (L2.CX P w) P w K mg base ["self", "value"] qual scope f cdv A outer s H E) body (tIni K)) :
    FnOk P w K mg base (L2.CX P w) 1 f fd ["self", "value"] (spI K) := by
  refine F.ok S (fun vs H Q E ⟨a, C, v, e, _⟩ => by rw [e]; rfl) fun cdv A outer s H vs Q E hr h => ?_
  obtain ⟨a, C, v, rfl, T, hv, hx, q⟩ := h
  refine ⟨_, hb cdv A outer s H E, .ref a, rfl, v, rfl, a, C, [v], rfl, by show 1 ≤ 1000; decide, T, hx, v, rfl, .ref a, rfl, a, C, rfl, T, hv, .inl ⟨hx, fun dx n ne => q dx n ne⟩⟩
end Q
namespace Q
open PySem
open Spec PyProof.Rows L2

/-! ### raise C(e) -/
def kRaise (x : Str) (M : EndsD) : List D → Sto → Prop := fun ds S => match ds with
  | [d] => M.ex (x, d) S
  | _ => False
def dRaise (x : Str) (ta : TAD) : TSD := fun M sg S => ta sg S (kRaise x M) M.ex
/-- the common __init__, known -/
structure IniT (P : Program) (w : World) (K : PySem.W.Frag) (mg : Str → Option Value) (base : Heap) (fd : FuncData) : Prop where
  ok : FnOk P w K mg base (L2.CX P w) 1 (initA K) fd ["self", "value"] (spI K)
  hb : Binds K fd ["self", "value"] []
theorem upd_del {H : Hp} {a dx : Addr} {o u v : HO} (n : H a = none) (ne : dx ≠ a) : upd (del (upd (upd (upd H a o) dx u) a o) a) dx v = upd H dx v := by
  funext b
  by_cases hb : b = dx
  · subst hb
    rw [upd_same, upd_same]
  · rw [upd_ne hb, upd_ne hb]
    by_cases ha : b = a
    · subst ha
      rw [del_same, n]
    · rw [del_ne ha, upd_ne ha, upd_ne hb, upd_ne ha]
theorem upd_del2 {H : Hp} {a dx : Addr} {o o2 u v : HO} (n : H a = none) (ne : dx ≠ a) : upd (del (upd (upd (upd H a o) dx u) a o2) a) dx v = upd H dx v := by
  funext b
  by_cases hb : b = dx
  · subst hb
    rw [upd_same, upd_same]
  · rw [upd_ne hb, upd_ne hb]
    by_cases ha : b = a
    · subst ha
      rw [del_same, n]
    · rw [del_ne ha, upd_ne ha, upd_ne hb, upd_ne ha]
theorem q_raise {X : Cx} {E : XK} {x : Str} {e : Expr} {es : List Expr} {ta : TAD} {p1 p2 pos : Pos} {fd : FuncData} (hc : X.calm = true) (I : IniT X.prog X.w X.K X.mg X.base fd) (hr : Room 2 X.A) (tk : Takes X (fun c d _ H => E c d H)) (hx : exB X.K x = true) (hm : X.mg x = some (.ref (He.ga X.K x)))
    (ha : QA X E (e :: es) ta) (hg : Gl X x := by rfl) (hdb : (x == ("__debug__" : Str)) = false := by decide) (he : starEach (e :: es) X.env = (false, eval e X.env) :: starEach es X.env := by rfl) (hpl : (backTo p2 (starEach es X.env)).any (·.1) = false := by rfl) :
    QS X E (.Raise (some (.Call (.Name x p1) (e :: es) [] p2)) none pos) (dRaise x ta) := by
  have C := exB_ok hx
  refine ps_imp (ps_raise hc tk (pmk_oex (dvs := []) C.oex C.ini C.tyI I.ok hr I.hb .nil passL hg hm ha hdb he hpl)) fun De σ H ⟨sg, al, S, Dd, rs, rl, q, ue⟩ => ?_
  refine ⟨sg, al, S, kRaise x Dd, Dd.ex, rs, rl, q, fun ds S1 al1 H1 vs f1 r1 q1 => ?_, ue.ex⟩
  unfold kRaise at q1
  split at q1
  · rename_i d
    obtain ⟨v, u, ev, rv, eu⟩ := r1
    cases (show u = [] from eu)
    subst ev
    refine ⟨by show 1 ≤ 1000; decide, fun a na => ⟨a, He.ga X.K x, v, by simp, C.oex, C.val, upd_same, fun dx nd ne => ⟨rfl, dx, [("value", v)], upd_same, by rw [upd_ne ne, upd_same], by rwa [upd_ne ne] at nd, ?_⟩⟩⟩
    rw [upd_del2 na ne]
    have nd1 : H1 dx = none := by rwa [upd_ne ne] at nd
    have f2 : Fut X.K H1 al1 (upd H1 dx (.xd [("value", v)])) al1 S1 := Fut.lay f1.rs nd1
    exact ue.ex (x, d) S1 al1 _ _ _ (f1.trans f2) ⟨hx, dx, v, rfl, rfl, upd_same, f2.rd rv⟩ q1
  · exact q1.elim
/-! ### the body of a try: what is let out knows the slots -/
abbrev cyW (X : Cx) (W : WX) (σ : L2.St) : Cy := ⟨X.K, X.mg, fun c d H => W c d σ H⟩
abbrev QEw (X : Cx) (W : WX) (e : Expr) (t : TED) : Prop := PE X e (fun σ H Q => LE (cyW X W σ) t σ H Q)
abbrev QTw (X : Cx) (W : WX) (e : Expr) (t : TTD) : Prop := PT X e (fun σ H Q => LT (cyW X W σ) t σ H Q)
abbrev QAw (X : Cx) (W : WX) (e : List Expr) (t : TAD) : Prop := PA X e (fun σ H Q => LA (cyW X W σ) t σ H Q)
abbrev QSw (X : Cx) (W : WX) (e : Stmt) (t : TSD) : Prop := PS X e (fun De σ H => LS (cyW X W σ) t De σ H)
abbrev QSsw (X : Cx) (W : WX) (e : List Stmt) (t : TSD) : Prop := PSs X e (fun De σ H => LS (cyW X W σ) t De σ H)
section
variable {X : Cx} {W : WX} {e a b : Expr} {es : List Expr} {te ta tb : TED} {tr tk : TAD} {pos p kpos : Pos} {kws : List Keyword} {nm : Option Str}
theorem w_e (h : ∀ E : XK, QE X E e te) : QEw X W e te := ⟨fun pins s σ H Q I q => (h fun c d H => W c d σ H).run pins s σ H Q I q⟩
theorem w_t {c : Expr} {tc : TTD} (h : ∀ E : XK, QT X E c tc) : QTw X W c tc := ⟨fun pins s σ H Q I q => (h fun c d H => W c d σ H).run pins s σ H Q I q⟩
theorem w_a (h : ∀ E : XK, QA X E es tr) : QAw X W es tr := ⟨fun pos pins s σ H Q I q => (h fun c d H => W c d σ H).run pos pins s σ H Q I q⟩
theorem w_nil : QAw X W [] dNil := w_a fun E => q_nil
theorem w_cons (ha : QEw X W e te) (hr : QAw X W es tr) (hs : starEach (e :: es) X.env = (false, eval e X.env) :: starEach es X.env := by rfl) : QAw X W (e :: es) (dCons te tr) :=
  pa_imp (pa_cons ha hr hs) fun s H Q ⟨sg, al, S, kd, xd, rs, rl, q, up, ux⟩ => ⟨sg, al, S, kCons1 tr sg kd xd, xd, rs, rl, q, fun d S1 al1 H1 v f1 r1 q1 =>
    ⟨sg, al1, S1, kCons2 kd d, xd, f1.rs, f1.rsl rl, q1, fun ds S2 al2 H2 vs f2 r2 q2 => up (d :: ds) S2 al2 H2 (v :: vs) (f1.trans f2) ⟨v, vs, rfl, f2.rd r1, r2⟩ q2, ux.mono f1⟩, ux⟩
theorem w_tup {x1} (h : QAw X W es tr) : QEw X W (.Tuple es x1 pos) (dTup tr) :=
  pe_imp (pe_tup h) fun s H Q ⟨sg, al, S, kd, xd, rs, rl, q, up, ux⟩ => ⟨sg, al, S, kTup kd, xd, rs, rl, q, fun ds S1 al1 H1 vs f1 r1 q1 => ⟨by rw [RDs.length r1]; exact q1.1, fun p hp => by
    have f2 : Fut X.K H1 al1 (upd H1 p (.tup vs)) al1 S1 := Fut.lay f1.rs hp
    exact up (.tup ds) S1 al1 _ (.ref p) (f1.trans f2) ⟨p, vs, rfl, .inl (.inl upd_same), f2.rds r1⟩ q1.2⟩, ux⟩
theorem w_lst (h : QAw X W es tr) : QEw X W (.List es pos) (dLst tr) :=
  pe_imp (pe_lst h) fun s H Q ⟨sg, al, S, kd, xd, rs, rl, q, up, ux⟩ => ⟨sg, al, S, kLst kd, xd, rs, rl, q, fun ds S1 al1 H1 vs f1 r1 q1 => ⟨by rw [RDs.length r1]; exact q1.1, fun p hp =>
    up (.ref S1.length) _ _ _ (.ref p) (f1.trans (new_lst f1.rs hp r1)) (ref_new f1.rs _) q1.2⟩, ux⟩
theorem w_ifE {c : Expr} {t : TTD} (hc : QTw X W c t) (ha : QEw X W a ta) (hb : QEw X W b tb) : QEw X W (.IfExp c a b pos) (dIfE t ta tb) :=
  pe_imp (pe_ifExp hc ha hb) fun s H Q ⟨sg, al, S, kd, xd, rs, rl, q, up, ux⟩ => ⟨sg, al, S, kIfE ta tb sg kd xd, xd, rs, rl, q, fun d S1 al1 H1 f1 q1 =>
    ite_of ⟨fun e => ⟨sg, al1, S1, kd, xd, f1.rs, f1.rsl rl, q1.1 e, up.mono f1, ux.mono f1⟩, fun e => ⟨sg, al1, S1, kd, xd, f1.rs, f1.rsl rl, q1.2 e, up.mono f1, ux.mono f1⟩⟩, ux⟩
variable {k n : Nat} {f : Addr} {fd : FuncData} {ps ks : List Str} {sp : SpD} {x : Str} {idx : List Nat}
theorem w_call (F : FnOk X.prog X.w X.K X.mg X.base (L2.CX X.prog X.w) k f fd ps (LP X.K X.mg n sp)) (hr : Room k X.A) (hg : Gl X x) (hm : X.mg x = some (.ref f)) (hk : PySem.W.keepIn X.K (.ref f) = true) (hb : Binds X.K fd ps []) (tk : Takes X W)
    (ha : QAw X W (e :: es) tr) (hdb : (x == ("__debug__" : Str)) = false := by decide) (he : starEach (e :: es) X.env = (false, eval e X.env) :: starEach es X.env := by rfl) (hpl : (backTo pos (starEach es X.env)).any (·.1) = false := by rfl) :
    QEw X W (.Call (.Name x p) (e :: es) [] pos) (dCall (spN n sp) tr) :=
  pe_imp (pe_callS (E := WE W) F hr hg hm hk hb (fun σ => passAt tk σ) ha hdb he hpl) fun σ H Q ⟨sg, al, S, kd, xd, rs, rl, q, up, ux⟩ => ⟨sg, al, S, kCall (spN n sp) kd xd, xd, rs, rl, q,
    fun ds S1 al1 H1 vs f1 r1 q1 => ⟨by rw [RDs.length r1]; exact q1.1, ds, al1, S1, kd, xd, f1.rs, r1, q1.2, up.mono f1, ux.mono f1⟩, ux⟩
/-- a call by names, at told slots -/
theorem runKw {pins : List (Addr × Obj)} {σ : L2.St} {H : Hp} {s : Shared} {Q : VK} {us ws : List Value} {vs zs : List V} (F : FnOk X.prog X.w X.K X.mg X.base (L2.CX X.prog X.w) k f fd ps (LP X.K X.mg ps.length sp)) (hr : Room k X.A) (hb : KB X.K fd ps n ks idx) (tk : Takes X W)
    (I : Inv X pins σ H s) (r : Vals vs us) (rz : Vals zs ws) (l1 : vs.length = n) (l2 : zs.length = ks.length) (h : LP X.K X.mg ps.length sp (vs ++ pick idx zs) H Q (WE W σ)) : wpAny (model X.prog X.w) X.A (call (.ref f) us (ks.zip ws)) (EP X pins σ Q) X.xe s := by
  have r2 := r.append (pick_vals (idx := idx) rz)
  refine wpAny_call (codeAny_mono (F.run X.A X.stack s H ⟨us, ks.zip ws⟩ (us ++ pick idx ws) (vs ++ pick idx zs) Q (WE W σ) hr I.env0 (hb.to s us ws (r.length.symm.trans l1) (rz.length.symm.trans l2)) r2 h) ?_)
  intro r s' hq
  match r, hq with
  | .error e, hq => exact passAt tk σ pins H s e s' I hq
  | .ok (.ret u), hq => exact I.after hq
  | .ok .next, hq => exact hq.elim
  | .ok .brk, hq => exact hq.elim
  | .ok .cont, hq => exact hq.elim
theorem w_callK (F : FnOk X.prog X.w X.K X.mg X.base (L2.CX X.prog X.w) k f fd ps (LP X.K X.mg ps.length sp)) (hr : Room k X.A) (hg : Gl X x) (hm : X.mg x = some (.ref f)) (hk : PySem.W.keepIn X.K (.ref f) = true) (hb : KB X.K fd ps n ks idx) (tk' : Takes X W)
    (ha : ∀ E : XK, QA X E (e :: es) tr) (hkw : ∀ E : XK, QK X E kws tk) (hall : (backToKw pos (keywordEach kws X.env)).all (·.1.isSome) = true := by rfl) (hks : (backToKw pos (keywordEach kws X.env)).filterMap (·.1) = ks := by rfl) (hdb : (x == ("__debug__" : Str)) = false := by decide) (he : starEach (e :: es) X.env = (false, eval e X.env) :: starEach es X.env := by rfl) (hpl : ((backTo pos (starEach (e :: es) X.env)).any (·.1) || (backToKw pos (keywordEach kws X.env)).any (·.1.isNone)) = false := by rfl) :
    QEw X W (.Call (.Name x p) (e :: es) kws pos) (dCallK (spN ps.length sp) n ks.length idx tr tk) := by
  constructor
  rintro pins s σ H Q I ⟨sg, al, S, kd, xd, rs, rl, q, up, ux⟩
  refine wpAny_Call_Name_kw <| ld_glob I hg hm (PySem.W.callWith_KW (h₀ := X.base) I.ok.mod.kin hk hall (thn ((ha (WE W σ)).run pos pins s σ H (fun vs H1 => ∃ ds al1 S1, Fut X.K H al H1 al1 S1 ∧ RDs X.K H1 al1 ds vs ∧ kCK1 (spN ps.length sp) n ks.length idx tk sg kd xd ds S1) I
    ⟨sg, al, S, _, xd, rs, rl, q, fun ds S1 al1 H1 vs f1 r1 q1 => ⟨ds, al1, S1, f1, r1, q1⟩, ux⟩) fun us s1 ⟨vs, H1, I1, r, ds, al1, S1, f1, r1, q1⟩ => ?_) hpl he) hdb
  refine thn ((hkw (WE W σ)).run pos pins s1 σ H1 (fun zs H2 => ∃ es al2 S2, Fut X.K H1 al1 H2 al2 S2 ∧ RDs X.K H2 al2 es zs ∧ kCK2 (spN ps.length sp) n ks.length idx kd xd ds es S2) I1
    ⟨sg, al1, S1, _, xd, f1.rs, f1.rsl rl, q1, fun es S2 al2 H2 vs f2 r2 q2 => ⟨es, al2, S2, f2, r2, q2⟩, ux.mono f1⟩) fun ws s2 ⟨zs, H2, I2, rz, es, al2, S2, f2, r2, l1, l2, q2⟩ => ⟨I2.kIn, ?_⟩
  rw [hks]
  exact runKw F hr hb tk' I2 r rz (by rw [RDs.length r1]; exact l1) (by rw [RDs.length r2]; exact l2)
    ⟨by rw [RDs.length (RDs.append (f2.rds r1) (pick_rds r2))]; exact q2.1, ds ++ pick idx es, al2, S2, kd, xd, f2.rs, RDs.append (f2.rds r1) (pick_rds r2), q2.2, up.mono (f1.trans f2), ux.mono (f1.trans f2)⟩
theorem w_callK0 (F : FnOk X.prog X.w X.K X.mg X.base (L2.CX X.prog X.w) k f fd ps (LP X.K X.mg ps.length sp)) (hr : Room k X.A) (hg : Gl X x) (hm : X.mg x = some (.ref f)) (hk : PySem.W.keepIn X.K (.ref f) = true) (hb : KB X.K fd ps 0 ks idx) (tk' : Takes X W)
    (hkw : ∀ E : XK, QK X E kws tk) (hall : (backToKw pos (keywordEach kws X.env)).all (·.1.isSome) = true := by rfl) (hks : (backToKw pos (keywordEach kws X.env)).filterMap (·.1) = ks := by rfl) (hdb : (x == ("__debug__" : Str)) = false := by decide) (hpl : ((backTo pos (starEach [] X.env)).any (·.1) || (backToKw pos (keywordEach kws X.env)).any (·.1.isNone)) = false := by rfl) :
    QEw X W (.Call (.Name x p) [] kws pos) (dCallK (spN ps.length sp) 0 ks.length idx dNil tk) := by
  constructor
  rintro pins s σ H Q I ⟨sg, al, S, kd, xd, rs, rl, q, up, ux⟩
  refine wpAny_Call_Name_kw <| ld_glob I hg hm (PySem.W.callWith_KW0 (h₀ := X.base) I.ok.mod.kin hk hall ?_ hpl) hdb
  refine thn ((hkw (WE W σ)).run pos pins s σ H (fun zs H2 => ∃ es al2 S2, Fut X.K H al H2 al2 S2 ∧ RDs X.K H2 al2 es zs ∧ kCK2 (spN ps.length sp) 0 ks.length idx kd xd [] es S2) I
    ⟨sg, al, S, _, xd, rs, rl, q, fun es S2 al2 H2 vs f2 r2 q2 => ⟨es, al2, S2, f2, r2, q2⟩, ux⟩) fun ws s2 ⟨zs, H2, I2, rz, es, al2, S2, f2, r2, l1, l2, q2⟩ => ⟨I2.kIn, ?_⟩
  rw [hks]
  exact runKw F hr hb tk' I2 (vs := []) .nil rz rfl (by rw [RDs.length r2]; exact l2)
    ⟨by have := RDs.length (pick_rds (idx := idx) r2); rw [List.nil_append, this]; exact q2.1, [] ++ pick idx es, al2, S2, kd, xd, f2.rs, pick_rds r2, q2.2, up.mono f2, ux.mono f2⟩
variable {t u : TSD} {st : Stmt} {sa sb : List Stmt}
theorem w_expr (he : QEw X W e te) (hs : swapsWith e none pos.line X.env = pure false := by rfl) : QSw X W (.Expr e pos) (dDrop te) :=
  ps_imp (ps_expr he hs) fun De s H ⟨sg, al, S, Dd, rs, rl, q, ue⟩ => ⟨sg, al, S, kDrop Dd sg, Dd.ex, rs, rl, q, fun d S1 al1 H1 v f1 r1 q1 => ue.nx sg S1 al1 H1 s f1 (f1.rsl rl) q1, ue.ex⟩
theorem w_ret (he : QEw X W e te) : QSw X W (.Return (some e) pos) (dRet te) :=
  ps_imp (ps_ret he) fun De s H ⟨sg, al, S, Dd, rs, rl, q, ue⟩ => ⟨sg, al, S, Dd.rt, Dd.ex, rs, rl, q, ue.rt, ue.ex⟩
theorem w_if {c : Expr} {tc : TTD} (hc : QTw X W c tc) (ha : QSsw X W sa t) (hb : QSsw X W sb u) : QSw X W (.If c sa sb pos) (dIf tc t u) :=
  ps_imp (ps_if hc ha hb) fun De s H ⟨sg, al, S, Dd, rs, rl, q, ue⟩ => ⟨sg, al, S, kIf t u Dd sg, Dd.ex, rs, rl, q, fun c S1 al1 H1 f1 q1 =>
    ite_of ⟨fun e => ⟨sg, al1, S1, Dd, f1.rs, f1.rsl rl, q1.1 e, ue.mono f1⟩, fun e => ⟨sg, al1, S1, Dd, f1.rs, f1.rsl rl, q1.2 e, ue.mono f1⟩⟩, ue.ex⟩
theorem w_set {i : Nat} {x : Str} {pos' : Pos} (hN : X.N.Nodup) (he : QEw X W e te) (hi : X.N[i]? = some x := by rfl) (hx : Loc X.env.scope x := by first | exact Or.inl rfl | exact Or.inr rfl) (hs : swapsWith e (some (.Name x pos')) pos.line X.env = pure false := by rfl)
    (hf : X.fn x = true ∨ X.env.scope.names.lookup x = some .local := by first | exact .inl rfl | exact .inr rfl) : QSw X W (.Assign [.Name x pos'] e pos) (dSet i te) :=
  ps_imp (ps_set hN hi hx he hs hf) fun De s H ⟨sg, al, S, Dd, rs, rl, q, ue⟩ => ⟨sg, al, S, kSet i Dd sg, Dd.ex, rs, rl, q, fun d S1 al1 H1 v f1 r1 q1 => ue.nx _ S1 al1 H1 _ f1 (rsl_set (f1.rsl rl) r1 i) q1, ue.ex⟩
theorem w_one (h : QSw X W st t) : QSsw X W [st] t := pss_one h
theorem w_snil : QSsw X W [] dNext := pss_imp pss_nil fun De s H ⟨sg, al, S, Dd, rs, rl, q, ue⟩ => ue.nx sg S al H s (.now rs) rl q
theorem w_raise {x : Str} {ta : TAD} {p1 p2 : Pos} {fd : FuncData} (hc : X.calm = true) (I : IniT X.prog X.w X.K X.mg X.base fd) (hr : Room 2 X.A) (tk : Takes X W) (hx : exB X.K x = true) (hm : X.mg x = some (.ref (He.ga X.K x)))
    (ha : ∀ E : XK, QA X E (e :: es) ta) (hg : Gl X x := by rfl) (hdb : (x == ("__debug__" : Str)) = false := by decide) (he : starEach (e :: es) X.env = (false, eval e X.env) :: starEach es X.env := by rfl) (hpl : (backTo p2 (starEach es X.env)).any (·.1) = false := by rfl) :
    QSw X W (.Raise (some (.Call (.Name x p1) (e :: es) [] p2)) none pos) (dRaise x ta) := by
  have C := exB_ok hx
  refine ps_imp (ps_raise hc tk (pmk_oex (dvs := []) C.oex C.ini C.tyI I.ok hr I.hb .nil passL hg hm (w_a (W := W) ha) hdb he hpl)) fun De σ H ⟨sg, al, S, Dd, rs, rl, q, ue⟩ => ?_
  refine ⟨sg, al, S, kRaise x Dd, Dd.ex, rs, rl, q, fun ds S1 al1 H1 vs f1 r1 q1 => ?_, ue.ex⟩
  unfold kRaise at q1
  split at q1
  · rename_i d
    obtain ⟨v, u, ev, rv, eu⟩ := r1
    cases (show u = [] from eu)
    subst ev
    refine ⟨by show 1 ≤ 1000; decide, fun a na => ⟨a, He.ga X.K x, v, by simp, C.oex, C.val, upd_same, fun dx nd ne => ⟨rfl, dx, [("value", v)], upd_same, by rw [upd_ne ne, upd_same], by rwa [upd_ne ne] at nd, ?_⟩⟩⟩
    rw [upd_del2 na ne]
    have nd1 : H1 dx = none := by rwa [upd_ne ne] at nd
    have f2 : Fut X.K H1 al1 (upd H1 dx (.xd [("value", v)])) al1 S1 := Fut.lay f1.rs nd1
    exact ue.ex (x, d) S1 al1 _ _ _ (f1.trans f2) ⟨hx, dx, v, rfl, rfl, upd_same, f2.rd rv⟩ q1
  · exact q1.elim
end
/-! ### try -/
structure HdD where
  y : Str
  i : Option Nat
  t : TSD
def clrD (i : Option Nat) (sg : Sl) : Sl := match i with
  | some j => sg.set j none
  | none => sg
def putD' (i : Option Nat) (d : D) (sg : Sl) : Sl := match i with
  | some j => sg.set j (some d)
  | none => sg
def clrM (i : Option Nat) (M : EndsD) : EndsD := ⟨fun sg S => M.nx (clrD i sg) S, M.rt, fun sg S => M.bk (clrD i sg) S, fun sg S => M.ct (clrD i sg) S, XF⟩
def wTry (M : EndsD) (sg : Sl) : List HdD → XD
  | [] => M.ex
  | h :: r => fun ex S => (exSub ex.1 h.y = true → h.t (clrM h.i M) (putD' h.i (.ref S.length) sg) (S ++ [.exo ex.1 ex.2])) ∧ (exSub ex.1 h.y = false → wTry M sg r ex S)
def dTry (t : TSD) (hs : List HdD) : TSD := fun M sg S => t { M with ex := wTry M sg hs } sg S
theorem rsl_clr {K : PySem.W.Frag} {H : Hp} {al : List Addr} {sg : Sl} {sv : L2.St} (r : RSl K H al sg sv) (i : Option Nat) : RSl K H al (clrD i sg) (clr i sv) := by
  cases i with
  | none => exact r
  | some j =>
    refine ⟨by simp [clrD, clr, r.len], fun k d q => ?_⟩
    by_cases e : j = k
    · subst e
      unfold clrD at q
      rw [List.getElem?_set] at q
      simp at q
    · unfold clrD at q
      dsimp only at q
      rw [List.getElem?_set_ne e] at q
      obtain ⟨v, h1, h2⟩ := r.at_ k d q
      refine ⟨v, ?_, h2⟩
      unfold clr
      dsimp only
      rw [List.getElem?_set_ne e]
      exact h1
theorem rsl_put {K : PySem.W.Frag} {H : Hp} {al : List Addr} {sg : Sl} {sv : L2.St} {d : D} {a : Addr} (r : RSl K H al sg sv) (h : RD K H al d (.ref a)) (i : Option Nat) : RSl K H al (putD' i d sg) (put i a sv) := by
  cases i with
  | none => exact r
  | some j => exact rsl_set r h j
inductive HdsQ (X : Cx) : List ExceptHandler → List HdD → Prop
  | nil : HdsQ X [] []
  | cons {h : HdD} {nm : Option Str} {st0 : Stmt} {sts : List Stmt} {p1 p2 : Pos} {hds : List ExceptHandler} {l : List HdD} (hg : Gl X h.y) (hdb : (h.y == ("__debug__" : Str)) = false) (hm : X.mg h.y = some (.ref (He.ga X.K h.y))) (hx : exB X.K h.y = true) (hn : h.y ∈ exNs)
      (hi : (nm = none ∧ h.i = none) ∨ ∃ n j, nm = some n ∧ h.i = some j ∧ X.N[j]? = some n ∧ X.env.kindOf n = some .local)
      (hsu : ∀ (a : Addr) (pn : List (Addr × Obj)), QSs (suiteX X a pn) E0 (st0 :: sts) h.t) (r : HdsQ X hds l) : HdsQ X (.ExceptHandler (some (.Name h.y p1)) nm (st0 :: sts) p2 :: hds) (h :: l)
def hdT (X : Cx) (h : HdD) : HdT := ⟨.ref (He.ga X.K h.y), h.i, fun a cls d De σ H => LS ⟨X.K, X.mg, E0⟩ h.t De σ H⟩
theorem hds_of {X : Cx} {hds : List ExceptHandler} {l : List HdD} (h : HdsQ X hds l) : HdsA X hds (l.map (hdT X)) := by
  induction h with
  | nil => exact .nil
  | cons hg hdb hm hx hn hi hsu r ih => exact .cons (h := hdT X _) ⟨hg, hdb, .inl hm⟩ hi (fun a cls d pn => hsu a pn) ih
theorem hds_sub {X : Cx} {E : XK} {Dd : EndsD} {De : Ends} {sg : Sl} {σ : L2.St} {H0 : Hp} {al0 : List Addr} (ue : UpE (cy X E) H0 al0 Dd De) (rl : RSl X.K H0 al0 sg σ) {hds : List ExceptHandler} {l : List HdD} (h : HdsQ X hds l) :
    ∀ (ex : ExD) (S : Sto) (al : List Addr) (H : Hp) (cls : Value) (d : Option Addr), Fut X.K H0 al0 H al S → ExAt (cy X E) H al ex cls d → wTry Dd sg l ex S → wHd X.K (fun c d _ H => E c d H) De (l.map (hdT X)) cls d σ H := by
  induction h with
  | nil => exact fun ex S al H cls d f xa w => ue.ex ex S al H cls d f xa w
  | @cons h nm st0 sts p1 p2 hds l hg hdb hm hx hn hi hsu r ih =>
    intro ex S al H cls d f xa w
    obtain ⟨xb, dx, v, rfl, rfl, e1, rv⟩ := id xa
    refine ⟨exSub ex.1 h.y, (exB_ok xb).sub _ hn _ (exB_ok hx).ns, fun hb a na => ?_, fun hb => ih ex S al H _ _ f xa (w.2 hb)⟩
    have ne : dx ≠ a := fun z => by
      rw [z, na] at e1
      cases e1
    have f2 : Fut X.K H al (upd H a (ExV (.ref (He.ga X.K ex.1)) (some dx) a)) (al ++ [a]) (S ++ [.exo ex.1 ex.2]) := Fut.push f.rs na ⟨xb, dx, v, upd_same, by rw [upd_ne ne]; exact e1, RD.mono (Keep.laid na) _ _ rv⟩
    refine ⟨_, al ++ [a], _, _, f2.rs, rsl_put ((f.trans f2).rsl rl) (ref_new f.rs _) h.i, w.1 hb, ?_⟩
    have u2 := ue.mono (f.trans f2)
    exact ⟨fun sg' S' al' H' sv' f' r' q => u2.nx _ S' al' H' _ f' (rsl_clr r' h.i) q, u2.rt, fun sg' S' al' H' sv' f' r' q => u2.bk _ S' al' H' _ f' (rsl_clr r' h.i) q, fun sg' S' al' H' sv' f' r' q => u2.ct _ S' al' H' _ f' (rsl_clr r' h.i) q, fun ex' S' al' H' c d f' r' q => q.elim⟩
theorem q_try {X : Cx} {E : XK} {body : List Stmt} {hd0 : ExceptHandler} {hds : List ExceptHandler} {pos : Pos} {t : TSD} {l : List HdD} (hs : X.stack = X.env :: X.outer) (hf : X.env.frame = some X.env.locals) (hex : X.ex = []) (hN : X.N.Nodup) (tk : Takes X (fun c d _ H => E c d H))
    (hb : ∀ (W : WX) (pn : List (Addr × Obj)) (xe : Value → Shared → Prop), Takes (X.tr pn xe) W → QSsw (X.tr pn xe) W body t) (hh : HdsQ X (hd0 :: hds) l) : QS X E (.Try body (hd0 :: hds) [] [] pos) (dTry t l) :=
  ps_imp (ps_tryA (tb := fun W De σ H => LS ⟨X.K, X.mg, fun c d H => W c d σ H⟩ t De σ H) hs hf hex hN tk (fun W pn xe ht _ => hb W pn xe ht) (hds_of hh)) fun De σ H ⟨sg, al, S, Dd, rs, rl, q, ue⟩ =>
    ⟨sg, al, S, { Dd with ex := wTry Dd sg l }, rs, rl, q, ⟨ue.nx, ue.rt, ue.bk, ue.ct, fun ex S' al' H' cls d f xa w => hds_sub ue rl hh ex S' al' H' cls d f xa w⟩⟩
/-! ### e.value -/
def kXv (k : KD) : KD := fun d S => match d with
  | .ref n => ∃ x v, S[n]? = some (.exo x v) ∧ k v S
  | _ => False
def dXv (te : TED) : TED := fun sg S k x => te sg S (kXv k) x
theorem q_xv {X : Cx} {E : XK} {e : Expr} {te : TED} {pos : Pos} (he : QE X E e te) (hb : attributeBase e "value" X.env (eval e X.env) = eval e X.env := by rfl) : QE X E (.Attribute e "value" pos) (dXv te) :=
  pe_imp (pe_xv he hb) fun σ H Q ⟨sg, al, S, kd, xd, rs, rl, q, up, ux⟩ => ⟨sg, al, S, kXv kd, xd, rs, rl, q, fun d S1 al1 H1 v f1 r1 q1 => by
    unfold kXv at q1
    split at q1
    · obtain ⟨x, y, hS, q1⟩ := q1
      obtain ⟨a, rfl, ha⟩ := r1
      obtain ⟨xb, dx, v, e1, e2, rv⟩ := f1.rs.ob _ _ a hS ha
      exact ⟨a, _, dx, _, v, rfl, e1, (exB_ok xb).xf, (exB_ok xb).val, e2, rfl, up.mono f1 y S1 al1 H1 v (.now f1.rs) rv q1⟩
    · exact q1.elim, ux⟩
end Q
namespace Q
open PySem
open Spec PyProof.Rows L2

/-! ### the hook with checks of one's own -/
abbrev Chk : Type := PySem.W.Frag → Bool
def veC : Chk := fun K => match PySem.W.findCls K (.type "ValueError") (.type "type") "__init__" with
  | some (.val (.builtin n)) => n == "ValueError.__init__"
  | _ => false
theorem veC_ok {K : PySem.W.Frag} (h : veC K = true) : PySem.W.findCls K (.type "ValueError") (.type "type") "__init__" = some (.val (.builtin "ValueError.__init__")) := by
  unfold veC at h
  split at h
  · rename_i n e
    rw [e, eq_of_beq h]
  · cases h
abbrev AlC : Type := Bool × AlB
def obsC (cs : List Chk) (bf : List (Str × Value)) (fa : List He.Fa) (fn : List He.DefD) (K : PySem.W.Frag) : AlC := (cs.all fun c => c K, obsB bf fa fn K)
def SaysC (cs : List Chk) (bf : List (Str × Value)) (fa : List He.Fa) (fn : List He.DefD) (K : PySem.W.Frag) : Prop := (cs.all fun c => c K) = true ∧ SaysB bf fa fn K
def obsCG (n : Nat) (cs : List Chk) (bf : List (Str × Value)) (fa : List He.Fa) (fn : List He.DefD) (g : Addr → Option Obj) : AlC := obsC cs bf fa fn (He.frG g (He.asD g n))
def hookC (n : Nat) (cs : List Chk) (bf : List (Str × Value)) (fa : List He.Fa) (fn : List He.DefD) : PySem.W.Hook where
  α := AlC
  obs s := obsCG n cs bf fa fn s.heap.get?
  val _ := (true, true, He.valD fn)
  says _ h := ∃ K : PySem.W.Frag, K.In h ∧ SaysC cs bf fa fn K
  of _ _ e := ⟨_, He.frG_in, congrArg (fun z : AlC => z.1) e, congrArg (fun z : AlC => z.2.1) e, congrArg (fun z : AlC => z.2.2) e⟩
  keeps _ _ _ := fun ⟨K, hK, c⟩ k => ⟨K, PySem.W.Frag.In.keeps hK k, c⟩
theorem obsCG_eq {n : Nat} {cs : List Chk} {bf : List (Str × Value)} {fa : List He.Fa} {fn : List He.DefD} {g : Addr → Option Obj} {s : Shared} (h : ∀ a, g a = s.heap.get? a) : obsCG n cs bf fa fn g = (hookC n cs bf fa fn).obs s :=
  (congrArg (obsCG n cs bf fa fn) (funext h : g = s.heap.get?)).trans rfl
theorem SaysC.chk {cs : List Chk} {bf : List (Str × Value)} {fa : List He.Fa} {fn : List He.DefD} {K : PySem.W.Frag} (c : SaysC cs bf fa fn K) (i : Nat) {p : Chk} (h : cs[i]? = some p := by rfl) : p K = true := List.all_eq_true.mp c.1 p (List.mem_of_getElem? h)
/-- a class's own def -/
def clsDef (i : Nat) : Stmt → Stmt
  | .ClassDef _ _ _ body .. => body.getD i (.Pass ⟨0, 0, 0, 0⟩)
  | s => s
end Q
namespace Q
open PySem
open Spec PyProof.Rows L2

/-! ### len(set(xs)) of any ints -/
section
variable {X : Cx} {E : XK}
def tLenSet (K : PySem.W.Frag) (ta : TE) : TE := fun σ H Q => ta σ H fun x H1 => ∃ (l : Addr) (ns : List Int), x = .ref l ∧ (SqL K H1 l (ns.map V.int) ∨ SqT K H1 l (ns.map V.int)) ∧ ns.length < 1000 ∧ ∀ ms : List Int, ms.Nodup → (∀ i, i ∈ ms ↔ i ∈ ns) → Q (.int ms.length) H1
theorem pe_lenSet {a : Expr} {ta : TE} {p p2 q pos : Pos} (hc : X.calm = true) (hg : Gl X "len") (hm : X.mg "len" = none) (hg2 : Gl X "set") (hm2 : X.mg "set" = none) (ha : PE X a ta)
    (na : starEach [a] X.env = (false, eval a X.env) :: starEach [] X.env := by rfl) : PE X (.Call (.Name "len" p) [.Call (.Name "set" p2) [a] [] q] [] pos) (tLenSet X.K ta) := by
  refine ⟨fun pins s σ H Q I h => Call_ (ld_blt I hg hm boot_len (PyProof.Rows.callWith_builtin1 (PyProof.Rows.args_cons (Call_ (ld_blt I hg2 hm2 boot_set ?_)) rfl) rfl rfl))⟩
  refine PyProof.Rows.callWith_type1 (PyProof.Rows.args_cons (thn (ha.run pins s σ H _ I h) fun v s1 ⟨x, H1, I1, r1, l, ns, ex, hq, h1k, q1⟩ => PyProof.Rows.args_nil ?_) na) na rfl
  subst ex
  cases r1
  have hh := I1.ok.hd hc
  have fin : ∀ (g : Heap) (tk c : Nat), SetR X.w g s1.heap.objs.size (fun j => decide (j ∈ ns)) c → c ≤ ns.length → (∀ b o, s1.heap.get? b = some o → g.get? b = some o) →
      wpAny (model X.prog X.w) X.A (spliced (backTo pos (starEach [] X.env))) (fun vs s₂ => wpAny (model X.prog X.w) X.A (call (.builtin "len") (Value.ref s1.heap.objs.size :: vs)) (EP X pins σ Q) X.xe s₂) X.xe { s1 with heap := g, toks := tk } := fun g tk c R hcn kp => by
    refine PyProof.Rows.args_nil ?_
    have I2 : Inv X pins σ H1 { s1 with heap := g, toks := tk } := I1.kept fun b o e => kp b o e
    obtain ⟨o, es, ep, t, ho, hex, hd, _, nd, hmem, _, hf, hn, _, _⟩ := R
    have q2 := q1 (es.toList.map keyOf) nd fun i => (hmem i).symm.trans decide_eq_true_iff
    rw [List.length_map, Array.length_toList] at q2
    exact call_len_set ho hex hd hf (by omega) ⟨.int es.size, H1, I2.tok _, ⟨_, rfl⟩, q2⟩
  rcases hq with hq | hq
  · obtain ⟨us, rv, pl, _⟩ := I1.list hq
    exact set_of_list ns hh pl.isList (by simpa using ints_of_vals rv) (by unfold scanBound; omega) fin
  · obtain ⟨us, rv, pl, _⟩ := I1.tuple hq
    exact call_set_tupI ns hh (show s1.heap.IsTuple l us.toArray from pl) (by simpa using ints_of_vals rv) (by unfold scanBound; omega) fin
def kLenSet (k : KD) : KD := fun d S => match d with
  | .ref n => ∃ ns : List Int, isL S n (ns.map D.int) ∧ ns.length < 1000 ∧ ∀ ms : List Int, ms.Nodup → (∀ i, i ∈ ms ↔ i ∈ ns) → k (.int ms.length) S
  | .tup ds => ∃ ns : List Int, ds = ns.map D.int ∧ ns.length < 1000 ∧ ∀ ms : List Int, ms.Nodup → (∀ i, i ∈ ms ↔ i ∈ ns) → k (.int ms.length) S
  | _ => False
def dLenSet (te : TED) : TED := fun sg S k x => te sg S (kLenSet k) x
theorem q_lenSet {a : Expr} {te : TED} {p p2 q pos : Pos} (hc : X.calm = true) (hm : X.mg "len" = none) (hm2 : X.mg "set" = none) (ha : QE X E a te) (hg : Gl X "len" := by rfl) (hg2 : Gl X "set" := by rfl)
    (na : starEach [a] X.env = (false, eval a X.env) :: starEach [] X.env := by rfl) : QE X E (.Call (.Name "len" p) [.Call (.Name "set" p2) [a] [] q] [] pos) (dLenSet te) :=
  pe_imp (pe_lenSet hc hg hm hg2 hm2 ha na) fun s H Q ⟨sg, al, S, kd, xd, rs, rl, q, up, ux⟩ => ⟨sg, al, S, kLenSet kd, xd, rs, rl, q, fun d S1 al1 H1 v f1 r1 q1 => by
    unfold kLenSet at q1
    split at q1
    · obtain ⟨ns, hl, hz, q1⟩ := q1
      obtain ⟨l, us, e2, _, h1, rv⟩ := isL_at f1.rs hl r1
      rw [rd_ints rv] at h1
      exact ⟨l, ns, e2, .inl h1, hz, fun ms h2 h3 => up_at (up.mono f1) f1.rs (d := .int ms.length) rfl (q1 ms h2 h3)⟩
    · obtain ⟨ns, e, hz, q1⟩ := q1
      subst e
      obtain ⟨l, us, e2, h1, rv⟩ := r1
      rw [rd_ints rv] at h1
      exact ⟨l, ns, e2, .inr h1, hz, fun ms h2 h3 => up_at (up.mono f1) f1.rs (d := .int ms.length) rfl (q1 ms h2 h3)⟩
    · exact q1.elim, ux⟩
end
/-! ### a comprehension whose test and element may change the store -/
theorem lc_indT {it : ItD} {i : Nat} {tt : TTD} {te : TED} {sg : Sl} {k : KD} {S : Sto} (I : List D → List D → Sto → Prop) (h0 : I it.items [] (S ++ [.lst []])) (hend : ∀ acc T, I [] acc T → it.grd T ∧ k (.ref S.length) T)
    (hs : ∀ d r acc T (kk : KD) (nx : Sto → Prop), I (d :: r) acc T → (∀ y T2, T2[S.length]? = some (.lst acc) → acc.length < sizeLine → I r (acc ++ [y]) (T2.set S.length (.lst (acc ++ [y]))) → kk y T2) → (∀ T2, I r acc T2 → nx T2) →
      it.grd T ∧ tt (sg.set i (some d)) T (fun b T2 => (b = true → te (sg.set i (some d)) T2 kk XF) ∧ (b = false → nx T2)) XF) : kLc (gNm i) tt te sg k it S := by
  have go : ∀ (items acc : List D) (T : Sto), I items acc T → wLc it.grd (gNm i) tt te sg S.length (fun S' => k (.ref S.length) S') items T := by
    intro items
    induction items with
    | nil => exact fun acc T h => hend acc T h
    | cons d r ih =>
      intro acc T h
      have q := hs d r acc T (kLc3 S.length (wLc it.grd (gNm i) tt te sg S.length (fun S' => k (.ref S.length) S') r)) (wLc it.grd (gNm i) tt te sg S.length (fun S' => k (.ref S.length) S') r) h (fun y T2 h1 h2 h3 => ⟨acc, h1, h2, ih _ _ h3⟩) fun T2 h1 => ih _ _ h1
      exact ⟨q.1, q.2⟩
  exact go _ _ _ h0
end Q
namespace Q
open PySem
open Spec PyProof.Rows L2

/-! ### xs.index(i) of a list of ints -/
section
variable {X : Cx} {E : XK}
def rIdx : RMD := fun d ds S k _ => match d, ds with
  | .ref n, [.int i] => ∃ (ns : List Int) (j : Nat), isL S n (ns.map D.int) ∧ ns[j]? = some i ∧ (∀ m : Nat, m < j → ns[m]? ≠ some i) ∧ k (.int j) S
  | _, _ => False
theorem m_idx : MtR X "list.index" (LLm (cy X E) rIdx) := by
  intro pins s σ H x xs v us Q I rx rv ⟨d, ds, al, S, kd, xd, rs, rd, rds, q, up, ux⟩
  unfold rIdx at q
  split at q
  · rename_i n i
    obtain ⟨ns, j, hl, hj, hno, q⟩ := q
    obtain ⟨a, us', e1, ha, hH, r1⟩ := isL_at rs hl rd
    obtain ⟨y, e2, ry⟩ := rds1 rds
    cases (show y = _ from ry)
    rw [rd_ints r1] at hH
    refine mt_index pins s σ H x xs v us Q I rx rv ⟨a, ns.map V.int, .int i, j, .int i, e1, e2, hH, rfl, ?_, by rw [List.getElem?_map, hj]; rfl, ?_, fun m z' hm hz' => ?_, up_at up rs (d := .int j) rfl q⟩
    · rw [List.all_map]
      exact List.all_eq_true.mpr fun _ _ => rfl
    · exact decide_eq_true rfl
    · rw [List.getElem?_map] at hz'
      cases h : ns[m]? with
      | none => rw [h] at hz'; cases hz'
      | some u =>
        rw [h] at hz'
        cases hz'
        exact decide_eq_false fun e => hno m hm (by rw [h, e])
  · exact q.elim
/-- a chain of two comparisons as a test -/
theorem q_tchain {op op' : CmpOp} {r r' : R2D} {a b c : Expr} {ta tb tc : TED} {pos : Pos} (ho : OpR X (compareOp op) (LL2 (cy X E) r)) (ho' : OpR X (compareOp op') (LL2 (cy X E) r')) (ha : QE X E a ta) (hb : QE X E b tb) (hc : QE X E c tc)
    (hm : lastMarks [op, op'] [b, c] = false := by with_unfolding_all rfl) : QT X E (.Compare a [op, op'] [b, c] pos) (dTst (dChain r r' ta tb tc)) :=
  pt_imp (pt_chain ho ho' ha hb hc hm) fun _ _ _ q => chain_red (le_tst q)
end
end Q
namespace Q
open PySem
open Spec PyProof.Rows L2
/-- a comprehension whose parts lay new objects behind the list -/
theorem lc_appG {it : ItD} {g : TGD} {tt : TTD} {te : TED} {sg : Sl} {k : KD} {S : Sto} (st : D → Sl) (p : D → Bool) (f : D → D)
    (hs : ∀ d ∈ it.items, ∀ (T : Sto) (K : Sl → Sto → Prop), K (st d) T → g d sg T K XF)
    (ht : ∀ d ∈ it.items, ∀ (acc : List D) (G : Sto) (kk : Bool → Sto → Prop), (∀ G', kk (p d) (S ++ .lst acc :: G')) → tt (st d) (S ++ .lst acc :: G) kk XF)
    (he : ∀ d ∈ it.items, p d = true → ∀ (acc : List D) (G : Sto) (kk : KD), (∀ G', kk (f d) (S ++ .lst acc :: G')) → te (st d) (S ++ .lst acc :: G) kk XF) (hg : ∀ acc G, it.grd (S ++ .lst acc :: G)) (hl : it.items.length ≤ sizeLine)
    (hk : ∀ G, k (.ref S.length) (S ++ .lst ((it.items.filter p).map f) :: G)) : kLc g tt te sg k it S := by
  have go : ∀ (rest acc : List D) (G : Sto), (∀ d ∈ rest, d ∈ it.items) → acc.length + rest.length ≤ sizeLine → (∀ G, k (.ref S.length) (S ++ .lst (acc ++ (rest.filter p).map f) :: G)) →
      wLc it.grd g tt te sg S.length (fun S' => k (.ref S.length) S') rest (S ++ .lst acc :: G) := by
    intro rest
    induction rest with
    | nil => exact fun acc G _ _ h => ⟨hg acc G, by simpa using h G⟩
    | cons d r ih =>
      intro acc G hm hz h
      rw [List.length_cons] at hz
      have hd := hm d List.mem_cons_self
      have hr : ∀ e ∈ r, e ∈ it.items := fun e he => hm e (List.mem_cons_of_mem _ he)
      refine ⟨hg acc G, hs d hd _ _ (ht d hd acc G _ fun G1 => ⟨fun hp => he d hd hp acc G1 _ fun G2 => ?_, fun hp => ?_⟩)⟩
      · refine ⟨acc, by simp, by omega, ?_⟩
        rw [set_at0]
        refine ih (acc ++ [f d]) G2 hr (by rw [List.length_append, List.length_singleton]; omega) fun G => ?_
        have := h G
        rw [List.filter_cons_of_pos hp, List.map_cons] at this
        rw [List.append_assoc]
        exact this
      · refine ih acc G1 hr (by omega) fun G => ?_
        have := h G
        rwa [List.filter_cons_of_neg (by rw [hp]; decide)] at this
  unfold kLc
  refine go it.items [] [] (fun d hd => hd) (by simpa using hl) fun G => ?_
  rw [List.nil_append]
  exact hk G
/-- .. of a name, with a test -/
theorem lc_appF {it : ItD} {i : Nat} {tt : TTD} {te : TED} {sg : Sl} {k : KD} {S : Sto} (p : D → Bool) (f : D → D)
    (ht : ∀ d ∈ it.items, ∀ (acc : List D) (G : Sto) (kk : Bool → Sto → Prop), (∀ G', kk (p d) (S ++ .lst acc :: G')) → tt (sg.set i (some d)) (S ++ .lst acc :: G) kk XF)
    (he : ∀ d ∈ it.items, p d = true → ∀ (acc : List D) (G : Sto) (kk : KD), (∀ G', kk (f d) (S ++ .lst acc :: G')) → te (sg.set i (some d)) (S ++ .lst acc :: G) kk XF) (hg : ∀ acc G, it.grd (S ++ .lst acc :: G)) (hl : it.items.length ≤ sizeLine)
    (hk : ∀ G, k (.ref S.length) (S ++ .lst ((it.items.filter p).map f) :: G)) : kLc (gNm i) tt te sg k it S :=
  lc_appG (fun d => sg.set i (some d)) p f (fun d hd T K hK => hK) ht he hg hl hk
/-- .. with none -/
theorem lc_appM {it : ItD} {i : Nat} {te : TED} {sg : Sl} {k : KD} {S : Sto} (f : D → D)
    (he : ∀ d ∈ it.items, ∀ (acc : List D) (G : Sto) (kk : KD), (∀ G', kk (f d) (S ++ .lst acc :: G')) → te (sg.set i (some d)) (S ++ .lst acc :: G) kk XF) (hg : ∀ acc G, it.grd (S ++ .lst acc :: G)) (hl : it.items.length ≤ sizeLine)
    (hk : ∀ G, k (.ref S.length) (S ++ .lst (it.items.map f) :: G)) : kLc (gNm i) dYes te sg k it S := by
  refine lc_appF (fun _ => true) f (fun d hd acc G kk h => h G) (fun d hd _ acc G kk h => he d hd acc G kk h) hg hl fun G => ?_
  rw [List.filter_eq_self.mpr (fun _ _ => rfl)]
  exact hk G
theorem lget_two {A G H : Sto} {o : O} {ds : List D} {n : Nat} (h : A.length + (G.length + 1) = n) : lget (A ++ o :: (G ++ .lst ds :: H)) n = some ds := by
  subst h
  rw [lget_at, lget_tl]
  exact lget_at0
theorem lget_in {A G H : Sto} {ds : List D} {n : Nat} (h : A.length + G.length = n) : lget (A ++ (G ++ .lst ds :: H)) n = some ds := by
  subst h
  rw [lget_at]
  exact lget_at0
end Q
namespace Q
open PySem
open Spec PyProof.Rows L2
/-! ### a tuple some times over, perhaps none -/
theorem tuple_mulNone (l : Addr) (items : Array Value) (n : Nat) (dd : Option Addr) (sl : Array (Option Value)) (u : Tok) (hi : items.isEmpty = false) :
    Meets (Builtin.«tuple.__mul__» ⟨[.ref l, .int 0 u], []⟩) (fun _ R s => s.heap.get? l = some { cls := .type "tuple", dict := dd, data := .seq items n, slots := sl } ∧
      R (.ok (.ret (Value.ref s.heap.objs.size))) { s with heap := s.heap.push { cls := Value.type "tuple", data := Data.seq #[] }, toks := s.toks }) :=
  .of_wp fun prog w A R s h => by
    obtain ⟨hp, g, d, tk, os⟩ := s
    obtain ⟨hl, h⟩ := h
    have f1 := AutoSeq1.idx_int
    have c0 : (decide ((0 : Int) < -(2 ^ 63)) || decide ((0 : Int) ≥ 2 ^ 63)) = false := by decide
    have c1 : (items.isEmpty || (0 : Int) == 1) = false := by rw [hi]; rfl
    have c2 : (decide ((0 : Int) ≤ 0) || items.isEmpty) = true := rfl
    wp_walk using wpAny_loadPart' hl
    repeat (first
      | (refine wpAny_ite_false (decide_eq_false (by rw [c0]; exact Bool.false_ne_true)) ?_; wp_walk using wpAny_loadPart' hl)
      | (refine wpAny_ite_false (decide_eq_false (by rw [c1]; exact Bool.false_ne_true)) ?_; wp_walk using wpAny_loadPart' hl)
      | (refine wpAny_ite_true (decide_eq_true (by rw [c2])) ?_; wp_walk using wpAny_loadPart' hl))
    exact ⟨_, rfl, h⟩
section
variable {X : Cx} {E : XK}
theorem op_repT0 : OpR X (binaryOp .Mult) (fun x y H Q => ∃ l xs, x = .ref l ∧ y = .int 0 ∧ SqT X.K H l xs ∧ xs ≠ [] ∧ ∀ p, H p = none → Q (.ref p) (upd H p (.tup []))) := by
  intro pins s σ H x y v u Q I rx ry h
  obtain ⟨l, xs, rfl, rfl, hT, hne, q⟩ := h
  cases rx
  obtain ⟨t, rfl⟩ := ry
  obtain ⟨its, r, ⟨⟨cls, dd, data, sl⟩, ho, hc, n, hd⟩, hs⟩ := I.tuple hT
  simp only at hc hd
  subst hc hd
  have hle : its.length = xs.length := r.length.symm
  have hn : its ≠ [] := fun e => hne (by
    rw [e] at hle
    exact List.eq_nil_of_length_eq_zero hle.symm)
  have hi : its.toArray.isEmpty = false := by
    cases its with
    | nil => exact absurd rfl hn
    | cons a b => rfl
  refine wpAny_binaryOp_repeat_ref (T := "tuple") (U := "int") (by decide) ⟨_, ho, rfl⟩ (fun s' => typeIs_int s' 0 t) noFill_tuple_mul F.fills_int_mul F.slot_int_rmul repeat_tuple F.slot_int_index.lookup
    (call_meets F.slot_int_rmul (typeIs_int s 0 t) F.entry_int_rmul (F.args_int_rmul_2 _ _) (int_rmul_tuple 0 t l its.toArray n dd sl)
      ⟨ho, rfl, ⟨_, ho, rfl⟩, call_meets F.slot_tuple_mul ⟨_, ho, rfl⟩ F.entry_tuple_mul (F.args_tuple_mul_2 _ _) (tuple_mulNone l its.toArray n dd sl t hi) ⟨ho, ?_⟩⟩)
  refine ⟨.ref s.heap.objs.size, _, I.laid (t' := s.toks) (o := .tup []) (fun b ob q => Heap.get?_push_of_some _ q) (Nat.le_refl _) ?_, rfl, q _ (I.hok.fresh (Nat.le_refl _))⟩
  exact ⟨Nat.zero_le _, _, .nil, IsTup.new _ _⟩
def rMulN : R2D := fun d e S k _ => match d, e with
  | .tup xs, .int j => xs ≠ [] ∧ 0 ≤ j ∧ j ≤ 1000 ∧ xs.length ≤ 1000 ∧ k (.tup (List.replicate j.toNat xs).flatten) S
  | _, _ => False
theorem o_mulN : OpR X (binaryOp .Mult) (LL2 (cy X E) rMulN) := by
  intro pins s σ H x y v u Q I rx ry ⟨d, e, al, S, kd, xd, rs, rd, re, q, up, ux⟩
  unfold rMulN at q
  split at q
  · next xs j =>
    obtain ⟨hne, h1, h2, hl, q⟩ := q
    have re2 : y = .int j := re
    obtain ⟨a, vs, ex, h3, r1⟩ := rd
    by_cases hj : j = 0
    · subst hj
      subst re2
      refine op_repT0 pins s σ H x _ v u Q I rx ry ⟨a, vs, ex, rfl, h3, rds_ne r1 hne, fun p hp => up_tup up rs hp (ds := []) (vs := []) rfl ?_⟩
      simpa using q
    · exact o_mulT (E := E) pins s σ H x y v u Q I rx ry ⟨.tup xs, .int j, al, S, kd, xd, rs, ⟨a, vs, ex, h3, r1⟩, re, ⟨hne, by omega, h2, hl, q⟩, up, ux⟩
  · exact q.elim
end
end Q
namespace Q
open PySem
open Spec PyProof.Rows L2
/-! ### dict displays -/
def flatD2 : List (Key × D) → List D
  | [] => []
  | p :: r => keyD p.1 :: p.2 :: flatD2 r
def RPs (K : PySem.W.Frag) (H : Hp) (al : List Addr) : List D → List (V × V) → Prop
  | [], ps => ps = []
  | [_], _ => False
  | a :: b :: r, ps => ∃ x y q, ps = (x, y) :: q ∧ RD K H al a x ∧ RD K H al b y ∧ RPs K H al r q
def putAll (kvs more : List (Key × D)) : List (Key × D) := more.foldl (fun a p => putD a p.1 p.2) kvs
def kDisp (n : Nat) (k : KD) : List D → Sto → Prop := fun ds S => S[n]? = some (.dic []) ∧ ∃ kvs : List (Key × D), ds = flatD2 kvs ∧ kvs.length ≤ 15 ∧ k (.ref n) (S.set n (.dic (putAll [] kvs)))
/-- {k: v, ..}: t reads the keys and values, by turns -/
def dDisp (t : TAD) : TED := fun sg S k x => t sg (S ++ [.dic []]) (kDisp S.length k) x
theorem rps_split {K : PySem.W.Frag} {H : Hp} {al : List Addr} : ∀ {kvs : List (Key × D)} {ps : List (V × V)}, RPs K H al (flatD2 kvs) ps → ∃ vs : List (Key × V), ps = vs.map (fun kv => (kV kv.1, kv.2)) ∧ RKs K H al kvs vs
  | [], _, h => ⟨[], h, rfl⟩
  | p :: r, _, ⟨x, y, q, e, h1, h2, h3⟩ => by
    subst e
    obtain ⟨vs, e2, h4⟩ := rps_split h3
    refine ⟨(p.1, y) :: vs, ?_, ⟨y, vs, rfl, h2, h4⟩⟩
    rw [key_rd h1, e2]
    rfl
theorem rks_putAll {K : PySem.W.Frag} {H : Hp} {al : List Addr} : ∀ {more : List (Key × D)} {mv : List (Key × V)} {kvs : List (Key × D)} {vs : List (Key × V)}, RKs K H al more mv → RKs K H al kvs vs → RKs K H al (putAll kvs more) (mergeK vs mv)
  | [], _, _, _, h, h2 => by
    rw [show _ = [] from h]
    exact h2
  | p :: r, _, kvs, vs, ⟨v, q, e, h1, h2⟩, h3 => by
    subst e
    exact (rks_putAll (more := r) (mv := q) h2 (rks_put h1 h3) : RKs K H al (putAll (putD kvs p.1 p.2) r) (mergeK (putK vs p.1 v) q))
structure QP (X : Cx) (E : XK) (pos : Pos) (ks : List (Option Expr)) (es : List Expr) (t : TAD) : Prop where
  run : ∃ trs, PPs X pos ks es trs ∧ ∀ (s : L2.St) (H : Hp) (sg : Sl) (al : List Addr) (S : Sto) (kd : List D → Sto → Prop) (xd : XD) (Q : List (V × V) → Hp → Prop), RS X.K H al S → RSl X.K H al sg s → t sg S kd xd → UpX ⟨X.K, X.mg, E⟩ H al xd →
    (∀ H1 al1 S1 ds ps, Fut X.K H al H1 al1 S1 → RPs X.K H1 al1 ds ps → kd ds S1 → Q ps H1) → tPairs trs s H Q
section
variable {X : Cx} {E : XK} {pos : Pos} {ks : List (Option Expr)} {es : List Expr} {t : TAD}
theorem qp_nil : QP X E pos [] [] dNil := ⟨[], pps_nil, fun s H sg al S kd xd Q rs rl q ux go => go H al S [] [] (.now rs) rfl q⟩
theorem qp_cons {k v : Expr} {tk tv : TED} (hk : QE X E k tk) (hv : QE X E v tv) (hr : QP X E pos ks es t) : QP X E pos (some k :: ks) (v :: es) (dCons tk (dCons tv t)) := by
  obtain ⟨trs, h1, h2⟩ := hr.run
  refine ⟨(_, _) :: trs, pps_cons hk hv h1, fun s H sg al S kd xd Q rs rl q ux go => ?_⟩
  refine ⟨sg, al, S, kCons1 (dCons tv t) sg kd xd, xd, rs, rl, q, fun d1 S1 al1 H1 v1 f1 r1 q1 => ?_, ux⟩
  refine ⟨sg, al1, S1, kCons1 t sg (kCons2 kd d1) xd, xd, f1.rs, f1.rsl rl, q1, fun d2 S2 al2 H2 v2 f2 r2 q2 => ?_, ux.mono f1⟩
  refine h2 s H2 sg al2 S2 (kCons2 (kCons2 kd d1) d2) xd _ f2.rs ((f1.trans f2).rsl rl) q2 (ux.mono (f1.trans f2)) fun H3 al3 S3 ds ps f3 r3 q3 => ?_
  exact go H3 al3 S3 (d1 :: d2 :: ds) ((v1, v2) :: ps) ((f1.trans f2).trans f3) ⟨v1, v2, ps, rfl, (f2.trans f3).rd r1, f3.rd r2, r3⟩ q3
theorem q_disp (h : QP X E pos ks es t) (hall : ks.all (·.isSome) = true := by rfl) (hl : ks.length = es.length := by rfl) (h0 : ks ≠ [] := by intro z; cases z) (h15 : ks.length ≤ 15 := by decide) : QE X E (.Dict ks es pos) (dDisp t) := by
  obtain ⟨trs, h1, h2⟩ := h.run
  refine pe_imp (pe_disp h1 hall hl h0 h15) fun s H Q ⟨sg, al, S, kd, xd, rs, rl, q, up, ux⟩ => fun p hp => ?_
  have fN : Fut X.K H al (upd H p (.dK [])) (al ++ [p]) (S ++ [.dic []]) := new_dic rs hp rfl
  have aN : (al ++ [p])[S.length]? = some p := by rw [← rs.len]; simp
  refine h2 s _ sg (al ++ [p]) (S ++ [.dic []]) (kDisp S.length kd) xd _ fN.rs (fN.rsl rl) (show t sg (S ++ [.dic []]) (kDisp S.length kd) xd from q) (ux.mono fN) fun H1 al1 S1 ds ps f1 r1 q1 => ?_
  obtain ⟨e1, kvs, e2, l, q2⟩ := q1
  subst e2
  have a1 := getExt f1 aN
  obtain ⟨us, e3, ru⟩ := f1.rs.ob _ _ _ e1 a1
  have eu : us = [] := ru
  subst eu
  obtain ⟨vs, ep, rk⟩ := rps_split r1
  refine ⟨e3, vs, ep, by rw [rks_len rk]; exact l, ?_⟩
  have f2 := set_dic f1.rs e1 a1 (rks_putAll rk (show RKs X.K H1 al1 [] [] from rfl))
  exact up (.ref S.length) _ al1 _ (.ref p) ((fN.trans f1).trans f2) ⟨p, rfl, a1⟩ q2
end
/-! ### repr of data with dicts inside -/
def smC : Chk := fun K => (K.lookup sysModules).isSome
def keyPy : Key → PyData
  | .inl i => .int i
  | .inr x => .str x
/-! the hook that holds the table of modules, too -/
def obsSG (n : Nat) (cs : List Chk) (bf : List (Str × Value)) (fa : List He.Fa) (fn : List He.DefD) (g : Addr → Option Obj) : AlC := obsC cs bf fa fn (He.frG g (He.asD g n ++ [sysModules]))
def hookS (n : Nat) (cs : List Chk) (bf : List (Str × Value)) (fa : List He.Fa) (fn : List He.DefD) : PySem.W.Hook where
  α := AlC
  obs s := obsSG n cs bf fa fn s.heap.get?
  val _ := (true, true, He.valD fn)
  says _ h := ∃ K : PySem.W.Frag, K.In h ∧ SaysC cs bf fa fn K
  of _ _ e := ⟨_, He.frG_in, congrArg (fun z : AlC => z.1) e, congrArg (fun z : AlC => z.2.1) e, congrArg (fun z : AlC => z.2.2) e⟩
  keeps _ _ _ := fun ⟨K, hK, c⟩ k => ⟨K, PySem.W.Frag.In.keeps hK k, c⟩
theorem obsSG_eq {n : Nat} {cs : List Chk} {bf : List (Str × Value)} {fa : List He.Fa} {fn : List He.DefD} {g : Addr → Option Obj} {s : Shared} (h : ∀ a, g a = s.heap.get? a) : obsSG n cs bf fa fn g = (hookS n cs bf fa fn).obs s :=
  (congrArg (obsSG n cs bf fa fn) (funext h : g = s.heap.get?)).trans rfl
mutual
inductive DRy (S : Sto) : D → PyData → Prop
  | non : DRy S .non .none
  | bl (b : Bool) : DRy S (.bl b) (.bool b)
  | int (i : Int) : DRy S (.int i) (.int i)
  | str (x : Str) : DRy S (.str x) (.str x)
  | tup {ds : List D} {ps : List PyData} : DRys S ds ps → DRy S (.tup ds) (.tuple ps)
  | ref {n : Nat} {ds : List D} {ps : List PyData} : S[n]? = some (.lst ds) → DRys S ds ps → DRy S (.ref n) (.list ps)
  | dic {n : Nat} {kvs : List (Key × D)} {ps : List (PyData × PyData)} : S[n]? = some (.dic kvs) → DRks S kvs ps → DRy S (.ref n) (.dict ps)
inductive DRys (S : Sto) : List D → List PyData → Prop
  | nil : DRys S [] []
  | cons {d : D} {ds : List D} {p : PyData} {ps : List PyData} : DRy S d p → DRys S ds ps → DRys S (d :: ds) (p :: ps)
inductive DRks (S : Sto) : List (Key × D) → List (PyData × PyData) → Prop
  | nil : DRks S [] []
  | cons {k : Key} {d : D} {ds : List (Key × D)} {p : PyData} {ps : List (PyData × PyData)} : DRy S d p → DRks S ds ps → DRks S ((k, d) :: ds) ((keyPy k, p) :: ps)
end
section
variable {X : Cx} {pins : List (Addr × Obj)} {σ : L2.St} {H : Hp} {s : Shared} {al : List Addr} {S : Sto}
theorem sm_ne (I : Inv X pins σ H s) (hS : smC X.K = true) {a : Addr} {o : HO} (h : H a = some o) : a ≠ sysModules := fun e => by
  subst e
  obtain ⟨b, hb⟩ := Option.isSome_iff_exists.mp (show (X.K.lookup sysModules).isSome = true from hS)
  have h2 := (I.bs _ _ (I.mod.kin _ _ hb)).2
  rw [h2] at h
  cases h
mutual
theorem DRy.reads (I : Inv X pins σ H s) (hS : smC X.K = true) (rs : RS X.K H al S) : ∀ (p : PyData) (d : D) (v : V) (u : Value), DRy S d p → RD X.K H al d v → RelV v u → ∃ as, Reads s.heap u p as ∧ sysModules ∉ as
  | .none, _, _, _, h, r, q => by
    cases h; cases (show _ = V.non from r); cases q
    exact ⟨_, Reads.none, by simp⟩
  | .bool b, _, _, _, h, r, q => by
    cases h; cases (show _ = V.bl b from r); cases q
    exact ⟨_, Reads.bool b, by simp⟩
  | .int i, _, _, _, h, r, q => by
    cases h; cases (show _ = V.int i from r)
    obtain ⟨t, rfl⟩ := q
    exact ⟨_, Reads.int i t, by simp⟩
  | .str x, _, _, _, h, r, q => by
    cases h; cases (show _ = V.str x from r)
    obtain ⟨t, rfl⟩ := q
    exact ⟨_, Reads.str x t, by simp⟩
  | .tuple ps, _, _, _, h, r, q => by
    cases h with
    | tup hs =>
      obtain ⟨a, vs, e, h1, r1⟩ := r
      subst e
      cases q
      obtain ⟨its, rv, ⟨o, ho, hc, n, hd⟩, _⟩ := I.tuple h1
      obtain ⟨as, hr, hn⟩ := DRys.reads I hS rs ps _ vs its hs r1 rv
      exact ⟨_, Reads.tuple ho hc hd hr, hn⟩
  | .list ps, _, _, _, h, r, q => by
    cases h with
    | ref hl hs =>
      obtain ⟨a, e, ha⟩ := r
      subst e
      cases q
      obtain ⟨vs, e1, r1⟩ := rs.ob _ _ a hl ha
      obtain ⟨its, rv, ⟨o, n, ho, hc, _, hd⟩, _⟩ := I.list (.inl (.inl e1))
      obtain ⟨as, hr, hn⟩ := DRys.reads I hS rs ps _ vs its hs r1 rv
      refine ⟨_, Reads.list ho hc hd hr, fun z => ?_⟩
      rcases List.mem_cons.mp z with z | z
      · exact sm_ne I hS e1 z.symm
      · exact hn z
  | .dict ps, _, _, _, h, r, q => by
    cases h with
    | dic hl hs =>
      obtain ⟨a, e, ha⟩ := r
      subst e
      cases q
      obtain ⟨vs, e1, r1⟩ := rs.ob _ _ a hl ha
      obtain ⟨_, hz, ws, kv, hd⟩ := dk_of I.hok e1
      obtain ⟨bs, pr, hn⟩ := DRks.reads I hS rs ps _ vs ws hs r1 kv
      refine ⟨_, PyProof.V.reads_dictOf (enc := keyPy) (fun k key hk => ?_) hd pr, fun z => ?_⟩
      · rcases keyIs_shape hk with ⟨i, t, rfl, rfl⟩ | ⟨x, t, rfl, rfl⟩
        · exact Reads.int i t
        · exact Reads.str x t
      · rcases List.mem_cons.mp z with z | z
        · rw [← z] at hz
          simp at hz
        · exact hn z
theorem DRys.reads (I : Inv X pins σ H s) (hS : smC X.K = true) (rs : RS X.K H al S) : ∀ (ps : List PyData) (ds : List D) (vs : List V) (us : List Value), DRys S ds ps → RDs X.K H al ds vs → Vals vs us → ∃ as, ReadsAll s.heap us ps as ∧ sysModules ∉ as
  | [], _, _, _, h, r, q => by
    cases h; cases (show _ = [] from r); cases q
    exact ⟨_, ReadsAll.nil, by simp⟩
  | p :: ps, _, _, _, h, r, q => by
    cases h with
    | cons h1 h2 =>
      obtain ⟨v, w, e, r1, r2⟩ := r
      subst e
      cases q with
      | cons q1 q2 =>
        obtain ⟨as, a1, n1⟩ := DRy.reads I hS rs p _ v _ h1 r1 q1
        obtain ⟨bs, a2, n2⟩ := DRys.reads I hS rs ps _ w _ h2 r2 q2
        exact ⟨_, ReadsAll.cons a1 a2, fun z => (List.mem_append.mp z).elim n1 n2⟩
theorem DRks.reads (I : Inv X pins σ H s) (hS : smC X.K = true) (rs : RS X.K H al S) : ∀ (ps : List (PyData × PyData)) (ds : List (Key × D)) (vs : List (Key × V)) (us : List (Key × Value)), DRks S ds ps → RKs X.K H al ds vs → KV vs us → ∃ bs, PyProof.V.PairsRead s.heap keyPy us ps bs ∧ sysModules ∉ bs
  | [], _, _, _, h, r, q => by
    cases h; cases (show _ = [] from r); cases q
    exact ⟨_, PyProof.V.PairsRead.nil, by simp⟩
  | (pk, p) :: ps, _, _, _, h, r, q => by
    cases h with
    | cons h1 h2 =>
      obtain ⟨v, w, e, r1, r2⟩ := r
      subst e
      cases q with
      | @cons _ y _ _ q1 q2 =>
        obtain ⟨y1, y2⟩ := y
        obtain ⟨e1, q1⟩ := q1
        cases e1
        obtain ⟨as, a1, n1⟩ := DRy.reads I hS rs p _ v _ h1 r1 q1
        obtain ⟨bs, a2, n2⟩ := DRks.reads I hS rs ps _ w _ h2 r2 q2
        exact ⟨_, PyProof.V.PairsRead.cons a1 a2, fun z => (List.mem_append.mp z).elim n1 n2⟩
end
end
def spReprD : SpD := fun ds S k _ => ∃ d q, ds = [d] ∧ DRy S d q ∧ flatD d = false ∧ q.showable = true ∧ q.depth ≤ 60 ∧ q.shown.length ≤ sizeLine ∧ k (.str q.shown) S
theorem c_reprD {X : Cx} {E : XK} {k : Nat} (hS : smC X.K = true) (hG : X.A.guards = some []) (hr : Room k X.A) : CallR X (.builtin "repr") (LLs (cy X E) spReprD) := by
  intro pins s σ H xs us Q I r ⟨ds, al, S, kd, xd, rs, rd, ⟨d, q, ed, hd, hf, h1, h3, h4, hk⟩, up, ux⟩
  subst ed
  obtain ⟨v, e, rv⟩ := rds1 rd
  subst e
  obtain ⟨u, eu, ru⟩ := vals1 r
  subst eu
  obtain ⟨as, R, hn⟩ := DRy.reads I hS rs q d v u hd rv ru
  have un := hr.un
  obtain ⟨a, ea⟩ : ∃ a, u = .ref a := by
    cases d with
    | tup ds =>
      obtain ⟨a, vs, e, _⟩ := rv
      subst e
      exact ⟨a, ru⟩
    | ref n =>
      obtain ⟨a, e, _⟩ := rv
      subst e
      exact ⟨a, ru⟩
    | _ => exact nomatch hf
  subst ea
  exact repr_of_reads' R h1 (fun _ => hn) hG (by omega) (fun _ _ e => e) (fun h' u tk kp => ⟨.str q.shown, H, I.kept kp, ⟨u, rfl⟩, up_at up rs (d := .str q.shown) rfl hk⟩) h4
end Q
namespace Q
open PySem
open Spec PyProof.Rows L2
/-! ### isinstance of an exception, by an own class or ValueError -/
structure IsxC (K : PySem.W.Frag) (D : Addr) : Prop where
  ca : PySem.W.findIn K (.ref D) "__class__" = some (some (.builtin "object.__class__"))
  gs : PySem.W.specialIn K (.builtin "object.__class__") "__get__" = some (some (.builtin "getset_descriptor.__get__"))
  tk : PySem.W.takesIn K (.builtin "object.__class__") = some true
  mo : PySem.W.mroIn K D (.type "object") = some true
/-- the check that the head makes for the class of an exception -/
def isC (x : Str) : Chk := fun K => decide (PySem.W.findIn K (.ref (He.ga K x)) "__class__" = some (some (.builtin "object.__class__"))) && (decide (PySem.W.specialIn K (.builtin "object.__class__") "__get__" = some (some (.builtin "getset_descriptor.__get__"))) &&
  (decide (PySem.W.takesIn K (.builtin "object.__class__") = some true) && (decide (PySem.W.mroIn K (He.ga K x) (.type "object") = some true) && (decide (PySem.W.kitOne K (.ref (He.ga K x)) (.type "ValueError") = some true) &&
  exNs.all fun y => match PySem.W.nsIn K mainGlobals y with
    | some (some (.ref C)) => decide (PySem.W.kitOne K (.ref (He.ga K x)) (.ref C) = some (exSub x y))
    | _ => true))))
structure IsxS (K : PySem.W.Frag) (x : Str) : Prop where
  c : IsxC K (He.ga K x)
  ve : PySem.W.kitOne K (.ref (He.ga K x)) (.type "ValueError") = some true
  sub : ∀ y ∈ exNs, ∀ C, PySem.W.nsIn K mainGlobals y = some (some (.ref C)) → PySem.W.kitOne K (.ref (He.ga K x)) (.ref C) = some (exSub x y)
theorem isC_ok {K : PySem.W.Frag} {x : Str} (q : isC x K = true) : IsxS K x := by
  unfold isC at q
  obtain ⟨q1, q⟩ := Bool.and_eq_true_iff.mp q
  obtain ⟨q2, q⟩ := Bool.and_eq_true_iff.mp q
  obtain ⟨q3, q⟩ := Bool.and_eq_true_iff.mp q
  obtain ⟨q4, q⟩ := Bool.and_eq_true_iff.mp q
  obtain ⟨q5, q⟩ := Bool.and_eq_true_iff.mp q
  refine ⟨⟨of_decide_eq_true q1, of_decide_eq_true q2, of_decide_eq_true q3, of_decide_eq_true q4⟩, of_decide_eq_true q5, fun y hy C hC => ?_⟩
  have h := List.all_eq_true.mp q y hy
  rw [hC] at h
  exact of_decide_eq_true h
def rIsx (K : PySem.W.Frag) : List V → Hp → VK → Prop := fun xs H Q => ∃ (a D dx : Addr) (fs : List (Str × V)) (c : V) (cv : Value) (b : Bool), xs = [.ref a, c] ∧ H a = some (ExV (.ref D) (some dx) a) ∧ H dx = some (.xd fs) ∧ XfC K D ∧ IsxC K D ∧ (∀ u, RelV c u → u = cv) ∧ PySem.W.kitOne K (.ref D) cv = some b ∧ Q (.bl b) H
theorem call_isx {X : Cx} : CallR X (.builtin "isinstance") (rIsx X.K) := by
  intro pins s σ H xs us Q I r h
  obtain ⟨a, D, dx, fs, c, cv, b, rfl, ha, hd, F, C, hc, e, q⟩ := h
  obtain ⟨u1, u2, rfl, r1, r2⟩ := vals2 r
  cases (show u1 = Value.ref a from r1)
  have ec := hc _ r2
  subst ec
  obtain ⟨⟨oe, vs, hg, hz, hf⟩, _⟩ := (I.hok a _ ha)
  obtain ⟨od, ho⟩ := objOk_get (I.hok dx _ hd)
  have J : PySem.W.InstAt s.heap a oe D (some od) := ⟨hg, hz.1, by unfold PySem.W.notCls; rw [hf], by rw [hz.2]; exact ho⟩
  have hcl : (PySem.W.clsIn X.K D).isSome = true := by
    have h1 := F.hdC
    unfold PySem.W.hasDictIn at h1
    cases e : PySem.W.clsIn X.K D with
    | none => rw [e] at h1; cases h1
    | some cd => rfl
  exact PySem.W.kia_one (PySem.W.kitx_exc hcl F.ga F.gg F.exC C.ca C.gs C.tk C.mo) I.kIn J e (fun z => nomatch z) fun tk => ⟨.bl b, H, I.tok tk, rfl, q⟩
def kIsx (exs : List Str) (r : Str → Bool) (k : KD) : KD := fun d S => match d with
  | .ref n => ∃ x e, S[n]? = some (.exo x e) ∧ x ∈ exs ∧ k (.bl (r x)) S
  | _ => False
/-- isinstance(e, Y), e an exception of one of some classes -/
def dIsx (exs : List Str) (y : Str) (te : TED) : TED := fun sg S k x => te sg S (kIsx exs (fun x => exSub x y) k) x
/-- isinstance(e, ValueError) -/
def dIsxV (exs : List Str) (te : TED) : TED := fun sg S k x => te sg S (kIsx exs (fun _ => true) k) x
section
variable {X : Cx} {E : XK} {e : Expr} {te : TED} {pos p p2 : Pos} {y : Str} {exs : List Str}
theorem q_isx (he : QE X E e te) (hC : ∀ x ∈ exs, isC x X.K = true) (hg : Gl X "isinstance") (hm : X.mg "isinstance" = none) (gY : Gl X y) (xY : exB X.K y = true) (mY : X.mg y = some (.ref (He.ga X.K y))) (hy : y ∈ exNs := by decide) (hd : (y == ("__debug__" : Str)) = false := by decide)
    (hs1 : starEach [e, .Name y p2] X.env = (false, eval e X.env) :: starEach [.Name y p2] X.env := by rfl) (hs2 : starEach [.Name y p2] X.env = (false, eval (.Name y p2) X.env) :: starEach [] X.env := by rfl) (hpl : (backTo pos (starEach [.Name y p2] X.env)).any (·.1) = false := by rfl) :
    QE X E (.Call (.Name "isinstance" p) [e, .Name y p2] [] pos) (dIsx exs y te) := by
  refine pe_imp (pe_callB call_isx hg hm boot_isinstance (pa_cons he (pa_cons (pe_glob (v := .ref (He.ga X.K y)) gY mY rfl hd) pa_nil hs2) hs1) (by decide) (by decide) hs1 hpl) fun s H Q ⟨sg, al, S, kd, xd, rs, rl, q, up, ux⟩ => ?_
  refine ⟨sg, al, S, _, xd, rs, rl, q, fun d S1 al1 H1 v f1 r1 q1 => ?_, ux⟩
  cases d with
  | ref n =>
    obtain ⟨x, d2, hn, hx, q1⟩ := q1
    obtain ⟨a, ea, ha⟩ := r1
    subst ea
    obtain ⟨hB, dx, w, h1, h2, _⟩ := f1.rs.ob n _ a hn ha
    have hS := isC_ok (hC x hx)
    exact ⟨a, _, dx, _, .ref (He.ga X.K y), .ref (He.ga X.K y), exSub x y, rfl, h1, h2, (exB_ok hB).xf, hS.c, fun u z => z, hS.sub y hy _ (exB_ok xY).ns, (up.mono f1) (.bl (exSub x y)) S1 al1 H1 _ (.now f1.rs) rfl q1⟩
  | _ => exact q1.elim
theorem q_isxV (he : QE X E e te) (hC : ∀ x ∈ exs, isC x X.K = true) (hg : Gl X "isinstance") (hm : X.mg "isinstance" = none) (gT : Gl X "ValueError") (mT : X.mg "ValueError" = none)
    (hs1 : starEach [e, .Name "ValueError" p2] X.env = (false, eval e X.env) :: starEach [.Name "ValueError" p2] X.env := by rfl) (hs2 : starEach [.Name "ValueError" p2] X.env = (false, eval (.Name "ValueError" p2) X.env) :: starEach [] X.env := by rfl) (hpl : (backTo pos (starEach [.Name "ValueError" p2] X.env)).any (·.1) = false := by rfl) :
    QE X E (.Call (.Name "isinstance" p) [e, .Name "ValueError" p2] [] pos) (dIsxV exs te) := by
  refine pe_imp (pe_callB call_isx hg hm boot_isinstance (pa_cons he (pa_cons (pe_bltn (v := .ty "ValueError") gT mT (by rfl) rfl (by decide) (by decide)) pa_nil hs2) hs1) (by decide) (by decide) hs1 hpl) fun s H Q ⟨sg, al, S, kd, xd, rs, rl, q, up, ux⟩ => ?_
  refine ⟨sg, al, S, _, xd, rs, rl, q, fun d S1 al1 H1 v f1 r1 q1 => ?_, ux⟩
  cases d with
  | ref n =>
    obtain ⟨x, d2, hn, hx, q1⟩ := q1
    obtain ⟨a, ea, ha⟩ := r1
    subst ea
    obtain ⟨hB, dx, w, h1, h2, _⟩ := f1.rs.ob n _ a hn ha
    have hS := isC_ok (hC x hx)
    exact ⟨a, _, dx, _, .ty "ValueError", .type "ValueError", true, rfl, h1, h2, (exB_ok hB).xf, hS.c, fun u z => z, hS.ve, (up.mono f1) (.bl true) S1 al1 H1 _ (.now f1.rs) rfl q1⟩
  | _ => exact q1.elim
end
end Q
/-! own exceptions made with their value by name -/
namespace PySem
namespace QKW
open PySem.HandSPX Builtin Builtin.ObjectAttr
section
variable {h : Heap} {g : Array GenState} {d : Drawn} {t : Nat} {os : OsState} {kw : List (Str × Value)}
variable {nm q : Str} {C N : Addr} {bs bm bmB : List Value} {hdct ab : Bool} {sn : List Str} {sub : List Value} {col : Option Bool} {dd : Option Addr} {k0 k1 k2 k3 k5 : Option Value} {B nI iI : String}
theorem check_new_kw {M : Model} {A : Around} {E : Value → Shared → Prop} (F : ExcBaseFacts B nI iI bmB) (hT : ∀ Y : String, bm.contains (.type Y) = bmB.contains (.type Y)) {Q : Unit → Shared → Prop}
    (cl : h.get? C = some (excClassObj nm q C N bs bm hdct sn sub ab col dd k0 k1 k2 k3 k5 nI)) (go : Q () ⟨h, g, d, t, os⟩) : wpAny M A (checkBuiltinCall nI ⟨[.ref C], kw⟩) Q E ⟨h, g, d, t, os⟩ := by
  have has : (Value.ref C :: bm).contains (.type B) = true := by rw [List.contains_cons, hT, F.hasB, Bool.or_true]
  have ns := F.noStar
  simp only [checkBuiltinCall, F.newKind, F.newSplit, F.newRow]
  repeat (first | refine wpAny_loadPart_at cl ?_ | (refine wpAny_isSubtype_exc cl ?_; rw [has]) | refine wpAny_staticBase_exc cl ?_ | refine wpAny_madeBy_exc cl ?_ | simp only [bne_self_eq_false, Bool.false_eq_true, if_false] | wp_step)
  exact go
theorem check_call_kw {M : Model} {A : Around} {E : Value → Shared → Prop} {Q : Unit → Shared → Prop} (cl : h.get? C = some (excClassObj nm q C N bs bm hdct sn sub ab col dd k0 k1 k2 k3 k5 nI))
    (go : Q () ⟨h, g, d, t, os⟩) : wpAny M A (checkBuiltinCall "type.__call__" ⟨[.ref C], kw⟩) Q E ⟨h, g, d, t, os⟩ := by
  have f := tc_sub
  have ty : (⟨h, g, d, t, os⟩ : Shared).TypeIs (.ref C) "type" := ⟨_, cl, rfl⟩
  simp only [checkBuiltinCall, tc_kind, tc_split]
  repeat (any_goals (first | assumption | with_reducible refine wpAny_loadPart_at cl ?_ | with_reducible refine wpAny_onRaise ?_ | with_reducible refine wpAny_map ?_ | wp_step))
  all_goals trace_state
end
section
variable {prog : Program} {w : World} {A : Around} {E : Value → Shared → Prop} {R : Result → Shared → Prop} {h : Heap} {g : Array GenState} {d : Drawn} {t : Nat} {os : OsState} {kw : List (Str × Value)}
variable {nm q : Str} {C N : Addr} {bs bm bmB : List Value} {hdct ab : Bool} {sn : List Str} {sub : List Value} {col : Option Bool} {dd : Option Addr} {k0 k1 k2 k3 k5 : Option Value} {B nI iI : String}
theorem new_kw (F : ExcBaseFacts B nI iI bmB) (hT : ∀ Y : String, bm.contains (.type Y) = bmB.contains (.type Y)) (cl : h.get? C = some (excClassObj nm q C N bs bm hdct sn sub ab col dd k0 k1 k2 k3 k5 nI))
    (go : R (.ok (.ret (.ref (h.objs.size + 1)))) ⟨(h.push { cls := .type "tuple", data := .seq #[] }).push { cls := .ref C, data := .fields #[.ref h.objs.size, .none, .none, .none, .bool false, .none] }, g, d, t, os⟩) :
    codeAny (model prog w) A (.builtin nI ⟨[.ref C], kw⟩) R ⟨h, g, d, t, os⟩ := by
  have en := F.ends
  have isB : (Value.ref C :: bm).contains (.type B) = true := by rw [List.contains_cons, hT, F.hasB, Bool.or_true]
  have noA : (Value.ref C :: bm).contains (.type "AttributeError") = false := by rw [List.contains_cons, hT, F.noAttr]; rfl
  have noN : (Value.ref C :: bm).contains (.type "NameError") = false := by rw [List.contains_cons, hT, F.noName]; rfl
  have z0 : ([] : List Value).length ≤ sizeLine := Nat.zero_le _
  refine codeAny_builtinAt F.entry ?_
  unfold Builtin.«BaseException.__new__»
  refine wpAt_bind ?_
  show wpAt _ _ _ (stack >>= _) _ _ _
  refine wpAt_bind (wpAt_stack fun p below => wpAt_of_wpAny ?_)
  wp_walk
  refine wpAt_of_wpAny ?_
  rw [F.owner]
  repeat (first | with_reducible refine wpAny_madeHere_exc F.canon cl ?_ | with_reducible refine wpAny_loadPart_at cl ?_ | (with_reducible refine wpAny_isSubtype_exc cl ?_; first | rw [isB] | rw [noA] | rw [noN]) | wp_step)
  show R _ _
  rw [Heap.size_push]
  exact go
theorem type_call_kw (F : ExcBaseFacts B nI iI bmB) (hT : ∀ Y : String, bm.contains (.type Y) = bmB.contains (.type Y)) {fI : Addr} {Q : Fin → Shared → Prop} (cl : h.get? C = some (excClassObj nm q C N bs bm hdct sn sub ab col dd k0 k1 k2 k3 k5 nI))
    (li : W.Looks (model prog w) h (typeLookup (.ref C) "__init__") (some (.ref fI))) (lb : ∀ self, W.Looks (model prog w) h (bindSpecial (.ref fI) self) (.ref fI, [self]))
    (go : codeAny (model prog w) A (.call (.ref fI) ⟨[.ref (h.objs.size + 1)], kw⟩) (fun r s' => match r with | .ok (.ret v) => v = .none ∧ Q (.done (.ret (.ref (h.objs.size + 1)))) s' | .ok _ => False | .error e => E e s')
      ⟨(h.push (W.kdv_tup [])).push (excO C h.objs.size), g, d, t, os⟩) : wpAny (model prog w) A (Builtin.«type.__call__» ⟨[.ref C], kw⟩) Q E ⟨h, g, d, t, os⟩ := by
  repeat (first | with_reducible refine wpAny_loadPart_at cl ?_ | with_reducible refine wpAny_madeBy_exc cl ?_ | wp_step)
  refine codeAny_call_builtin_code (Code.quiet_builtin _ F.quiet) (check_new_kw F hT cl ?_)
  refine new_kw F hT cl ?_
  show wpAny _ _ _ _ _ _
  have up : ∀ b o, h.get? b = some o → ((h.push (W.kdv_tup [])).push (excO C h.objs.size)).get? b = some o := fun b o e => Heap.get?_push_of_some _ (Heap.get?_push_of_some _ e)
  have cl1 := up _ _ cl
  have made : ((h.push (W.kdv_tup [])).push (excO C h.objs.size)).get? (h.objs.size + 1) = some (excO C h.objs.size) := by heap_get
  have inC : (Value.ref C :: bm).contains (.ref C) = true := by simp
  have i1 := li.keeps up
  have b1 := (lb (.ref (h.objs.size + 1))).keeps up
  unfold isInstance
  repeat (first | with_reducible refine wpAny_loadPart_at made ?_ | (with_reducible refine wpAny_isSubtype_exc cl1 ?_; rw [inC]) | wp_step)
  show wpAny _ _ (typeLookup (.ref C) _) _ _ _
  refine i1.at ?_
  refine wpAny_holding (wpAny_bind (b1.at ?_))
  refine wpAny_bind (wpAny_call (codeAny_mono go fun r s' z => ?_))
  rcases r with e | (v | _ | _ | _) <;> first | exact z | exact z.elim | skip
  obtain ⟨rfl, z⟩ := z
  first
    | exact wpAny_pure (wpAny_pure z)
    | (wp_walk; exact z)
/-- C(name=..) of an own class over ValueError with an own __init__ -/
theorem call_kw (F : ExcBaseFacts B nI iI bmB) (hT : ∀ Y : String, bm.contains (.type Y) = bmB.contains (.type Y)) {fI : Addr} (cl : h.get? C = some (excClassObj nm q C N bs bm hdct sn sub ab col dd k0 k1 k2 k3 k5 nI))
    (li : W.Looks (model prog w) h (typeLookup (.ref C) "__init__") (some (.ref fI))) (lb : ∀ self, W.Looks (model prog w) h (bindSpecial (.ref fI) self) (.ref fI, [self]))
    (go : codeAny (model prog w) (A.under (.builtin "type.__call__" ⟨[.ref C], kw⟩)) (.call (.ref fI) ⟨[.ref (h.objs.size + 1)], kw⟩) (W.InitBack (h.objs.size + 1) R) ⟨(h.push (W.kdv_tup [])).push (excO C h.objs.size), g, d, t, os⟩) :
    codeAny (model prog w) A (.call (.ref C) ⟨[], kw⟩) R ⟨h, g, d, t, os⟩ := by
  have f1 := tc_lookup
  have f2 := tc_bind (.ref C)
  have ty : (⟨h, g, d, t, os⟩ : Shared).TypeIs (.ref C) "type" := ⟨_, cl, rfl⟩
  refine codeAny_of_tree ?_
  show wpAny _ _ (callAny (.ref C) _) _ _ _
  repeat (any_goals (first | assumption | with_reducible refine wpAny_loadPart_at cl ?_ | wp_step))
  refine ⟨rfl, ?_⟩
  refine codeAny_call_builtin_at (Code.quiet_builtin _ (by decide +kernel)) entry_typeCall (check_call_kw cl (type_call_kw F hT cl li lb ?_))
  refine codeAny_mono go fun r s' z => ?_
  rcases r with e | (v | _ | _ | _) <;> exact z
end
end QKW
end PySem
namespace Q
open PySem
open Spec PyProof.Rows L2
section
variable {X : Cx} {x : Str} {C fI : Addr} {k : Nat} {fd : FuncData} {kws : List Keyword} {tk : TA} {p pos : Pos}
/-- C(value=..): the exception is made -/
theorem pmk_kw (T : OexC X.K C) (iC : PySem.W.findIn X.K (.ref C) "__init__" = some (some (.ref fI))) (tI : PySem.W.typeIn X.K (.ref fI) = some (.type "function")) (F1 : FnOk X.prog X.w X.K X.mg X.base (L2.CX X.prog X.w) k fI fd ["self", "value"] (spI X.K)) (hr : Room (k + 1) X.A)
    (hb : KB X.K fd ["self", "value"] 1 (["value"] : List Str) [0]) (hg : Gl X x) (hm : X.mg x = some (.ref C)) (ha : PK X kws tk) (hall : (backToKw pos (keywordEach kws X.env)).all (·.1.isSome) = true := by rfl) (hks : (backToKw pos (keywordEach kws X.env)).filterMap (·.1) = (["value"] : List Str) := by rfl)
    (hdb : (x == ("__debug__" : Str)) = false := by decide) (hpl : ((backTo pos (starEach [] X.env)).any (·.1) || (backToKw pos (keywordEach kws X.env)).any (·.1.isNone)) = false := by rfl) :
    PMk X (.Call (.Name x p) [] kws pos) (fun σ H Q => tMkO C (spI X.K) [] tk σ H Q) := by
  intro pins s σ H Q I h
  obtain ⟨nm, q, N, bs, bm, sn, sub, ab, col, dd, k0, k1, k2, k3, k5, hC, hbm⟩ := T.cls
  refine wpAny_Call_Name_kw (ld_glob I hg hm ?_ hdb)
  refine PySem.W.callWith_KW0 (h₀ := X.base) I.ok.mod.kin T.kC hall (thn (ha.run pos pins s σ H _ I h) fun ws s1 ⟨zs, H1, I1, rz, lz, q1⟩ => ⟨I1.kIn, ?_⟩) hpl
  rw [hks]
  show wpAny _ _ (call (.ref C) [] ((["value"] : List Str).zip ws)) _ _ _
  obtain ⟨hp, g, dr, tk, os⟩ := s1
  have big : hp.objs.size ≤ hp.objs.size + 1 := Nat.le_succ _
  have nH : H1 (hp.objs.size + 1) = none := I1.hok.fresh big
  have sI := q1 (hp.objs.size + 1) nH
  obtain ⟨a0, C0, v0, ev, _⟩ := id sI
  have lw : zs.length = 1 := by
    have := congrArg List.length ev
    simpa using this
  have up : ∀ b o, hp.get? b = some o → ((hp.push (PySem.W.kdv_tup [])).push (PySem.HandSPX.excO C hp.objs.size)).get? b = some o := fun b o e => Heap.get?_push_of_some _ (Heap.get?_push_of_some _ e)
  have made : ((hp.push (PySem.W.kdv_tup [])).push (PySem.HandSPX.excO C hp.objs.size)).get? (hp.objs.size + 1) = some (PySem.HandSPX.excO C hp.objs.size) := by heap_get
  have J : Inv X pins σ (upd H1 (hp.objs.size + 1) (exo (hp.objs.size + 1) C none)) ⟨(hp.push (PySem.W.kdv_tup [])).push (PySem.HandSPX.excO C hp.objs.size), g, dr, tk, os⟩ :=
    I1.laid (t' := tk) (a := hp.objs.size + 1) (o := exo (hp.objs.size + 1) C none) (h' := (hp.push (PySem.W.kdv_tup [])).push (PySem.HandSPX.excO C hp.objs.size)) up big (exo_ok made)
  have rs : Vals [V.ref (hp.objs.size + 1)] [Value.ref (hp.objs.size + 1)] := .cons rfl .nil
  have lws : ws.length = 1 := by rw [← Paired.length rz, lw]
  have e0 : pick [0] zs = zs := by
    obtain ⟨z, rfl⟩ := len1 lw
    rfl
  have e1 : pick [0] ws = ws := by
    obtain ⟨z, rfl⟩ := len1 lws
    rfl
  have rall : Vals ([V.ref (hp.objs.size + 1)] ++ zs) ([Value.ref (hp.objs.size + 1)] ++ ws) := rs.append rz
  have bind := hb.to ⟨(hp.push (PySem.W.kdv_tup [])).push (PySem.HandSPX.excO C hp.objs.size), g, dr, tk, os⟩ [Value.ref (hp.objs.size + 1)] ws rfl lws
  rw [e1] at bind
  have sI2 := sI
  rw [List.append_nil] at sI2
  refine wpAny_call (PySem.QKW.call_kw F.excBase_ValueError (fun Y => PySem.HandSPX.refsVE_contains Y bm hbm) (I1.kIn _ _ hC) (PySem.W.looks_findIn I1.kIn iC) (fun self => PySem.W.bind_fn I1.kIn self tI)
    (codeAny_mono (F1.run _ X.stack _ _ ⟨[Value.ref (hp.objs.size + 1)], (["value"] : List Str).zip ws⟩ ([Value.ref (hp.objs.size + 1)] ++ ws) ([V.ref (hp.objs.size + 1)] ++ zs) _ (fun _ _ _ => False) (hr.make C [] _) (J.env0.make C [] _) bind rall sI2) fun r s' hq' => ?_))
  cases r with
  | error er => exact (passL : Passes (L2.CX X.prog X.w) X (fun _ _ _ => False)) pins σ _ _ er s' J hq'
  | ok fl =>
    cases fl with
    | ret u =>
      obtain ⟨v, H2, os2, bare2, un2, hok2, rv, ev, d, fs, ea, ed, hd1, q2⟩ := hq'
      subst ev
      obtain ⟨h2, g2, d2, t2, os'⟩ := s'
      exact ⟨rv, mk_end (raises_own T.exC T.tyC) I1 big up un2 hok2 os2 bare2 ea ed hd1 q2⟩
    | next => exact False.elim hq'
    | brk => exact False.elim hq'
    | cont => exact False.elim hq'
end
/-! ### an exception made, and not raised -/
theorem inv_track2 {X : Cx} {pins : List (Addr × Obj)} {σ : L2.St} {H : Hp} {s : Shared} {a : Addr} {oe : Obj} {vs : Array Value} {o : HO} (I : Inv X pins σ H s) (ha : s.heap.get? a = some oe) (hd : oe.data = .fields vs) (na : H a = none) (n0 : a ∉ X.ex → X.s_0.heap.get? a = none) (nL : a ≠ X.env.locals)
    (nP : ∀ p ∈ X.pn ++ pins, p.1 ≠ a) (ho : ObjOk X.prog X.w (upd H a o) s.heap a o) : Inv X pins σ (upd H a o) s := by
  have nC : ∀ x c, X.env.cells.lookup x = some c → c ≠ a := fun x c e z => by
    obtain ⟨v, o2, e1, e2⟩ := I.cell x c e
    rw [z, ha] at e1
    cases e1
    rw [hd] at e2
    cases e2
  refine ⟨I.ok, I.os, I.bare, ⟨I.base.keep, I.base.slot, fun b u e n hx => ?_, I.base.there, fun b xs e => ?_, fun b u z e => ?_, fun b ps e => ?_⟩, I.loc, I.cell, ?_, fun x c e => ?_, fun p hp => ?_, fun b u e => ?_, I.len⟩
  · rw [upd_ne (fun z => by subst z; rw [n0 hx] at e; cases e)]
    exact I.base.free b u e n hx
  · have e2 := I.base.tups b xs e
    rw [upd_ne (ne_of_none e2 na)]
    exact e2
  · have e2 := I.base.frzs b u z e
    rw [upd_ne (ne_of_none e2 na)]
    exact e2
  · obtain ⟨more, e2⟩ := I.base.tbls b ps e
    exact ⟨more, by rw [upd_ne (ne_of_none e2 na)]; exact e2⟩
  · rw [upd_ne nL.symm]
    exact I.free
  · rw [upd_ne (nC x c e)]
    exact I.freeC x c e
  · obtain ⟨p1, p2, p3⟩ := I.pin p hp
    exact ⟨p1, by rw [upd_ne (nP p hp)]; exact p2, p3⟩
  · by_cases hb : b = a
    · subst hb
      rw [upd_same] at e
      cases e
      exact ho
    · rw [upd_ne hb] at e
      exact (I.hok b u e).stay (fun c w hc q => q) (fun c hc => by rw [upd_ne (ne_of_none hc na)]; exact hc) fun c xs hc => by rw [upd_ne (ne_of_none hc na)]; exact hc
theorem mk_rest {X : Cx} {pins : List (Addr × Obj)} {σ : L2.St} {Q : XK} {u : Value} {s : Shared} (h : MkP X pins σ Q u s) : ∃ (a : Addr) (cls : Value) (d : Option Addr) (H : Hp), u = .ref a ∧ H a = none ∧ Inv X pins σ (upd H a (ExV cls d a)) s ∧ Q cls d H := by
  obtain ⟨a, oe, vs, sI, H, cls, d, rfl, J, k, hne, ha, hz, hd, h1, na, os, ag, r, q⟩ := h
  have J2 : Inv X pins σ H s := J.call' (ch := []) os
    ⟨fun b o e _ _ _ => k b o e, fun b o e _ _ _ => ⟨o.slots, k b o e⟩, fun _ _ _ n _ => n, fun b o e _ => ⟨o, k b o e⟩, fun _ _ e => e, fun _ _ _ e => e, fun b ps e => ⟨#[], by rw [e]; simp⟩⟩
    (J.hok.kept k) ag (fun _ z => nomatch z)
  refine ⟨a, cls, d, H, rfl, na, inv_track2 J2 ha hd na (fun hx => ?_) ?_ (fun p hp z => ?_) (exV_ok ha hz hd), q⟩
  · cases e : X.s_0.heap.get? a with
    | none => rfl
    | some o =>
      obtain ⟨o2, e2⟩ := J.base.there a o e hx
      rw [hne] at e2
      cases e2
  · intro z
    obtain ⟨m, hns, _⟩ := J.loc
    obtain ⟨o, es, ep, e1, e2, _⟩ := hns
    rw [← z, hne] at e1
    cases e1
  · have := (J.pin p hp).1
    rw [z, hne] at this
    cases this
theorem pe_xnew {X : Cx} {e : Expr} {t : L2.St → Hp → XK → Prop} (h : PMk X e t) : PE X e (fun σ H Q => t σ H fun cls d H1 => ∀ a, H1 a = none → Q (.ref a) (upd H1 a (ExV cls d a))) :=
  ⟨fun pins s σ H Q I q => wpAny_mono (h pins s σ H _ I q) (fun u s1 hu => by
    obtain ⟨a, cls, d, H1, rfl, na, J, q1⟩ := mk_rest hu
    exact ⟨.ref a, _, J, rfl, q1 a na⟩) fun _ _ z => z⟩
/-! ### the rules -/
def kOne (k : KD) : List D → Sto → Prop := fun ds S => match ds with
  | [d] => k d S
  | _ => False
/-- C(e).value -/
def dXnew (ta : TAD) : TED := fun sg S k x => ta sg S (kOne k) x
structure IniK (P : Program) (w : World) (K : PySem.W.Frag) (mg : Str → Option Value) (base : Heap) (fd : FuncData) : Prop where
  i : IniT P w K mg base fd
  kb : KB K fd ["self", "value"] 1 (["value"] : List Str) [0]
section
variable {X : Cx} {E : XK} {W : WX} {x : Str} {e : Expr} {es : List Expr} {kws : List Keyword} {ta : TAD} {p1 p2 pos : Pos} {fd : FuncData}
theorem q_raiseK (hc : X.calm = true) (I : IniK X.prog X.w X.K X.mg X.base fd) (hr : Room 2 X.A) (tk : Takes X (fun c d _ H => E c d H)) (hx : exB X.K x = true) (hm : X.mg x = some (.ref (He.ga X.K x))) (ha : QK X E kws ta) (hg : Gl X x := by rfl)
    (hall : (backToKw p2 (keywordEach kws X.env)).all (·.1.isSome) = true := by rfl) (hks : (backToKw p2 (keywordEach kws X.env)).filterMap (·.1) = (["value"] : List Str) := by rfl) (hdb : (x == ("__debug__" : Str)) = false := by decide)
    (hpl : ((backTo p2 (starEach [] X.env)).any (·.1) || (backToKw p2 (keywordEach kws X.env)).any (·.1.isNone)) = false := by rfl) : QS X E (.Raise (some (.Call (.Name x p1) [] kws p2)) none pos) (dRaise x ta) := by
  have C := exB_ok hx
  refine ps_imp (ps_raise hc tk (pmk_kw C.oex C.ini C.tyI I.i.ok hr I.kb hg hm ha hall hks hdb hpl)) fun De σ H ⟨sg, al, S, Dd, rs, rl, q, ue⟩ => ?_
  refine ⟨sg, al, S, kRaise x Dd, Dd.ex, rs, rl, q, fun ds S1 al1 H1 vs f1 r1 q1 => ?_, ue.ex⟩
  unfold kRaise at q1
  split at q1
  · rename_i d
    obtain ⟨v, u, ev, rv, eu⟩ := r1
    cases (show u = [] from eu)
    subst ev
    refine ⟨by show 1 ≤ 1000; decide, fun a na => ⟨a, He.ga X.K x, v, by simp, C.oex, C.val, upd_same, fun dx nd ne => ⟨rfl, dx, [("value", v)], upd_same, by rw [upd_ne ne, upd_same], by rwa [upd_ne ne] at nd, ?_⟩⟩⟩
    rw [upd_del2 na ne]
    have nd1 : H1 dx = none := by rwa [upd_ne ne] at nd
    have f2 : Fut X.K H1 al1 (upd H1 dx (.xd [("value", v)])) al1 S1 := Fut.lay f1.rs nd1
    exact ue.ex (x, d) S1 al1 _ _ _ (f1.trans f2) ⟨hx, dx, v, rfl, rfl, upd_same, f2.rd rv⟩ q1
  · exact q1.elim
theorem w_raiseK (hc : X.calm = true) (I : IniK X.prog X.w X.K X.mg X.base fd) (hr : Room 2 X.A) (tk : Takes X W) (hx : exB X.K x = true) (hm : X.mg x = some (.ref (He.ga X.K x))) (ha : ∀ E : XK, QK X E kws ta) (hg : Gl X x := by rfl)
    (hall : (backToKw p2 (keywordEach kws X.env)).all (·.1.isSome) = true := by rfl) (hks : (backToKw p2 (keywordEach kws X.env)).filterMap (·.1) = (["value"] : List Str) := by rfl) (hdb : (x == ("__debug__" : Str)) = false := by decide)
    (hpl : ((backTo p2 (starEach [] X.env)).any (·.1) || (backToKw p2 (keywordEach kws X.env)).any (·.1.isNone)) = false := by rfl) : QSw X W (.Raise (some (.Call (.Name x p1) [] kws p2)) none pos) (dRaise x ta) := by
  have C := exB_ok hx
  have hk : PK X kws (fun σ H Q => LA (cyW X W σ) ta σ H Q) := ⟨fun pos pins s σ H Q I q => (ha fun c d H => W c d σ H).run pos pins s σ H Q I q⟩
  refine ps_imp (ps_raise hc tk (pmk_kw C.oex C.ini C.tyI I.i.ok hr I.kb hg hm hk hall hks hdb hpl)) fun De σ H ⟨sg, al, S, Dd, rs, rl, q, ue⟩ => ?_
  refine ⟨sg, al, S, kRaise x Dd, Dd.ex, rs, rl, q, fun ds S1 al1 H1 vs f1 r1 q1 => ?_, ue.ex⟩
  unfold kRaise at q1
  split at q1
  · rename_i d
    obtain ⟨v, u, ev, rv, eu⟩ := r1
    cases (show u = [] from eu)
    subst ev
    refine ⟨by show 1 ≤ 1000; decide, fun a na => ⟨a, He.ga X.K x, v, by simp, C.oex, C.val, upd_same, fun dx nd ne => ⟨rfl, dx, [("value", v)], upd_same, by rw [upd_ne ne, upd_same], by rwa [upd_ne ne] at nd, ?_⟩⟩⟩
    rw [upd_del2 na ne]
    have nd1 : H1 dx = none := by rwa [upd_ne ne] at nd
    have f2 : Fut X.K H1 al1 (upd H1 dx (.xd [("value", v)])) al1 S1 := Fut.lay f1.rs nd1
    exact ue.ex (x, d) S1 al1 _ _ _ (f1.trans f2) ⟨hx, dx, v, rfl, rfl, upd_same, f2.rd rv⟩ q1
  · exact q1.elim
theorem q_xnew (I : IniT X.prog X.w X.K X.mg X.base fd) (hr : Room 2 X.A) (hx : exB X.K x = true) (hm : X.mg x = some (.ref (He.ga X.K x)))
    (ha : QA X E (e :: es) ta) (hg : Gl X x := by rfl) (hdb : (x == ("__debug__" : Str)) = false := by decide) (he : starEach (e :: es) X.env = (false, eval e X.env) :: starEach es X.env := by rfl) (hpl : (backTo p2 (starEach es X.env)).any (·.1) = false := by rfl)
    (hb : attributeBase (.Call (.Name x p1) (e :: es) [] p2) "value" X.env (eval (.Call (.Name x p1) (e :: es) [] p2) X.env) = eval (.Call (.Name x p1) (e :: es) [] p2) X.env := by rfl) :
    QE X E (.Attribute (.Call (.Name x p1) (e :: es) [] p2) "value" pos) (dXnew ta) := by
  have C := exB_ok hx
  refine pe_imp (pe_xv (pe_xnew (pmk_oex (dvs := []) C.oex C.ini C.tyI I.ok hr I.hb .nil passL hg hm ha hdb he hpl)) hb) fun σ H Q ⟨sg, al, S, kd, xd, rs, rl, q, up, ux⟩ => ?_
  refine ⟨sg, al, S, kOne kd, xd, rs, rl, q, fun ds S1 al1 H1 vs f1 r1 q1 => ?_, ux⟩
  unfold kOne at q1
  split at q1
  · rename_i d
    obtain ⟨v, u, ev, rv, eu⟩ := r1
    cases (show u = [] from eu)
    subst ev
    refine ⟨by show 1 ≤ 1000; decide, fun a na => ⟨a, He.ga X.K x, v, by simp, C.oex, C.val, upd_same, fun dx nd ne => ⟨rfl, dx, [("value", v)], upd_same, by rw [upd_ne ne, upd_same], by rwa [upd_ne ne] at nd, fun a2 na2 => ?_⟩⟩⟩
    rw [upd_del2 na ne] at na2 ⊢
    have nd1 : H1 dx = none := by rwa [upd_ne ne] at nd
    have f2 : Fut X.K H1 al1 (upd H1 dx (.xd [("value", v)])) al1 S1 := Fut.lay f1.rs nd1
    have f3 : Fut X.K (upd H1 dx (.xd [("value", v)])) al1 (upd (upd H1 dx (.xd [("value", v)])) a2 (ExV (.ref (He.ga X.K x)) (some dx) a2)) al1 S1 := Fut.lay f2.rs na2
    have hne : dx ≠ a2 := fun z => by
      rw [← z, upd_same] at na2
      cases na2
    exact ⟨a2, He.ga X.K x, dx, [("value", v)], v, rfl, upd_same, C.xf, C.val, by rw [upd_ne hne, upd_same], rfl, up d S1 al1 _ v (f1.trans (f2.trans f3)) ((f2.trans f3).rd rv) q1⟩
  · exact q1.elim
end
end Q
namespace Q
open PySem
open Spec PyProof.Rows L2
def exsL : List Str := ["TellError", "InvalidBook", "InvalidWord", "InvalidNumber", "InvalidKey", "InvalidCell", "InvalidRow", "InvalidLot", "InvalidTable", "InvalidValues", "InvalidRoad", "InvalidSeats", "NotFree", "NoTable", "NoSeats", "InvalidPlacing", "InvalidChain", "InvalidMixing", "InvalidFilter", "InvalidName", "HasCore", "NotGood", "UnknownName", "NothingToUndo", "Unreadable", "Unorderly"]
end Q
namespace Lk
open PySem PySem.Spec PyProof.Rows L2 Q
def top (i : Nat) : Stmt := PySem.Challenge.pw_keytellers_k00_errors.main.body.getD i (.Pass ⟨0, 0, 0, 0⟩)
abbrev FnP (K : PySem.W.Frag) (x : Str) (st : Stmt) (f : Addr) (fd : FuncData) : Prop := FunD K x x (defArgs st) (defBody st) (defScope st) [] [] f fd
abbrev s__law_deck : Stmt := top 28
abbrev s__law_take : Stmt := top 29
abbrev s__law_same : Stmt := top 30
abbrev s__law_raise_first : Stmt := top 31
abbrev s__law_raise_second : Stmt := top 32
abbrev s__law_raise_named_first : Stmt := top 33
abbrev s__law_raise_named_second : Stmt := top 34
abbrev s__law_raised : Stmt := top 35
abbrev s__law_kinds : Stmt := top 36
abbrev s__law_given : Stmt := top 37
abbrev s__law_right : Stmt := top 38
abbrev s__law_base_right : Stmt := top 39
abbrev s_law : Stmt := top 40
abbrev s_init : Stmt := clsDef 0 (top 1)
def d__law_deck : He.DefD := ⟨("_law_deck", none), "_law_deck", "_law_deck", defArgs s__law_deck, defBody s__law_deck, defScope s__law_deck, [], []⟩
def d__law_take : He.DefD := ⟨("_law_take", none), "_law_take", "_law_take", defArgs s__law_take, defBody s__law_take, defScope s__law_take, [], []⟩
def d__law_same : He.DefD := ⟨("_law_same", none), "_law_same", "_law_same", defArgs s__law_same, defBody s__law_same, defScope s__law_same, [], []⟩
def d__law_raise_first : He.DefD := ⟨("_law_raise_first", none), "_law_raise_first", "_law_raise_first", defArgs s__law_raise_first, defBody s__law_raise_first, defScope s__law_raise_first, [], []⟩
def d__law_raise_second : He.DefD := ⟨("_law_raise_second", none), "_law_raise_second", "_law_raise_second", defArgs s__law_raise_second, defBody s__law_raise_second, defScope s__law_raise_second, [], []⟩
def d__law_raise_named_first : He.DefD := ⟨("_law_raise_named_first", none), "_law_raise_named_first", "_law_raise_named_first", defArgs s__law_raise_named_first, defBody s__law_raise_named_first, defScope s__law_raise_named_first, [], []⟩
def d__law_raise_named_second : He.DefD := ⟨("_law_raise_named_second", none), "_law_raise_named_second", "_law_raise_named_second", defArgs s__law_raise_named_second, defBody s__law_raise_named_second, defScope s__law_raise_named_second, [], []⟩
def d__law_raised : He.DefD := ⟨("_law_raised", none), "_law_raised", "_law_raised", defArgs s__law_raised, defBody s__law_raised, defScope s__law_raised, [], []⟩
def d__law_kinds : He.DefD := ⟨("_law_kinds", none), "_law_kinds", "_law_kinds", defArgs s__law_kinds, defBody s__law_kinds, defScope s__law_kinds, [], []⟩
def d__law_given : He.DefD := ⟨("_law_given", none), "_law_given", "_law_given", defArgs s__law_given, defBody s__law_given, defScope s__law_given, [], []⟩
def d__law_right : He.DefD := ⟨("_law_right", none), "_law_right", "_law_right", defArgs s__law_right, defBody s__law_right, defScope s__law_right, [], []⟩
def d__law_base_right : He.DefD := ⟨("_law_base_right", none), "_law_base_right", "_law_base_right", defArgs s__law_base_right, defBody s__law_base_right, defScope s__law_base_right, [], []⟩
def d_law : He.DefD := ⟨("law", none), "law", "law", defArgs s_law, defBody s_law, defScope s_law, [], []⟩
def d_init : He.DefD := ⟨("TellError", some "__init__"), "__init__", "TellError.__init__", defArgs s_init, defBody s_init, defScope s_init, [], []⟩
def fn : List He.DefD := [d__law_deck, d__law_take, d__law_same, d__law_raise_first, d__law_raise_second, d__law_raise_named_first, d__law_raise_named_second, d__law_raised, d__law_kinds, d__law_given, d__law_right, d__law_base_right, d_law, d_init]
def fa : List He.Fa := [.glo "_law_deck", .glo "_law_take", .glo "_law_same", .glo "_law_raise_first", .glo "_law_raise_second", .glo "_law_raise_named_first", .glo "_law_raise_named_second", .glo "_law_raised", .glo "_law_kinds", .glo "_law_given", .glo "_law_right", .glo "_law_base_right", .glo "law", .free "len", .free "int", .free "isinstance", .free "tuple", .free "list", .free "range", .free "str", .free "bool", .free "ValueError", .free "max", .free "min", .glo "InvalidBook", .glo "InvalidWord", .glo "InvalidNumber", .glo "InvalidKey", .glo "InvalidCell", .glo "InvalidRow", .glo "InvalidLot", .glo "InvalidTable", .glo "InvalidValues", .glo "InvalidRoad", .glo "InvalidSeats", .glo "NotFree", .glo "NoTable", .glo "NoSeats", .glo "InvalidPlacing", .glo "InvalidChain", .glo "InvalidMixing", .glo "InvalidFilter", .glo "InvalidName", .glo "HasCore", .glo "NotGood", .glo "UnknownName", .glo "NothingToUndo", .glo "Unreadable", .glo "Unorderly", .glo "TellError"]
def bf : List (Str × Value) := []
abbrev R : PySem.W.OpenRow := PySem.W.OpenLaw.row PySem.Challenge.rw_keytellers_k00_errors
def cs : List Chk := [veC, fun K => exB K "InvalidBook", fun K => exB K "InvalidWord", fun K => exB K "InvalidNumber", fun K => exB K "InvalidKey", fun K => exB K "InvalidCell", fun K => exB K "InvalidRow", fun K => exB K "InvalidLot", fun K => exB K "InvalidTable", fun K => exB K "InvalidValues", fun K => exB K "InvalidRoad", fun K => exB K "InvalidSeats", fun K => exB K "NotFree", fun K => exB K "NoTable", fun K => exB K "NoSeats", fun K => exB K "InvalidPlacing", fun K => exB K "InvalidChain", fun K => exB K "InvalidMixing", fun K => exB K "InvalidFilter", fun K => exB K "InvalidName", fun K => exB K "HasCore", fun K => exB K "NotGood", fun K => exB K "UnknownName", fun K => exB K "NothingToUndo", fun K => exB K "Unreadable", fun K => exB K "Unorderly", fun K => exB K "TellError", fun K => exsL.all fun x => isC x K]
abbrev hk : PySem.W.Hook := hookC 5 cs bf fa fn
def ob (s : PySem.W.SharedT) : AlC := obsCG 5 cs bf fa fn (HandSHeadRun.getT s)
theorem ob_eq (s : PySem.W.SharedT) : ob s = hk.obs s.abs := obsCG_eq (HandSHeadRun.getT_eq s)
def loose0 : List Str := ["TellError", "InvalidBook", "InvalidWord", "InvalidNumber", "InvalidKey", "InvalidCell", "InvalidRow", "InvalidLot", "InvalidTable", "InvalidValues", "InvalidRoad", "InvalidSeats", "NotFree", "NoTable", "NoSeats", "InvalidPlacing", "InvalidChain", "InvalidMixing", "InvalidFilter", "InvalidName", "HasCore", "NotGood", "UnknownName", "NothingToUndo", "Unreadable", "Unorderly", "_law_deck", "_law_take", "_law_same", "_law_raise_first"]
def loose1 : List Str := ["_law_raise_second", "_law_raise_named_first", "_law_raise_named_second", "_law_raised", "_law_kinds", "_law_given", "_law_right", "_law_base_right"]
abbrev loose : List Str := loose0 ++ loose1
theorem run (w : World) : HandSHeadRun.RunEq R (PySem.W.view R.prog [40]) hk ob 20000 loose w := by
  intro os
  kernel_rfl
end Lk
open Q
local macro_rules | `(tactic| walk_at "dx") => `(tactic| try simp only [dSeq, dDrop, kDrop, dRet, dRetN, dIf, kIf, dNever, dNext, dBreak, dCont, dSet, kSet, dPar, kPar, dPar3, kPar3, dAug, kAug, dAsg, kAsg, gNm, gsNil, gsCons, gTp, gUl, gSb, kGs1, kGs2, rSet, dFor, kFor, dLc, dYes, wipeD, dRaise, kRaise, dTry, wTry, clrM, clrD, putD', dXv, kXv, dXnew, kOne,
  dC, dVar, dUn, dOp, kOp1, kOp2, dTst, kB, dAnd, kAnd, dOr, kOr, dNot, kNot, dAndV, kAndV, dOrV, kOrV, dNotV, kNotV, dIfE, kIfE, dNil, dCons, kCons1, kCons2, dTup, kTup, dLst, kLst, dCall, kCall, spN, dCallK, kCK1, kCK2, pick, dMet, kM1, kM2, isLst, rApp, dSl, kSl1, kSl2, kSl3, rSl, dNoP, dPart, kPart,
  rAdd, rSub, rMul, rMulT, rMulN, rInP, rFdiv, rMod, rPow, rShl, rShr, rAnd, rXor, rNeg, rEq, rNe, rLt, rLe, rGt, rGe, rIs, rIsNot, isNon, rIx, rIsi, rIsi2, isTy, spLen, spInt, spTuple, spAll, spAny, spMax, spMin, spAbs, spList, rIn, rNotIn, rIns, dRevL, kRev, dBack, kBack, dLc2, iEn, kEn, dSrtSet, kSrtSet, dChain, kCh1, kCh2, kCh3, iZp, kZp, dLenNew, dLenSet, kLenSet, kLenNew, dDicE, dDisp, dIsx, dIsxV, isDic, rDset, dDget, kDg1, kDg2, dDget2, kDh1, kDh2, kDh3, rDget, gDb, kGd1, kGd2, dStp, kSt0, kSt1, kSt2, spSumB, rDin, dBits, kBits, rDnin, spLenD, dAugS, kAs1, kAs2, kAs3, kAs4, rRem, rIdx, spStr, dJoin, kJoin1, kJoin2, rPop1, rPop0, rRev, dDc, dTupRg, kTupRg, dLstRg, kLstRg, iSq, iRg1, kRg1, iRg2, kRg2, rIAdd, endsD,
  isL_iff, atI0, atI1, atI2, get_at0, get_at, List.set_set, List.length_set, lget_at0, lget_at, lget_hd, lget_tl, set_at0, set_at, app1, List.nil_append, List.cons_append, List.length_cons, List.length_nil, List.length_append,
  List.getElem?_cons_zero, List.getElem?_cons_succ, List.set_cons_zero, List.set_cons_succ, List.getElem?_nil, List.filterMap_cons, List.filterMap_nil, List.append_nil,
  Option.some.injEq, O.lst.injEq, exists_eq_left', exists_eq_left, exists_eq', List.cons.injEq, D.int.injEq, D.bl.injEq, D.tup.injEq, D.ref.injEq, D.str.injEq, Int.natCast_inj, true_and, and_true, and_self, Nat.reduceAdd, Nat.zero_add, Bool.not_true, Bool.not_false, reduceCtorEq, forall_const, imp_self, not_true_eq_false, not_false_eq_true, false_implies, true_implies, implies_true, Bool.true_eq_false, Bool.false_eq_true, Bool.true_or, Bool.or_true, Bool.false_or, Bool.or_false, Bool.and_true, Bool.true_and, decide_eq_true_eq, decide_eq_false_iff_not, Bool.not_eq_true', Bool.not_eq_false', decide_true, decide_false, or_false, false_or, exists_false, exists_and_left, and_assoc])
local macro_rules | `(tactic| walk_at "dz") => `(tactic| try simp only [dDrop, kDrop, dRet, dRetN, dIf, kIf, dNever, dNext, dBreak, dCont, dSet, kSet, dPar, kPar, dPar3, kPar3, dAug, kAug, dAsg, kAsg, gNm, gsNil, gsCons, gTp, gUl, gSb, kGs1, kGs2, rSet, dFor, kFor, dLc, dYes, wipeD, dRaise, kRaise, dTry, wTry, clrM, clrD, putD', dXv, kXv, dXnew, kOne,
  dC, dVar, dUn, dOp, kOp1, kOp2, dTst, kB, dAnd, kAnd, dOr, kOr, dNot, kNot, dAndV, kAndV, dOrV, kOrV, dNotV, kNotV, dIfE, kIfE, dNil, dCons, kCons1, kCons2, dTup, kTup, dLst, kLst, dCall, kCall, spN, dCallK, kCK1, kCK2, pick, dMet, kM1, kM2, isLst, rApp, dSl, kSl1, kSl2, kSl3, rSl, dNoP, dPart, kPart,
  rAdd, rSub, rMul, rMulT, rMulN, rInP, rFdiv, rMod, rPow, rShl, rShr, rAnd, rXor, rNeg, rEq, rNe, rLt, rLe, rGt, rGe, rIs, rIsNot, isNon, rIx, rIsi, rIsi2, isTy, spLen, spInt, spTuple, spAll, spAny, spMax, spMin, spAbs, spList, rIn, rNotIn, rIns, dRevL, kRev, dBack, kBack, dLc2, iEn, kEn, dSrtSet, kSrtSet, dChain, kCh1, kCh2, kCh3, iZp, kZp, dLenNew, dLenSet, kLenSet, kLenNew, dDicE, dDisp, dIsx, dIsxV, isDic, rDset, dDget, kDg1, kDg2, dDget2, kDh1, kDh2, kDh3, rDget, gDb, kGd1, kGd2, dStp, kSt0, kSt1, kSt2, spSumB, rDin, dBits, kBits, rDnin, spLenD, dAugS, kAs1, kAs2, kAs3, kAs4, rRem, rIdx, spStr, dJoin, kJoin1, kJoin2, rPop1, rPop0, rRev, dDc, dTupRg, kTupRg, dLstRg, kLstRg, iSq, iRg1, kRg1, iRg2, kRg2, rIAdd, endsD,
  isL_iff, atI0, atI1, atI2, get_at0, get_at, List.set_set, List.length_set, lget_at0, lget_at, lget_hd, lget_tl, set_at0, set_at, app1, List.nil_append, List.cons_append, List.length_cons, List.length_nil, List.length_append,
  List.getElem?_cons_zero, List.getElem?_cons_succ, List.set_cons_zero, List.set_cons_succ, List.getElem?_nil, List.filterMap_cons, List.filterMap_nil, List.append_nil,
  Option.some.injEq, O.lst.injEq, exists_eq_left', exists_eq_left, exists_eq', List.cons.injEq, D.int.injEq, D.bl.injEq, D.tup.injEq, D.ref.injEq, D.str.injEq, Int.natCast_inj, true_and, and_true, and_self, Nat.reduceAdd, Nat.zero_add, Bool.not_true, Bool.not_false, reduceCtorEq, forall_const, imp_self, not_true_eq_false, not_false_eq_true, false_implies, true_implies, implies_true, Bool.true_eq_false, Bool.false_eq_true, Bool.true_or, Bool.or_true, Bool.false_or, Bool.or_false, Bool.and_true, Bool.true_and, decide_eq_true_eq, decide_eq_false_iff_not, Bool.not_eq_true', Bool.not_eq_false', decide_true, decide_false, or_false, false_or, exists_false, exists_and_left, and_assoc])
namespace Q
open PySem
open Spec PyProof.Rows L2
/-! ### the laws' draws (decks) and the laws' own comparison -/
abbrev deckO (a b : Nat) : O := .lst [.int (a : Int), .int (b : Int)]
def sp__law_deck : SpD := fun ds S k _ => ∃ (n p : Nat) (ns : List Int), ds = [.ref n, .int p] ∧ S[n]? = some (.ro (ns.map D.int)) ∧ p < 2 ^ 32 ∧ ns.length ≤ sizeLine ∧ ∀ a b : Nat, b < 2 ^ 64 → k (.ref S.length) (S ++ [deckO a b])
def sp__law_take : SpD := fun ds S k _ => ∃ (n a b many : Nat), ds = [.ref n, .int many] ∧ 0 < many ∧ many < 2 ^ 100 ∧ S[n]? = some (deckO a b) ∧ b < 2 ^ 64 ∧ ∀ r a' b' : Nat, r < many → b' < 2 ^ 64 → k (.int r) (S.set n (deckO a' b'))
def spr__law_same : Nat → SpD
  | 0 => fun _ _ _ _ => False
  | n + 1 => fun ds S k _ => ∃ d e, ds = [d, e] ∧ sameD S n d e ∧ k (.bl true) S
def sp__law_same : SpD := spr__law_same 9
theorem spr__law_same_zero {ds : List D} {S : Sto} {k : KD} {x : XD} (h : spr__law_same 0 ds S k x) : False := h
local macro_rules | `(tactic| walk_at "dzs") => `(tactic| try simp only [sp__law_deck, sp__law_take, sp__law_same, dDrop, kDrop, dRet, dRetN, dIf, kIf, dNever, dNext, dBreak, dCont, dSet, kSet, dPar, kPar, dPar3, kPar3, dAug, kAug, dAsg, kAsg, gNm, gsNil, gsCons, gTp, gUl, gSb, kGs1, kGs2, rSet, dFor, kFor, dLc, dYes, wipeD, dRaise, kRaise, dTry, wTry, clrM, clrD, putD', dXv, kXv, dXnew, kOne,
  dC, dVar, dUn, dOp, kOp1, kOp2, dTst, kB, dAnd, kAnd, dOr, kOr, dNot, kNot, dAndV, kAndV, dOrV, kOrV, dNotV, kNotV, dIfE, kIfE, dNil, dCons, kCons1, kCons2, dTup, kTup, dLst, kLst, dCall, kCall, spN, dCallK, kCK1, kCK2, pick, dMet, kM1, kM2, isLst, rApp, dSl, kSl1, kSl2, kSl3, rSl, dNoP, dPart, kPart,
  rAdd, rSub, rMul, rMulT, rMulN, rInP, rFdiv, rMod, rPow, rShl, rShr, rAnd, rXor, rNeg, rEq, rNe, rLt, rLe, rGt, rGe, rIs, rIsNot, isNon, rIx, rIsi, rIsi2, isTy, spLen, spInt, spTuple, spAll, spAny, spMax, spMin, spAbs, spList, rIn, rNotIn, rIns, dRevL, kRev, dBack, kBack, dLc2, iEn, kEn, dSrtSet, kSrtSet, dChain, kCh1, kCh2, kCh3, iZp, kZp, dLenNew, dLenSet, kLenSet, kLenNew, dDicE, dDisp, dIsx, dIsxV, isDic, rDset, dDget, kDg1, kDg2, dDget2, kDh1, kDh2, kDh3, rDget, gDb, kGd1, kGd2, dStp, kSt0, kSt1, kSt2, spSumB, rDin, dBits, kBits, rDnin, spLenD, dAugS, kAs1, kAs2, kAs3, kAs4, rRem, rIdx, spStr, dJoin, kJoin1, kJoin2, rPop1, rPop0, rRev, dDc, dTupRg, kTupRg, dLstRg, kLstRg, iSq, iRg1, kRg1, iRg2, kRg2, rIAdd, endsD,
  isL_iff, atI0, atI1, atI2, get_at0, get_at, List.set_set, List.length_set, lget_at0, lget_at, lget_hd, lget_tl, set_at0, set_at, app1, List.nil_append, List.cons_append, List.length_cons, List.length_nil, List.length_append,
  List.getElem?_cons_zero, List.getElem?_cons_succ, List.set_cons_zero, List.set_cons_succ, List.getElem?_nil, List.filterMap_cons, List.filterMap_nil, List.append_nil,
  Option.some.injEq, O.lst.injEq, exists_eq_left', exists_eq_left, exists_eq', List.cons.injEq, D.int.injEq, D.bl.injEq, D.tup.injEq, D.ref.injEq, D.str.injEq, Int.natCast_inj, true_and, and_true, and_self, Nat.reduceAdd, Nat.zero_add, Bool.not_true, Bool.not_false, reduceCtorEq, forall_const, imp_self, not_true_eq_false, not_false_eq_true, false_implies, true_implies, implies_true, Bool.true_eq_false, Bool.false_eq_true, Bool.true_or, Bool.or_true, Bool.false_or, Bool.or_false, Bool.and_true, Bool.true_and, decide_eq_true_eq, decide_eq_false_iff_not, Bool.not_eq_true', Bool.not_eq_false', decide_true, decide_false, or_false, false_or, exists_false, exists_and_left, and_assoc])
local macro_rules | `(tactic| walk_at "ds") => `(tactic| try simp only [sp__law_deck, sp__law_take, sp__law_same, dSeq, dDrop, kDrop, dRet, dRetN, dIf, kIf, dNever, dNext, dBreak, dCont, dSet, kSet, dPar, kPar, dPar3, kPar3, dAug, kAug, dAsg, kAsg, gNm, gsNil, gsCons, gTp, gUl, gSb, kGs1, kGs2, rSet, dFor, kFor, dLc, dYes, wipeD, dRaise, kRaise, dTry, wTry, clrM, clrD, putD', dXv, kXv, dXnew, kOne,
  dC, dVar, dUn, dOp, kOp1, kOp2, dTst, kB, dAnd, kAnd, dOr, kOr, dNot, kNot, dAndV, kAndV, dOrV, kOrV, dNotV, kNotV, dIfE, kIfE, dNil, dCons, kCons1, kCons2, dTup, kTup, dLst, kLst, dCall, kCall, spN, dCallK, kCK1, kCK2, pick, dMet, kM1, kM2, isLst, rApp, dSl, kSl1, kSl2, kSl3, rSl, dNoP, dPart, kPart,
  rAdd, rSub, rMul, rMulT, rMulN, rInP, rFdiv, rMod, rPow, rShl, rShr, rAnd, rXor, rNeg, rEq, rNe, rLt, rLe, rGt, rGe, rIs, rIsNot, isNon, rIx, rIsi, rIsi2, isTy, spLen, spInt, spTuple, spAll, spAny, spMax, spMin, spAbs, spList, rIn, rNotIn, rIns, dRevL, kRev, dBack, kBack, dLc2, iEn, kEn, dSrtSet, kSrtSet, dChain, kCh1, kCh2, kCh3, iZp, kZp, dLenNew, dLenSet, kLenSet, kLenNew, dDicE, dDisp, dIsx, dIsxV, isDic, rDset, dDget, kDg1, kDg2, dDget2, kDh1, kDh2, kDh3, rDget, gDb, kGd1, kGd2, dStp, kSt0, kSt1, kSt2, spSumB, rDin, dBits, kBits, rDnin, spLenD, dAugS, kAs1, kAs2, kAs3, kAs4, rRem, rIdx, spStr, dJoin, kJoin1, kJoin2, rPop1, rPop0, rRev, dDc, dTupRg, kTupRg, dLstRg, kLstRg, iSq, iRg1, kRg1, iRg2, kRg2, rIAdd, endsD,
  isL_iff, atI0, atI1, atI2, get_at0, get_at, List.set_set, List.length_set, lget_at0, lget_at, lget_hd, lget_tl, set_at0, set_at, app1, List.nil_append, List.cons_append, List.length_cons, List.length_nil, List.length_append,
  List.getElem?_cons_zero, List.getElem?_cons_succ, List.set_cons_zero, List.set_cons_succ, List.getElem?_nil, List.filterMap_cons, List.filterMap_nil, List.append_nil,
  Option.some.injEq, O.lst.injEq, exists_eq_left', exists_eq_left, exists_eq', List.cons.injEq, D.int.injEq, D.bl.injEq, D.tup.injEq, D.ref.injEq, D.str.injEq, Int.natCast_inj, true_and, and_true, and_self, Nat.reduceAdd, Nat.zero_add, Bool.not_true, Bool.not_false, reduceCtorEq, forall_const, imp_self, not_true_eq_false, not_false_eq_true, false_implies, true_implies, implies_true, Bool.true_eq_false, Bool.false_eq_true, Bool.true_or, Bool.or_true, Bool.false_or, Bool.or_false, Bool.and_true, Bool.true_and, decide_eq_true_eq, decide_eq_false_iff_not, Bool.not_eq_true', Bool.not_eq_false', decide_true, decide_false, or_false, false_or, exists_false, exists_and_left, and_assoc])
/-- _law_deck(script, k); slots: 0 script, 1 k, 2 cell, 3 stir -/
def t__law_deck : TSD := (dSeq (dSet 2 (dC (.int 0))) (dSeq (dIf (dTst (dOp rLt (dVar 1) (dCall spLen (dCons (dVar 0) dNil)))) (dSet 2 (dOp rIx (dVar 0) (dVar 1))) dNext) (dSeq (dSet 3 (dOp rMod (dCall spInt (dCons (dOp rAdd (dOp rAdd (dVar 2) (dOp rMul (dC (.int 7919)) (dVar 1))) (dC (.int 104729))) dNil)) (dC (.int 2305843009213693951)))) (dSeq (dSet 3 (dOp rMod (dCall spInt (dCons (dOp rAdd (dOp rAdd (dOp rMul (dOp rMul (dVar 3) (dVar 3)) (dVar 3)) (dOp rMul (dC (.int 31)) (dVar 1))) (dC (.int 7))) dNil)) (dC (.int 2305843009213693951)))) (dSeq (dIf (dTst (dOp rLt (dVar 2) (dOp rPow (dC (.int 10)) (dC (.int 18))))) (dRet (dLst (dCons (dC (.int 0)) (dCons (dVar 3) dNil)))) dNext) (dRet (dLst (dCons (dOp rSub (dVar 2) (dOp rPow (dC (.int 10)) (dC (.int 18)))) (dCons (dVar 3) dNil)))))))))
/-- _law_take(deck, many); slots: 0 deck, 1 many, 2 taken -/
def t__law_take : TSD := (dSeq (dIf (dTst (dOp rGt (dOp rIx (dVar 0) (dC (.int 0))) (dC (.int 0)))) (dSeq (dSet 2 (dOp rMod (dCall spInt (dCons (dOp rIx (dVar 0) (dC (.int 0))) dNil)) (dVar 1))) (dSeq (dAsg (dOp rFdiv (dOp rIx (dVar 0) (dC (.int 0))) (dVar 1)) (gSb (dVar 0) (dC (.int 0)))) (dRet (dVar 2)))) dNext) (dSeq (dAsg (dOp rMod (dCall spInt (dCons (dOp rAdd (dOp rMul (dOp rIx (dVar 0) (dC (.int 1))) (dC (.int 6364136223846793005))) (dC (.int 1442695040888963407))) dNil)) (dOp rPow (dC (.int 2)) (dC (.int 64)))) (gSb (dVar 0) (dC (.int 1)))) (dRet (dOp rMod (dOp rFdiv (dOp rIx (dVar 0) (dC (.int 1))) (dOp rPow (dC (.int 2)) (dC (.int 25)))) (dVar 1)))))
/-- _law_same(found, due); slots: 0 found, 1 due, 2 k -/
def t__law_same (r : SpD) : TSD := (dSeq (dIf (dTst (dUn (rIsi2 .tuple .list) (dVar 1))) (dSeq (dIf (dOr (dTst (dOp rNe (dUn (rIsi .tuple) (dVar 0)) (dUn (rIsi .tuple) (dVar 1)))) (dTst (dOp rNe (dUn (rIsi .list) (dVar 0)) (dUn (rIsi .list) (dVar 1))))) (dRet (dC (.bl false))) dNext) (dSeq (dIf (dTst (dOp rNe (dCall spLen (dCons (dVar 0) dNil)) (dCall spLen (dCons (dVar 1) dNil)))) (dRet (dC (.bl false))) dNext) (dRet (dOp rEq (dLc (iRg1 (dCons (dCall spLen (dCons (dVar 1) dNil)) dNil)) (gNm 2) (dNot (dTst (dCall (spN 2 r) (dCons (dOp rIx (dVar 0) (dVar 2)) (dCons (dOp rIx (dVar 1) (dVar 2)) dNil))))) (dVar 2) [2]) (dLst dNil))))) dNext) (dSeq (dIf (dTst (dOp rIs (dVar 1) (dC .non))) (dRet (dOp rIs (dVar 0) (dC .non))) dNext) (dSeq (dIf (dTst (dUn (rIsi .str) (dVar 1))) (dRet (dAndV (dUn (rIsi .str) (dVar 0)) (dOp rEq (dVar 0) (dVar 1)))) dNext) (dSeq (dIf (dOr (dTst (dUn (rIsi .bool) (dVar 1))) (dTst (dUn (rIsi .bool) (dVar 0)))) (dRet (dAndV (dUn (rIsi .bool) (dVar 1)) (dAndV (dUn (rIsi .bool) (dVar 0)) (dOp rEq (dVar 0) (dVar 1))))) dNext) (dRet (dAndV (dUn (rIsi .int) (dVar 0)) (dOp rEq (dVar 0) (dVar 1))))))))

theorem ix20 : ixN 2 0 = some 0 := by decide
theorem ix21 : ixN 2 1 = some 1 := by decide
theorem divW {a m : Nat} (h0 : 0 < m) (hm : m < 2 ^ 100) : CDivW (a : Int) (m : Int) := ⟨by omega, Nat.lt_of_lt_of_le (log_lt (n := 100) (by simpa using hm) (by decide)) (by decide)⟩
theorem k__law_take : Keeps 2 3 t__law_take sp__law_take := by
  intro ds S k x hl cS cd h
  obtain ⟨n, a, b, many, rfl, h0, hm, hd, hb, h⟩ := h
  show t__law_take (endsD S.length k x) [some (.ref n), some (.int many), none] S
  have hL := lget_lst hd
  have hlt := get_lt hd
  simp only [t__law_take]
  walk_at "dx"
  simp only [hL, hd, atI0, atI1, Option.some.injEq, exists_eq_left', lget_set_self hd, O.lst.injEq, ix20, ix21, List.length_cons, List.length_nil, Nat.reduceAdd, List.set_cons_zero, List.set_cons_succ]
  refine ⟨fun ha => ⟨by omega, divW h0 hm, ?_⟩, fun ha => ⟨.inl (.inl ⟨by omega, by omega⟩), .inl ⟨by decide, by decide, by decide⟩, by decide, .inl ⟨by decide, by decide, by decide⟩, ⟨by decide, by decide +kernel⟩, by omega, ?_⟩⟩
  · exact wk_now (h (a % many) (a / many) b (Nat.mod_lt _ h0) hb)
  · have e : ((b : Int) * 6364136223846793005 + 1442695040888963407) % 2 ^ Int.toNat 64 = (((b * 6364136223846793005 + 1442695040888963407) % 2 ^ 64 : Nat) : Int) := by
      show _ % (2 : Int) ^ 64 = _
      omega
    rw [e]
    have e2 : (((b * 6364136223846793005 + 1442695040888963407) % 2 ^ 64 : Nat) : Int) / 2 ^ Int.toNat 25 % (many : Int) = ((((b * 6364136223846793005 + 1442695040888963407) % 2 ^ 64) / 2 ^ 25 % many : Nat) : Int) := rfl
    rw [e2]
    exact wk_now (h _ a _ (Nat.mod_lt _ h0) (Nat.mod_lt _ (by decide)))
theorem stir_ok (c p : Int) : MulOk (c % 2305843009213693951) (c % 2305843009213693951) ∧ MulOk (c % 2305843009213693951 * (c % 2305843009213693951)) (c % 2305843009213693951) ∧
    ∃ b : Nat, b < 2 ^ 64 ∧ (c % 2305843009213693951 * (c % 2305843009213693951) * (c % 2305843009213693951) + p) % 2305843009213693951 = (b : Int) := by
  generalize hs : c % 2305843009213693951 = s
  refine ⟨.inl (.inl ⟨by omega, by omega⟩), .inl (.inr ⟨by omega, by omega⟩), ?_⟩
  generalize s * s * s + p = t
  exact ⟨(t % 2305843009213693951).toNat, by omega, by omega⟩
theorem k__law_deck : Keeps 2 4 t__law_deck sp__law_deck := by
  intro ds S k x hl cS cd h
  obtain ⟨n, p, ns, rfl, hd, hp, hz, h⟩ := h
  show t__law_deck (endsD S.length k x) [some (.ref n), some (.int p), none, none] S
  have hL : lget S n = some (ns.map D.int) := by unfold lget; rw [hd]
  have fin : ∀ a b : Nat, b < 2 ^ 64 → wk S.length k (.ref S.length) (S ++ [.lst [.int (a : Int), .int (b : Int)]]) := fun a b hb => .inl (h a b hb)
  have m1 : MulOk 7919 (p : Int) := .inl (.inl ⟨by decide, by decide⟩)
  have m2 : MulOk 31 (p : Int) := .inl (.inl ⟨by decide, by decide⟩)
  have cp : PowOk 10 18 := .inl ⟨by decide, by decide, by decide⟩
  have two : 2 ≤ sizeLine := by decide
  have e18 : (10 : Int) ^ Int.toNat 18 = 1000000000000000000 := by decide
  by_cases hlt : p < ns.length
  · have hA : atI (ns.map D.int) (p : Int) = some (.int ns[p]) := atI_nat (by rw [List.getElem?_map, List.getElem?_eq_getElem hlt]; rfl)
    have hlt' : (p : Int) < (ns.length : Int) := by omega
    simp only [t__law_deck]
    walk_at "dx"
    simp only [hL, Option.some.injEq, exists_eq_left', List.length_map, hA, hlt', forall_const, not_true_eq_false, false_implies, and_true, true_implies, e18, m1, m2, cp, two, true_and]
    obtain ⟨q1, q2, b, hb, q3⟩ := stir_ok (ns[p] + 7919 * (p : Int) + 104729) (31 * (p : Int) + 7)
    rw [← Int.add_assoc] at q3
    rw [q3]
    refine ⟨by decide, q1, q2, by decide, fun h1 => fin 0 b hb, fun h1 => ?_⟩
    have e : ns[p] - 1000000000000000000 = ((ns[p] - 1000000000000000000).toNat : Int) := by omega
    rw [e]
    exact fin _ b hb
  · have hlt' : ¬ (p : Int) < (ns.length : Int) := by omega
    simp only [t__law_deck]
    walk_at "dx"
    simp only [hL, Option.some.injEq, exists_eq_left', List.length_map, hlt', forall_const, not_true_eq_false, false_implies, and_true, true_implies, e18, m1, m2, cp, two, true_and, not_false_eq_true]
    obtain ⟨q1, q2, b, hb, q3⟩ := stir_ok (0 + 7919 * (p : Int) + 104729) (31 * (p : Int) + 7)
    rw [← Int.add_assoc] at q3
    rw [q3]
    exact ⟨by decide, q1, q2, by decide, fun h1 => fin 0 b hb, fun h1 => absurd (show (0 : Int) < 1000000000000000000 by decide) h1⟩
theorem k__law_same (n : Nat) : Keeps 2 3 (t__law_same (spr__law_same n)) (spr__law_same (n + 1)) := by
  intro ds S k x hl cS cd h
  obtain ⟨d, e, rfl, hs, h⟩ := h
  show t__law_same (spr__law_same n) (endsD S.length k x) [some d, some e, none] S
  have h' := wk_now (n := S.length) h
  have flat : flatD d = true → d = e → t__law_same (spr__law_same n) (endsD S.length k x) [some d, some e, none] S := by
    intro f e1
    subst e1
    cases d <;> first | (exact absurd f Bool.false_ne_true) | (simp only [t__law_same]; walk_at "dx"; simpa using h')
  have cl0 : ∀ G, wk S.length k (.bl true) (S ++ G) := fun G => wk_drop rfl cS trivial h
  cases n with
  | zero => exact flat hs.1 hs.2
  | succ n =>
    have item : ∀ (m : Nat) (d : D), d ∈ (List.range ((m : Nat) : Int).toNat).map (fun i : Nat => D.int (0 + (i : Int))) → ∃ j : Nat, j < m ∧ d = .int (j : Int) := fun m d hd => by
      obtain ⟨j, hj, e⟩ := List.mem_map.mp hd
      have := List.mem_range.mp hj
      exact ⟨j, by omega, by rw [← e]; simp⟩
    rcases hs with ⟨f, e1⟩ | ⟨xs, ys, rfl, rfl, hz, hp⟩ | ⟨a, b, xs, ys, rfl, rfl, ha, hb, hz, hp⟩
    · exact flat f e1
    · have hlen := paired_len hp
      have hz' := hz
      rw [sl16] at hz'
      simp only [t__law_same]
      walk_at "dx"
      simp only [hlen]
      walk_at "dx"
      refine ⟨by omega, by omega, lc_filter (fun _ => false) id (fun d hd acc kk hk => ?_) (fun d hd z => nomatch z) (fun _ => trivial) (by simpa using hz) ?_⟩
      · obtain ⟨j, hj, rfl⟩ := item ys.length d hd
        have h1 : xs[j]? = some xs[j] := List.getElem?_eq_getElem (by omega)
        have h2 : ys[j]? = some ys[j] := List.getElem?_eq_getElem hj
        have hk : kk false (S ++ [.lst acc]) := hk
        walk_at "dx"
        simp only [atI_nat h1, atI_nat h2, Option.some.injEq, exists_eq_left']
        exact ⟨xs[j], ys[j], rfl, sameD_mono n _ _ (paired_get hp h1 h2), hk⟩
      · walk_at "dx"
        refine ⟨Nat.zero_le _, eqG_lst (xs := []) (ys := []) 0 0 ?_ ?_ rfl rfl ?_⟩
        · simp [lget]
        · simp [lget]
        · exact cl0 _
    · have hlen := paired_len hp
      have hz' := hz
      rw [sl16] at hz'
      simp only [t__law_same]
      walk_at "dx"
      simp only [ha, hb, tyR_of ha, tyR_of hb, Option.some.injEq, exists_eq_left', hlen, isTy]
      walk_at "dx"
      refine ⟨by omega, by omega, lc_filter (fun _ => false) id (fun d hd acc kk hk => ?_) (fun d hd z => nomatch z) (fun _ => trivial) (by simpa using hz) ?_⟩
      · obtain ⟨j, hj, rfl⟩ := item ys.length d hd
        have h1 : xs[j]? = some xs[j] := List.getElem?_eq_getElem (by omega)
        have h2 : ys[j]? = some ys[j] := List.getElem?_eq_getElem hj
        have hk : kk false (S ++ [.lst acc]) := hk
        walk_at "dx"
        simp only [lget_app ha, lget_app hb, atI_nat h1, atI_nat h2, Option.some.injEq, exists_eq_left']
        exact ⟨xs[j], ys[j], rfl, sameD_mono n _ _ (paired_get hp h1 h2), hk⟩
      · walk_at "dx"
        refine ⟨Nat.zero_le _, eqG_lst (xs := []) (ys := []) 0 0 ?_ ?_ rfl rfl ?_⟩
        · simp [lget]
        · simp [lget]
        · exact cl0 _
/-- a draw, where the deck stands written, with more behind it -/
theorem take_set {S G : Sto} {n a b many : Nat} {o : O} {k : KD} {x : XD} (hd : S[n]? = some o) (h0 : 0 < many) (hm : many < 2 ^ 100) (hb : b < 2 ^ 64) (h : ∀ r a' b' : Nat, r < many → b' < 2 ^ 64 → k (.int r) (S.set n (deckO a' b') ++ G)) :
    sp__law_take [.ref n, .int many] (S.set n (deckO a b) ++ G) k x := by
  have hl : n < (S.set n (deckO a b)).length := by rw [List.length_set]; exact get_lt hd
  refine ⟨n, a, b, many, rfl, h0, hm, get_app (get_set_self hd), hb, fun r a' b' hr hb' => ?_⟩
  rw [set_app hl, List.set_set]
  exact h r a' b' hr hb'
theorem take_set0 {S : Sto} {n a b many : Nat} {o : O} {k : KD} {x : XD} (hd : S[n]? = some o) (h0 : 0 < many) (hm : many < 2 ^ 100) (hb : b < 2 ^ 64) (h : ∀ r a' b' : Nat, r < many → b' < 2 ^ 64 → k (.int r) (S.set n (deckO a' b'))) :
    sp__law_take [.ref n, .int many] (S.set n (deckO a b)) k x := by
  refine ⟨n, a, b, many, rfl, h0, hm, get_set_self hd, hb, fun r a' b' hr hb' => ?_⟩
  rw [List.set_set]
  exact h r a' b' hr hb'
theorem take_app {S G : Sto} {n a b many : Nat} {k : KD} {x : XD} (hd : S[n]? = some (deckO a b)) (h0 : 0 < many) (hm : many < 2 ^ 100) (hb : b < 2 ^ 64) (h : ∀ r a' b' : Nat, r < many → b' < 2 ^ 64 → k (.int r) (S.set n (deckO a' b') ++ G)) :
    sp__law_take [.ref n, .int many] (S ++ G) k x := by
  refine ⟨n, a, b, many, rfl, h0, hm, get_app hd, hb, fun r a' b' hr hb' => ?_⟩
  rw [set_app (get_lt hd)]
  exact h r a' b' hr hb'
theorem same_call {S : Sto} {d e : D} {k : KD} {x : XD} (h : sameD S 8 d e) (hk : k (.bl true) S) : sp__law_same [d, e] S k x := ⟨d, e, rfl, h, hk⟩
theorem same_flat {S : Sto} {n : Nat} (xs : List D) (h : xs.all flatD = true) : Paired (sameD S n) xs xs := paired_same (f := fun _ => True) xs fun d hd => sameD_flat (List.all_eq_true.mp h d hd) n
theorem cl_deck (m a b : Nat) : clO m (deckO a b) := ⟨trivial, trivial, trivial⟩
end Q
open Q
local macro_rules | `(tactic| walk_at "dx") => `(tactic| try simp only [dSeq, dDrop, kDrop, dRet, dRetN, dIf, kIf, dNever, dNext, dBreak, dCont, dSet, kSet, dPar, kPar, dPar3, kPar3, dAug, kAug, dAsg, kAsg, gNm, gsNil, gsCons, gTp, gUl, gSb, kGs1, kGs2, rSet, dFor, kFor, dLc, dYes, wipeD, dRaise, kRaise, dTry, wTry, clrM, clrD, putD', dXv, kXv, dXnew, kOne,
  dC, dVar, dUn, dOp, kOp1, kOp2, dTst, kB, dAnd, kAnd, dOr, kOr, dNot, kNot, dAndV, kAndV, dOrV, kOrV, dNotV, kNotV, dIfE, kIfE, dNil, dCons, kCons1, kCons2, dTup, kTup, dLst, kLst, dCall, kCall, spN, dCallK, kCK1, kCK2, pick, dMet, kM1, kM2, isLst, rApp, dSl, kSl1, kSl2, kSl3, rSl, dNoP, dPart, kPart,
  rAdd, rSub, rMul, rMulT, rMulN, rInP, rFdiv, rMod, rPow, rShl, rShr, rAnd, rXor, rNeg, rEq, rNe, rLt, rLe, rGt, rGe, rIs, rIsNot, isNon, rIx, rIsi, rIsi2, isTy, spLen, spInt, spTuple, spAll, spAny, spMax, spMin, spAbs, spList, rIn, rNotIn, rIns, dRevL, kRev, dBack, kBack, dLc2, iEn, kEn, dSrtSet, kSrtSet, dChain, kCh1, kCh2, kCh3, iZp, kZp, dLenNew, dLenSet, kLenSet, kLenNew, dDicE, dDisp, dIsx, dIsxV, isDic, rDset, dDget, kDg1, kDg2, dDget2, kDh1, kDh2, kDh3, rDget, gDb, kGd1, kGd2, dStp, kSt0, kSt1, kSt2, spSumB, rDin, dBits, kBits, rDnin, spLenD, dAugS, kAs1, kAs2, kAs3, kAs4, rRem, rIdx, spStr, dJoin, kJoin1, kJoin2, rPop1, rPop0, rRev, dDc, dTupRg, kTupRg, dLstRg, kLstRg, iSq, iRg1, kRg1, iRg2, kRg2, rIAdd, endsD,
  isL_iff, atI0, atI1, atI2, get_at0, get_at, List.set_set, List.length_set, lget_at0, lget_at, lget_hd, lget_tl, set_at0, set_at, app1, List.nil_append, List.cons_append, List.length_cons, List.length_nil, List.length_append,
  List.getElem?_cons_zero, List.getElem?_cons_succ, List.set_cons_zero, List.set_cons_succ, List.getElem?_nil, List.filterMap_cons, List.filterMap_nil, List.append_nil,
  Option.some.injEq, O.lst.injEq, exists_eq_left', exists_eq_left, exists_eq', List.cons.injEq, D.int.injEq, D.bl.injEq, D.tup.injEq, D.ref.injEq, D.str.injEq, Int.natCast_inj, true_and, and_true, and_self, Nat.reduceAdd, Nat.zero_add, Bool.not_true, Bool.not_false, reduceCtorEq, forall_const, imp_self, not_true_eq_false, not_false_eq_true, false_implies, true_implies, implies_true, Bool.true_eq_false, Bool.false_eq_true, Bool.true_or, Bool.or_true, Bool.false_or, Bool.or_false, Bool.and_true, Bool.true_and, decide_eq_true_eq, decide_eq_false_iff_not, Bool.not_eq_true', Bool.not_eq_false', decide_true, decide_false, or_false, false_or, exists_false, exists_and_left, and_assoc])
local macro_rules | `(tactic| walk_at "dz") => `(tactic| try simp only [dDrop, kDrop, dRet, dRetN, dIf, kIf, dNever, dNext, dBreak, dCont, dSet, kSet, dPar, kPar, dPar3, kPar3, dAug, kAug, dAsg, kAsg, gNm, gsNil, gsCons, gTp, gUl, gSb, kGs1, kGs2, rSet, dFor, kFor, dLc, dYes, wipeD, dRaise, kRaise, dTry, wTry, clrM, clrD, putD', dXv, kXv, dXnew, kOne,
  dC, dVar, dUn, dOp, kOp1, kOp2, dTst, kB, dAnd, kAnd, dOr, kOr, dNot, kNot, dAndV, kAndV, dOrV, kOrV, dNotV, kNotV, dIfE, kIfE, dNil, dCons, kCons1, kCons2, dTup, kTup, dLst, kLst, dCall, kCall, spN, dCallK, kCK1, kCK2, pick, dMet, kM1, kM2, isLst, rApp, dSl, kSl1, kSl2, kSl3, rSl, dNoP, dPart, kPart,
  rAdd, rSub, rMul, rMulT, rMulN, rInP, rFdiv, rMod, rPow, rShl, rShr, rAnd, rXor, rNeg, rEq, rNe, rLt, rLe, rGt, rGe, rIs, rIsNot, isNon, rIx, rIsi, rIsi2, isTy, spLen, spInt, spTuple, spAll, spAny, spMax, spMin, spAbs, spList, rIn, rNotIn, rIns, dRevL, kRev, dBack, kBack, dLc2, iEn, kEn, dSrtSet, kSrtSet, dChain, kCh1, kCh2, kCh3, iZp, kZp, dLenNew, dLenSet, kLenSet, kLenNew, dDicE, dDisp, dIsx, dIsxV, isDic, rDset, dDget, kDg1, kDg2, dDget2, kDh1, kDh2, kDh3, rDget, gDb, kGd1, kGd2, dStp, kSt0, kSt1, kSt2, spSumB, rDin, dBits, kBits, rDnin, spLenD, dAugS, kAs1, kAs2, kAs3, kAs4, rRem, rIdx, spStr, dJoin, kJoin1, kJoin2, rPop1, rPop0, rRev, dDc, dTupRg, kTupRg, dLstRg, kLstRg, iSq, iRg1, kRg1, iRg2, kRg2, rIAdd, endsD,
  isL_iff, atI0, atI1, atI2, get_at0, get_at, List.set_set, List.length_set, lget_at0, lget_at, lget_hd, lget_tl, set_at0, set_at, app1, List.nil_append, List.cons_append, List.length_cons, List.length_nil, List.length_append,
  List.getElem?_cons_zero, List.getElem?_cons_succ, List.set_cons_zero, List.set_cons_succ, List.getElem?_nil, List.filterMap_cons, List.filterMap_nil, List.append_nil,
  Option.some.injEq, O.lst.injEq, exists_eq_left', exists_eq_left, exists_eq', List.cons.injEq, D.int.injEq, D.bl.injEq, D.tup.injEq, D.ref.injEq, D.str.injEq, Int.natCast_inj, true_and, and_true, and_self, Nat.reduceAdd, Nat.zero_add, Bool.not_true, Bool.not_false, reduceCtorEq, forall_const, imp_self, not_true_eq_false, not_false_eq_true, false_implies, true_implies, implies_true, Bool.true_eq_false, Bool.false_eq_true, Bool.true_or, Bool.or_true, Bool.false_or, Bool.or_false, Bool.and_true, Bool.true_and, decide_eq_true_eq, decide_eq_false_iff_not, Bool.not_eq_true', Bool.not_eq_false', decide_true, decide_false, or_false, false_or, exists_false, exists_and_left, and_assoc])
namespace Q
open PySem
open Spec PyProof.Rows L2
/-! ### law k00: errors -/
def clsN : List Str := ["InvalidBook", "InvalidWord", "InvalidNumber", "InvalidKey", "InvalidCell", "InvalidRow", "InvalidLot", "InvalidTable", "InvalidValues", "InvalidRoad", "InvalidSeats", "NotFree",
  "NoTable", "NoSeats", "InvalidPlacing", "InvalidChain", "InvalidMixing", "InvalidFilter", "InvalidName", "HasCore", "NotGood", "UnknownName", "NothingToUndo", "Unreadable", "Unorderly"]
def clsAt (i : Nat) : Str := clsN.getD i "Unorderly"
def kindsD (y : Str) : List D := clsN.map fun c => .bl (exSub y c)
/-- a value that is handed in: flat, a tuple, or a list above a place -/
def Giv (p : Nat) (S : Sto) (d : D) : Prop := sdB 8 d = true ∨ ∃ (j : Nat) (xs : List D), d = .ref j ∧ p < j ∧ lget S j = some xs ∧ xs.all flatD = true ∧ xs.length ≤ 3
theorem giv_app {p : Nat} {S : Sto} {d : D} (h : Giv p S d) (G : Sto) : Giv p (S ++ G) d := by
  rcases h with h | ⟨j, xs, h1, h2, h3, h4⟩
  · exact .inl h
  · exact .inr ⟨j, xs, h1, h2, lget_app h3, h4⟩
theorem giv_set {p : Nat} {S : Sto} {d : D} {o : O} (h : Giv p S d) : Giv p (S.set p o) d := by
  rcases h with h | ⟨j, xs, h1, h2, h3, h4⟩
  · exact .inl h
  · refine .inr ⟨j, xs, h1, h2, ?_, h4⟩
    unfold lget at h3 ⊢
    rw [List.getElem?_set_ne (by omega)]
    exact h3
theorem giv_same {p : Nat} {S : Sto} {d : D} (h : Giv p S d) : sameD S 8 d d := by
  rcases h with h | ⟨j, xs, rfl, h2, h3, h4, h5⟩
  · exact sameD_self 8 d h
  · exact sameD_lst h3 h3 (by rw [sl16]; omega) (same_flat xs h4)
def sp__law_raise_first : SpD := fun ds S _ x => ∃ (i : Nat) (d : D), ds = [.int i, d] ∧ i < 13 ∧ x (clsAt i, d) S
def sp__law_raise_second : SpD := fun ds S _ x => ∃ (i : Nat) (d : D), ds = [.int i, d] ∧ 13 ≤ i ∧ i < 25 ∧ x (clsAt i, d) S
def sp__law_raise_named_first : SpD := sp__law_raise_first
def sp__law_raise_named_second : SpD := sp__law_raise_second
def sp__law_raised : SpD := fun ds S _ x => ∃ (i : Nat) (d : D) (b : Bool), ds = [.int i, d, .bl b] ∧ i < 25 ∧ x (clsAt i, d) S
def sp__law_kinds : SpD := fun ds S k _ => ∃ (n : Nat) (y : Str) (d : D), ds = [.ref n] ∧ S[n]? = some (.exo y d) ∧ y ∈ ("TellError" : Str) :: clsN ∧ k (.ref S.length) (S ++ [.lst (kindsD y)])
def sp__law_given : SpD := fun ds S k _ => ∃ n a b : Nat, ds = [.ref n] ∧ S[n]? = some (deckO a b) ∧ b < 2 ^ 64 ∧ ∀ (d : D) (a' b' : Nat) (G : Sto), b' < 2 ^ 64 → Giv n (S.set n (deckO a' b') ++ G) d → k d (S.set n (deckO a' b') ++ G)
def sp__law_right : SpD := fun ds S k _ => ∃ (p i : Nat) (d : D) (b : Bool), ds = [.int i, d, .bl b] ∧ i < 25 ∧ Giv p S d ∧ k (.bl true) S
def sp__law_base_right : SpD := fun ds S k _ => ∃ (p : Nat) (d : D), ds = [d] ∧ Giv p S d ∧ k (.bl true) S
/-- _law_raise_first(which, given); slots: 0 which, 1 given -/
def t__law_raise_first : TSD := (dSeq (dIf (dTst (dOp rEq (dVar 0) (dC (.int 0)))) (dRaise "InvalidBook" (dCons (dVar 1) dNil)) dNext) (dSeq (dIf (dTst (dOp rEq (dVar 0) (dC (.int 1)))) (dRaise "InvalidWord" (dCons (dVar 1) dNil)) dNext) (dSeq (dIf (dTst (dOp rEq (dVar 0) (dC (.int 2)))) (dRaise "InvalidNumber" (dCons (dVar 1) dNil)) dNext) (dSeq (dIf (dTst (dOp rEq (dVar 0) (dC (.int 3)))) (dRaise "InvalidKey" (dCons (dVar 1) dNil)) dNext) (dSeq (dIf (dTst (dOp rEq (dVar 0) (dC (.int 4)))) (dRaise "InvalidCell" (dCons (dVar 1) dNil)) dNext) (dSeq (dIf (dTst (dOp rEq (dVar 0) (dC (.int 5)))) (dRaise "InvalidRow" (dCons (dVar 1) dNil)) dNext) (dSeq (dIf (dTst (dOp rEq (dVar 0) (dC (.int 6)))) (dRaise "InvalidLot" (dCons (dVar 1) dNil)) dNext) (dSeq (dIf (dTst (dOp rEq (dVar 0) (dC (.int 7)))) (dRaise "InvalidTable" (dCons (dVar 1) dNil)) dNext) (dSeq (dIf (dTst (dOp rEq (dVar 0) (dC (.int 8)))) (dRaise "InvalidValues" (dCons (dVar 1) dNil)) dNext) (dSeq (dIf (dTst (dOp rEq (dVar 0) (dC (.int 9)))) (dRaise "InvalidRoad" (dCons (dVar 1) dNil)) dNext) (dSeq (dIf (dTst (dOp rEq (dVar 0) (dC (.int 10)))) (dRaise "InvalidSeats" (dCons (dVar 1) dNil)) dNext) (dSeq (dIf (dTst (dOp rEq (dVar 0) (dC (.int 11)))) (dRaise "NotFree" (dCons (dVar 1) dNil)) dNext) (dRaise "NoTable" (dCons (dVar 1) dNil))))))))))))))
/-- _law_raise_second(which, given); slots: 0 which, 1 given -/
def t__law_raise_second : TSD := (dSeq (dIf (dTst (dOp rEq (dVar 0) (dC (.int 13)))) (dRaise "NoSeats" (dCons (dVar 1) dNil)) dNext) (dSeq (dIf (dTst (dOp rEq (dVar 0) (dC (.int 14)))) (dRaise "InvalidPlacing" (dCons (dVar 1) dNil)) dNext) (dSeq (dIf (dTst (dOp rEq (dVar 0) (dC (.int 15)))) (dRaise "InvalidChain" (dCons (dVar 1) dNil)) dNext) (dSeq (dIf (dTst (dOp rEq (dVar 0) (dC (.int 16)))) (dRaise "InvalidMixing" (dCons (dVar 1) dNil)) dNext) (dSeq (dIf (dTst (dOp rEq (dVar 0) (dC (.int 17)))) (dRaise "InvalidFilter" (dCons (dVar 1) dNil)) dNext) (dSeq (dIf (dTst (dOp rEq (dVar 0) (dC (.int 18)))) (dRaise "InvalidName" (dCons (dVar 1) dNil)) dNext) (dSeq (dIf (dTst (dOp rEq (dVar 0) (dC (.int 19)))) (dRaise "HasCore" (dCons (dVar 1) dNil)) dNext) (dSeq (dIf (dTst (dOp rEq (dVar 0) (dC (.int 20)))) (dRaise "NotGood" (dCons (dVar 1) dNil)) dNext) (dSeq (dIf (dTst (dOp rEq (dVar 0) (dC (.int 21)))) (dRaise "UnknownName" (dCons (dVar 1) dNil)) dNext) (dSeq (dIf (dTst (dOp rEq (dVar 0) (dC (.int 22)))) (dRaise "NothingToUndo" (dCons (dVar 1) dNil)) dNext) (dSeq (dIf (dTst (dOp rEq (dVar 0) (dC (.int 23)))) (dRaise "Unreadable" (dCons (dVar 1) dNil)) dNext) (dRaise "Unorderly" (dCons (dVar 1) dNil)))))))))))))
/-- _law_raise_named_first(which, given); slots: 0 which, 1 given -/
def t__law_raise_named_first : TSD := (dSeq (dIf (dTst (dOp rEq (dVar 0) (dC (.int 0)))) (dRaise "InvalidBook" (dCons (dVar 1) dNil)) dNext) (dSeq (dIf (dTst (dOp rEq (dVar 0) (dC (.int 1)))) (dRaise "InvalidWord" (dCons (dVar 1) dNil)) dNext) (dSeq (dIf (dTst (dOp rEq (dVar 0) (dC (.int 2)))) (dRaise "InvalidNumber" (dCons (dVar 1) dNil)) dNext) (dSeq (dIf (dTst (dOp rEq (dVar 0) (dC (.int 3)))) (dRaise "InvalidKey" (dCons (dVar 1) dNil)) dNext) (dSeq (dIf (dTst (dOp rEq (dVar 0) (dC (.int 4)))) (dRaise "InvalidCell" (dCons (dVar 1) dNil)) dNext) (dSeq (dIf (dTst (dOp rEq (dVar 0) (dC (.int 5)))) (dRaise "InvalidRow" (dCons (dVar 1) dNil)) dNext) (dSeq (dIf (dTst (dOp rEq (dVar 0) (dC (.int 6)))) (dRaise "InvalidLot" (dCons (dVar 1) dNil)) dNext) (dSeq (dIf (dTst (dOp rEq (dVar 0) (dC (.int 7)))) (dRaise "InvalidTable" (dCons (dVar 1) dNil)) dNext) (dSeq (dIf (dTst (dOp rEq (dVar 0) (dC (.int 8)))) (dRaise "InvalidValues" (dCons (dVar 1) dNil)) dNext) (dSeq (dIf (dTst (dOp rEq (dVar 0) (dC (.int 9)))) (dRaise "InvalidRoad" (dCons (dVar 1) dNil)) dNext) (dSeq (dIf (dTst (dOp rEq (dVar 0) (dC (.int 10)))) (dRaise "InvalidSeats" (dCons (dVar 1) dNil)) dNext) (dSeq (dIf (dTst (dOp rEq (dVar 0) (dC (.int 11)))) (dRaise "NotFree" (dCons (dVar 1) dNil)) dNext) (dRaise "NoTable" (dCons (dVar 1) dNil))))))))))))))
/-- _law_raise_named_second(which, given); slots: 0 which, 1 given -/
def t__law_raise_named_second : TSD := (dSeq (dIf (dTst (dOp rEq (dVar 0) (dC (.int 13)))) (dRaise "NoSeats" (dCons (dVar 1) dNil)) dNext) (dSeq (dIf (dTst (dOp rEq (dVar 0) (dC (.int 14)))) (dRaise "InvalidPlacing" (dCons (dVar 1) dNil)) dNext) (dSeq (dIf (dTst (dOp rEq (dVar 0) (dC (.int 15)))) (dRaise "InvalidChain" (dCons (dVar 1) dNil)) dNext) (dSeq (dIf (dTst (dOp rEq (dVar 0) (dC (.int 16)))) (dRaise "InvalidMixing" (dCons (dVar 1) dNil)) dNext) (dSeq (dIf (dTst (dOp rEq (dVar 0) (dC (.int 17)))) (dRaise "InvalidFilter" (dCons (dVar 1) dNil)) dNext) (dSeq (dIf (dTst (dOp rEq (dVar 0) (dC (.int 18)))) (dRaise "InvalidName" (dCons (dVar 1) dNil)) dNext) (dSeq (dIf (dTst (dOp rEq (dVar 0) (dC (.int 19)))) (dRaise "HasCore" (dCons (dVar 1) dNil)) dNext) (dSeq (dIf (dTst (dOp rEq (dVar 0) (dC (.int 20)))) (dRaise "NotGood" (dCons (dVar 1) dNil)) dNext) (dSeq (dIf (dTst (dOp rEq (dVar 0) (dC (.int 21)))) (dRaise "UnknownName" (dCons (dVar 1) dNil)) dNext) (dSeq (dIf (dTst (dOp rEq (dVar 0) (dC (.int 22)))) (dRaise "NothingToUndo" (dCons (dVar 1) dNil)) dNext) (dSeq (dIf (dTst (dOp rEq (dVar 0) (dC (.int 23)))) (dRaise "Unreadable" (dCons (dVar 1) dNil)) dNext) (dRaise "Unorderly" (dCons (dVar 1) dNil)))))))))))))
/-- _law_raised(which, given, named); slots: 0 which, 1 given, 2 named -/
def t__law_raised : TSD := (dIf (dAnd (dTst (dOp rLt (dVar 0) (dC (.int 13)))) (dTst (dVar 2))) (dDrop (dCall (spN 2 sp__law_raise_named_first) (dCons (dVar 0) (dCons (dVar 1) dNil)))) (dIf (dTst (dOp rLt (dVar 0) (dC (.int 13)))) (dDrop (dCall (spN 2 sp__law_raise_first) (dCons (dVar 0) (dCons (dVar 1) dNil)))) (dIf (dTst (dVar 2)) (dDrop (dCall (spN 2 sp__law_raise_named_second) (dCons (dVar 0) (dCons (dVar 1) dNil)))) (dDrop (dCall (spN 2 sp__law_raise_second) (dCons (dVar 0) (dCons (dVar 1) dNil)))))))
/-- _law_kinds(e); slots: 0 e, 1 found -/
def t__law_kinds : TSD := (dSeq (dSet 1 (dLst (dCons (dIsx exsL "InvalidBook" (dVar 0)) (dCons (dIsx exsL "InvalidWord" (dVar 0)) (dCons (dIsx exsL "InvalidNumber" (dVar 0)) dNil))))) (dSeq (dSet 1 (dOp rAdd (dVar 1) (dLst (dCons (dIsx exsL "InvalidKey" (dVar 0)) (dCons (dIsx exsL "InvalidCell" (dVar 0)) (dCons (dIsx exsL "InvalidRow" (dVar 0)) dNil)))))) (dSeq (dSet 1 (dOp rAdd (dVar 1) (dLst (dCons (dIsx exsL "InvalidLot" (dVar 0)) (dCons (dIsx exsL "InvalidTable" (dVar 0)) (dCons (dIsx exsL "InvalidValues" (dVar 0)) dNil)))))) (dSeq (dSet 1 (dOp rAdd (dVar 1) (dLst (dCons (dIsx exsL "InvalidRoad" (dVar 0)) (dCons (dIsx exsL "InvalidSeats" (dVar 0)) (dCons (dIsx exsL "NotFree" (dVar 0)) dNil)))))) (dSeq (dSet 1 (dOp rAdd (dVar 1) (dLst (dCons (dIsx exsL "NoTable" (dVar 0)) (dCons (dIsx exsL "NoSeats" (dVar 0)) (dCons (dIsx exsL "InvalidPlacing" (dVar 0)) dNil)))))) (dSeq (dSet 1 (dOp rAdd (dVar 1) (dLst (dCons (dIsx exsL "InvalidChain" (dVar 0)) (dCons (dIsx exsL "InvalidMixing" (dVar 0)) (dCons (dIsx exsL "InvalidFilter" (dVar 0)) dNil)))))) (dSeq (dSet 1 (dOp rAdd (dVar 1) (dLst (dCons (dIsx exsL "InvalidName" (dVar 0)) (dCons (dIsx exsL "HasCore" (dVar 0)) (dCons (dIsx exsL "NotGood" (dVar 0)) dNil)))))) (dSeq (dSet 1 (dOp rAdd (dVar 1) (dLst (dCons (dIsx exsL "UnknownName" (dVar 0)) (dCons (dIsx exsL "NothingToUndo" (dVar 0)) (dCons (dIsx exsL "Unreadable" (dVar 0)) dNil)))))) (dRet (dOp rAdd (dVar 1) (dLst (dCons (dIsx exsL "Unorderly" (dVar 0)) dNil))))))))))))
/-- _law_given(deck); slots: 0 deck, 1 far, 2 some -/
def t__law_given : TSD := (dSeq (dSet 1 (dOp rSub (dCall (spN 2 sp__law_take) (dCons (dVar 0) (dCons (dOp rPow (dC (.int 10)) (dC (.int 30))) dNil))) (dOp rPow (dC (.int 10)) (dC (.int 29))))) (dSeq (dSet 2 (dLst (dCons (dVar 1) (dCons (dCall (spN 2 sp__law_take) (dCons (dVar 0) (dCons (dC (.int 9)) dNil))) (dCons (dC (.str "")) (dCons (dC (.str "a b")) (dCons (dC .non) (dCons (dC (.bl true)) (dCons (dC (.bl false)) (dCons (dTup dNil) (dCons (dTup (dCons (dVar 1) (dCons (dC (.int 1)) dNil))) (dCons (dLst (dCons (dVar 1) (dCons (dC (.str "x")) dNil))) (dCons (dTup (dCons (dTup (dCons (dC (.int 1)) (dCons (dC (.int 2)) dNil))) (dCons (dTup (dCons (dC (.str "a")) (dCons (dTup dNil) dNil))) dNil))) (dCons (dLst dNil) dNil)))))))))))))) (dSeq (dSet 2 (dOp rAdd (dVar 2) (dLst (dCons (dUn rNeg (dC (.int 1))) (dCons (dC (.int 0)) dNil))))) (dRet (dOp rIx (dVar 2) (dCall (spN 2 sp__law_take) (dCons (dVar 0) (dCons (dC (.int 14)) dNil))))))))
/-- _law_right(which, given, named); slots: 0 which, 1 given, 2 named, 3 caught, 4 e, 5 k -/
def t__law_right : TSD := (dSeq (dSet 3 (dC .non)) (dSeq (dTry (dDrop (dCall (spN 3 sp__law_raised) (dCons (dVar 0) (dCons (dVar 1) (dCons (dVar 2) dNil))))) (⟨"TellError", (some 4), (dSet 3 (dVar 4))⟩ :: [])) (dSeq (dIf (dOr (dTst (dOp rIs (dVar 3) (dC .non))) (dNot (dTst (dIsxV exsL (dVar 3))))) (dRet (dC (.bl false))) dNext) (dRet (dAndV (dOp rEq (dCall (spN 1 sp__law_kinds) (dCons (dVar 3) dNil)) (dLc (iRg1 (dCons (dC (.int 25)) dNil)) (gNm 5) dYes (dOp rEq (dVar 5) (dVar 0)) [5])) (dCall (spN 2 sp__law_same) (dCons (dXv (dVar 3)) (dCons (dVar 1) dNil))))))))
/-- _law_base_right(given); slots: 0 given, 1 caught, 2 e -/
def t__law_base_right : TSD := (dSeq (dSet 1 (dC .non)) (dSeq (dTry (dRaise "TellError" (dCons (dVar 0) dNil)) (⟨"TellError", (some 2), (dSet 1 (dVar 2))⟩ :: [])) (dSeq (dIf (dOr (dNot (dTst (dIsxV exsL (dVar 1)))) (dTst (dOp rIn (dC (.bl true)) (dCall (spN 1 sp__law_kinds) (dCons (dVar 1) dNil))))) (dRet (dC (.bl false))) dNext) (dRet (dAndV (dCall (spN 2 sp__law_same) (dCons (dXv (dVar 1)) (dCons (dVar 0) dNil))) (dCall (spN 2 sp__law_same) (dCons (dXnew (dCons (dVar 0) dNil)) (dCons (dVar 0) dNil))))))))

theorem isx_at {S : Sto} {n : Nat} {y : Str} {d : D} {exs : List Str} {r : Str → Bool} {k : KD} (hn : S[n]? = some (.exo y d)) (hy : y ∈ exs) (h : k (.bl (r y)) S) : kIsx exs r k (.ref n) S := ⟨y, d, hn, hy, h⟩
theorem cls_exs {y : Str} (h : y ∈ ("TellError" : Str) :: clsN) : y ∈ exsL := by
  have : ∀ y ∈ ("TellError" : Str) :: clsN, y ∈ exsL := by decide
  exact this y h
theorem clsAt_mem {i : Nat} (h : i < 25) : clsAt i ∈ clsN := by
  unfold clsAt
  rw [List.getD_eq_getElem?_getD, List.getElem?_eq_getElem (show i < clsN.length from h)]
  exact List.getElem_mem _
theorem k__law_raise_first : Keeps 2 2 t__law_raise_first sp__law_raise_first := by
  intro ds S k x hl cS cd h
  obtain ⟨i, d, rfl, hi, h⟩ := h
  show t__law_raise_first (endsD S.length k x) [some (.int i), some d] S
  have h2 : wkX S.length x (clsAt i, d) S := .inl h
  simp only [t__law_raise_first]
  walk_at "dx"
  repeat' (first | refine And.intro (fun z => ?_) (fun z => ?_))
  all_goals first
    | (obtain rfl : i = 0 := (by omega); exact h2)
    | (obtain rfl : i = 1 := (by omega); exact h2)
    | (obtain rfl : i = 2 := (by omega); exact h2)
    | (obtain rfl : i = 3 := (by omega); exact h2)
    | (obtain rfl : i = 4 := (by omega); exact h2)
    | (obtain rfl : i = 5 := (by omega); exact h2)
    | (obtain rfl : i = 6 := (by omega); exact h2)
    | (obtain rfl : i = 7 := (by omega); exact h2)
    | (obtain rfl : i = 8 := (by omega); exact h2)
    | (obtain rfl : i = 9 := (by omega); exact h2)
    | (obtain rfl : i = 10 := (by omega); exact h2)
    | (obtain rfl : i = 11 := (by omega); exact h2)
    | (obtain rfl : i = 12 := (by omega); exact h2)
theorem k__law_raise_second : Keeps 2 2 t__law_raise_second sp__law_raise_second := by
  intro ds S k x hl cS cd h
  obtain ⟨i, d, rfl, h13, hi, h⟩ := h
  show t__law_raise_second (endsD S.length k x) [some (.int i), some d] S
  have h2 : wkX S.length x (clsAt i, d) S := .inl h
  simp only [t__law_raise_second]
  walk_at "dx"
  repeat' (first | refine And.intro (fun z => ?_) (fun z => ?_))
  all_goals first
    | (obtain rfl : i = 13 := (by omega); exact h2)
    | (obtain rfl : i = 14 := (by omega); exact h2)
    | (obtain rfl : i = 15 := (by omega); exact h2)
    | (obtain rfl : i = 16 := (by omega); exact h2)
    | (obtain rfl : i = 17 := (by omega); exact h2)
    | (obtain rfl : i = 18 := (by omega); exact h2)
    | (obtain rfl : i = 19 := (by omega); exact h2)
    | (obtain rfl : i = 20 := (by omega); exact h2)
    | (obtain rfl : i = 21 := (by omega); exact h2)
    | (obtain rfl : i = 22 := (by omega); exact h2)
    | (obtain rfl : i = 23 := (by omega); exact h2)
    | (obtain rfl : i = 24 := (by omega); exact h2)
theorem k__law_raise_named_first : Keeps 2 2 t__law_raise_named_first sp__law_raise_named_first := by
  intro ds S k x hl cS cd h
  obtain ⟨i, d, rfl, hi, h⟩ := h
  show t__law_raise_named_first (endsD S.length k x) [some (.int i), some d] S
  have h2 : wkX S.length x (clsAt i, d) S := .inl h
  simp only [t__law_raise_named_first]
  walk_at "dx"
  repeat' (first | refine And.intro (fun z => ?_) (fun z => ?_))
  all_goals first
    | (obtain rfl : i = 0 := (by omega); exact h2)
    | (obtain rfl : i = 1 := (by omega); exact h2)
    | (obtain rfl : i = 2 := (by omega); exact h2)
    | (obtain rfl : i = 3 := (by omega); exact h2)
    | (obtain rfl : i = 4 := (by omega); exact h2)
    | (obtain rfl : i = 5 := (by omega); exact h2)
    | (obtain rfl : i = 6 := (by omega); exact h2)
    | (obtain rfl : i = 7 := (by omega); exact h2)
    | (obtain rfl : i = 8 := (by omega); exact h2)
    | (obtain rfl : i = 9 := (by omega); exact h2)
    | (obtain rfl : i = 10 := (by omega); exact h2)
    | (obtain rfl : i = 11 := (by omega); exact h2)
    | (obtain rfl : i = 12 := (by omega); exact h2)
theorem k__law_raise_named_second : Keeps 2 2 t__law_raise_named_second sp__law_raise_named_second := by
  intro ds S k x hl cS cd h
  obtain ⟨i, d, rfl, h13, hi, h⟩ := h
  show t__law_raise_named_second (endsD S.length k x) [some (.int i), some d] S
  have h2 : wkX S.length x (clsAt i, d) S := .inl h
  simp only [t__law_raise_named_second]
  walk_at "dx"
  repeat' (first | refine And.intro (fun z => ?_) (fun z => ?_))
  all_goals first
    | (obtain rfl : i = 13 := (by omega); exact h2)
    | (obtain rfl : i = 14 := (by omega); exact h2)
    | (obtain rfl : i = 15 := (by omega); exact h2)
    | (obtain rfl : i = 16 := (by omega); exact h2)
    | (obtain rfl : i = 17 := (by omega); exact h2)
    | (obtain rfl : i = 18 := (by omega); exact h2)
    | (obtain rfl : i = 19 := (by omega); exact h2)
    | (obtain rfl : i = 20 := (by omega); exact h2)
    | (obtain rfl : i = 21 := (by omega); exact h2)
    | (obtain rfl : i = 22 := (by omega); exact h2)
    | (obtain rfl : i = 23 := (by omega); exact h2)
    | (obtain rfl : i = 24 := (by omega); exact h2)
theorem k__law_raised : Keeps 3 3 t__law_raised sp__law_raised := by
  intro ds S k x hl cS cd h
  obtain ⟨i, d, b, rfl, hi, h⟩ := h
  show t__law_raised (endsD S.length k x) [some (.int i), some d, some (.bl b)] S
  have h2 : wkX S.length x (clsAt i, d) S := .inl h
  simp only [t__law_raised]
  walk_at "dx"
  repeat' (first | refine And.intro (fun z => ?_) (fun z => ?_))
  all_goals first
    | (exfalso; omega)
    | exact ⟨i, d, rfl, by omega, h2⟩
    | exact ⟨i, d, rfl, by omega, by omega, h2⟩
def intJ : D → Int
  | .int i => i
  | _ => 0
theorem kinds_eq : ∀ i : Nat, i < 25 → eqDs (kindsD (clsAt i)) (((List.range (Int.toNat 25)).map fun j : Nat => D.int (0 + (j : Int))).map fun d => .bl (decide (intJ d = (i : Int)))) = true := by decide +kernel
theorem kinds_pds {y : Str} (_ : y ∈ clsN) : pds 1 (kindsD y) = true := rfl
theorem k__law_kinds : Keeps 1 2 t__law_kinds sp__law_kinds := by
  intro ds S k x hl cS cd h
  obtain ⟨n, y, d, rfl, hn, hy, h⟩ := h
  have hx := cls_exs hy
  have ex : ∀ G : Sto, (S ++ G)[n]? = some (.exo y d) := fun G => get_app hn
  show t__law_kinds (endsD S.length k x) [some (.ref n), none] S
  simp only [t__law_kinds]
  refine dSeq_go ?_
  walk_at "dz"
  refine isx_at hn hx ?_
  walk_at "dz"
  refine isx_at hn hx ?_
  walk_at "dz"
  refine isx_at hn hx ?_
  walk_at "dz"
  refine ⟨by decide, ?_⟩
  refine dSeq_go ?_
  walk_at "dz"
  refine isx_at (ex _) hx ?_
  walk_at "dz"
  refine isx_at (ex _) hx ?_
  walk_at "dz"
  refine isx_at (ex _) hx ?_
  walk_at "dz"
  refine ⟨by decide, by decide, ?_⟩
  refine dSeq_go ?_
  walk_at "dz"
  refine isx_at (ex _) hx ?_
  walk_at "dz"
  refine isx_at (ex _) hx ?_
  walk_at "dz"
  refine isx_at (ex _) hx ?_
  walk_at "dz"
  refine ⟨by decide, by decide, ?_⟩
  refine dSeq_go ?_
  walk_at "dz"
  refine isx_at (ex _) hx ?_
  walk_at "dz"
  refine isx_at (ex _) hx ?_
  walk_at "dz"
  refine isx_at (ex _) hx ?_
  walk_at "dz"
  refine ⟨by decide, by decide, ?_⟩
  refine dSeq_go ?_
  walk_at "dz"
  refine isx_at (ex _) hx ?_
  walk_at "dz"
  refine isx_at (ex _) hx ?_
  walk_at "dz"
  refine isx_at (ex _) hx ?_
  walk_at "dz"
  refine ⟨by decide, by decide, ?_⟩
  refine dSeq_go ?_
  walk_at "dz"
  refine isx_at (ex _) hx ?_
  walk_at "dz"
  refine isx_at (ex _) hx ?_
  walk_at "dz"
  refine isx_at (ex _) hx ?_
  walk_at "dz"
  refine ⟨by decide, by decide, ?_⟩
  refine dSeq_go ?_
  walk_at "dz"
  refine isx_at (ex _) hx ?_
  walk_at "dz"
  refine isx_at (ex _) hx ?_
  walk_at "dz"
  refine isx_at (ex _) hx ?_
  walk_at "dz"
  refine ⟨by decide, by decide, ?_⟩
  refine dSeq_go ?_
  walk_at "dz"
  refine isx_at (ex _) hx ?_
  walk_at "dz"
  refine isx_at (ex _) hx ?_
  walk_at "dz"
  refine isx_at (ex _) hx ?_
  walk_at "dz"
  refine ⟨by decide, by decide, ?_⟩
  walk_at "dz"
  refine isx_at (ex _) hx ?_
  walk_at "dz"
  refine ⟨by decide, by decide, ?_⟩
  exact wk_new rfl cS (Nat.le_add_right _ _) (get_k (A := S) 16 (by omega) rfl) (by repeat' (first | exact trivial | constructor)) h
theorem k__law_given : Keeps 1 3 t__law_given sp__law_given := by
  intro ds S k x hl cS cd h
  obtain ⟨n, a, b, rfl, hd, hb, h⟩ := h
  show t__law_given (endsD S.length k x) [some (.ref n), none, none] S
  simp only [t__law_given]
  refine dSeq_go ?_
  walk_at "dz"
  refine ⟨.inl ⟨by decide, by decide, by decide⟩, ?_⟩
  rw [show (10 : Int) ^ Int.toNat 30 = ((10 ^ 30 : Nat) : Int) by decide]
  refine ⟨n, a, b, _, rfl, by decide, by decide, hd, hb, fun r1 a1 b1 hr1 hb1 => ?_⟩
  walk_at "dz"
  refine ⟨.inl ⟨by decide, by decide, by decide⟩, ?_⟩
  generalize (r1 : Int) - 10 ^ Int.toNat 29 = far
  refine dSeq_go ?_
  walk_at "dz"
  refine take_set0 hd (many := 9) (by decide) (by decide) hb1 fun r2 a2 b2 hr2 hb2 => ?_
  walk_at "dz"
  refine ⟨by decide, by decide, by decide, by decide, by decide, by decide, by decide, by decide, by decide, ?_⟩
  refine dSeq_go ?_
  walk_at "dz"
  refine ⟨by decide, _, get_k 2 (by simp) rfl, _, get_k 3 (by simp) rfl, (show 14 ≤ sizeLine by decide), ?_⟩
  walk_at "dz"
  refine take_set hd (many := 14) (by decide) (by decide) hb2 fun r3 a3 b3 hr3 hb3 => ?_
  walk_at "dz"
  obtain ⟨d, hd3, hd4⟩ := atI_in [D.int far, .int r2, .str "", .str "a b", .non, .bl true, .bl false, .tup [], .tup [.int far, .int 1], .ref S.length, .tup [.tup [.int 1, .int 2], .tup [.str "a", .tup []]], .ref (S.length + 1), .int (-1), .int 0] r3 hr3
  refine ⟨_, lget_k 4 (by simp) rfl, d, hd3, wk_now (h d a3 b3 _ hb3 ?_)⟩
  have hlt := get_lt hd
  simp only [List.mem_cons, List.not_mem_nil, or_false] at hd4
  rcases hd4 with rfl | rfl | rfl | rfl | rfl | rfl | rfl | rfl | rfl | rfl | rfl | rfl | rfl | rfl
  all_goals first
    | exact .inl rfl
    | exact .inl (show sdB 8 (.tup [.int far, .int 1]) = true by simp [sdB])
    | exact .inr ⟨S.length, [.int far, .str "x"], rfl, hlt, lget_k 0 (by simp) rfl, rfl, (show 2 ≤ 3 by decide)⟩
    | exact .inr ⟨S.length + 1, [], rfl, by omega, lget_k 1 (by simp) rfl, rfl, by decide⟩
theorem k__law_right : Keeps 3 6 t__law_right sp__law_right := by
  intro ds S k x hl cS cd h
  obtain ⟨p, i, d, b, rfl, hi, hg, h⟩ := h
  show t__law_right (endsD S.length k x) [some (.int i), some d, some (.bl b), none, none, none] S
  simp only [t__law_right]
  refine dSeq_go ?_
  walk_at "dz"
  refine dSeq_go ?_
  walk_at "dz"
  have hc := clsAt_mem hi
  have hx : clsAt i ∈ exsL := cls_exs (List.mem_cons_of_mem _ hc)
  refine ⟨i, d, b, rfl, hi, fun _ => ?_, fun z => ?_⟩
  · walk_at "dx"
    refine isx_at get_at0 hx ?_
    walk_at "dx"
    refine ⟨_, _, _, rfl, get_at0, List.mem_cons_of_mem _ hc, ?_⟩
    walk_at "dx"
    refine ⟨by decide, by decide, lc_map (fun e => .bl (decide (intJ e = (i : Int)))) (fun e he acc kk hk => ?_) (fun _ => trivial) (by rw [List.length_map, List.length_range, sl16]; decide) ?_⟩
    · obtain ⟨j, hj, rfl⟩ := List.mem_map.mp he
      walk_at "dx"
      have e : S ++ [O.exo (clsAt i) d, O.lst (kindsD (clsAt i))] ++ [O.lst acc] = S ++ [O.exo (clsAt i) d, O.lst (kindsD (clsAt i)), O.lst acc] := by simp
      rw [e] at hk
      exact hk
    · walk_at "dx"
      refine eqG_lst 1 1 (lget_k 1 rfl rfl) (lget_k 2 rfl rfl) (kinds_pds hc) rfl ?_
      rw [kinds_eq i hi]
      refine ⟨fun _ => ?_, fun z => nomatch z⟩
      walk_at "dx"
      exact ⟨_, _, rfl, same_call (giv_same (giv_app hg _)) (wk_drop rfl cS trivial h)⟩
  · exfalso
    unfold exSub at z
    simp at z
theorem k__law_base_right : Keeps 1 3 t__law_base_right sp__law_base_right := by
  intro ds S k x hl cS cd h
  obtain ⟨p, d, rfl, hg, h⟩ := h
  show t__law_base_right (endsD S.length k x) [some d, none, none] S
  simp only [t__law_base_right]
  refine dSeq_go ?_
  walk_at "dz"
  refine dSeq_go ?_
  walk_at "dz"
  refine ⟨fun _ => ?_, fun z => (nomatch (show exSub "TellError" "TellError" = true from by decide).symm.trans z)⟩
  walk_at "dx"
  refine isx_at get_at0 (by decide) ?_
  walk_at "dx"
  refine ⟨_, _, _, rfl, get_at0, List.mem_cons_self, ?_⟩
  walk_at "dx"
  refine ⟨rfl, rfl, fun z => (nomatch (show inF (.bl true) (kindsD "TellError") = false from by decide).symm.trans z), fun _ => ⟨_, _, rfl, same_call (giv_same (giv_app hg _)) ?_⟩⟩
  walk_at "dx"
  exact same_call (giv_same (giv_app hg _)) (wk_drop rfl cS trivial h)
/-! ### the law -/
def sp_law : SpD := fun ds S k _ => ∃ (n : Nat) (ns : List Int), ds = [.ref n] ∧ S[n]? = some (.ro (ns.map D.int)) ∧ ns.length ≤ 63 ∧ k (.bl true) S
/-- law(script); slots: 0 script, 1 first, 2 second, 3 k, 4 deck, 5 e, 6 which, 7 named, 8 given, 9 other -/
def t_law : TSD := (dSeq (dAsg (dTup (dCons (dC .non) (dCons (dC .non) dNil))) (gTp 2 (gsCons (gNm 1) (gsCons (gNm 2) gsNil)))) (dSeq (dFor (iRg1 (dCons (dCall spMax (dCons (dC (.int 1)) (dCons (dCall spMin (dCons (dCall spLen (dCons (dVar 0) dNil)) (dCons (dC (.int 40)) dNil))) dNil))) dNil)) (gNm 3) (dSeq (dSet 4 (dCall (spN 2 sp__law_deck) (dCons (dVar 0) (dCons (dVar 3) dNil)))) (dSeq (dPar 6 7 (dCons (dCall (spN 2 sp__law_take) (dCons (dVar 4) (dCons (dC (.int 25)) dNil))) (dCons (dOp rEq (dCall (spN 2 sp__law_take) (dCons (dVar 4) (dCons (dC (.int 2)) dNil))) (dC (.int 1))) dNil))) (dSeq (dPar 8 9 (dCons (dCall (spN 1 sp__law_given) (dCons (dVar 4) dNil)) (dCons (dCall (spN 1 sp__law_given) (dCons (dVar 4) dNil)) dNil))) (dSeq (dIf (dOr (dNot (dTst (dCall (spN 3 sp__law_right) (dCons (dVar 6) (dCons (dVar 8) (dCons (dVar 7) dNil)))))) (dOr (dNot (dTst (dCall (spN 3 sp__law_right) (dCons (dVar 6) (dCons (dVar 9) (dCons (dNotV (dVar 7)) dNil)))))) (dNot (dTst (dCall (spN 1 sp__law_base_right) (dCons (dVar 9) dNil)))))) (dRet (dC (.bl false))) dNext) (dSeq (dTry (dDrop (dCall (spN 3 sp__law_raised) (dCons (dVar 6) (dCons (dVar 8) (dCons (dVar 7) dNil))))) (⟨"TellError", (some 5), (dSet 1 (dVar 5))⟩ :: [])) (dSeq (dTry (dDrop (dCall (spN 3 sp__law_raised) (dCons (dVar 6) (dCons (dVar 9) (dCons (dVar 7) dNil))))) (⟨"TellError", (some 5), (dSet 2 (dVar 5))⟩ :: [])) (dIf (dOr (dNot (dTst (dCall (spN 2 sp__law_same) (dCons (dXv (dVar 1)) (dCons (dVar 8) dNil))))) (dNot (dTst (dCall (spN 2 sp__law_same) (dCons (dXv (dVar 2)) (dCons (dVar 9) dNil)))))) (dRet (dC (.bl false))) dNext)))))))) (dSeq (dFor (iRg1 (dCons (dC (.int 25)) dNil)) (gNm 6) (dIf (dOr (dNot (dTst (dCall (spN 3 sp__law_right) (dCons (dVar 6) (dCons (dVar 6) (dCons (dC (.bl false)) dNil)))))) (dNot (dTst (dCall (spN 3 sp__law_right) (dCons (dVar 6) (dCons (dC (.str "a")) (dCons (dC (.bl true)) dNil))))))) (dRet (dC (.bl false))) dNext)) (dRet (dC (.bl true))))))

theorem k_law : Keeps 1 10 t_law sp_law := by
  intro ds S k x hl cS cd h
  obtain ⟨n, ns, rfl, hd, hn, h⟩ := h
  show t_law (endsD S.length k x) [some (.ref n), none, none, none, none, none, none, none, none, none] S
  have hL : lget S n = some (ns.map D.int) := by unfold lget; rw [hd]
  have fin : ∀ G, wk S.length k (.bl true) (S ++ G) := fun G => wk_drop rfl cS trivial h
  simp only [t_law]
  refine dSeq_go ?_
  walk_at "dz"
  refine ⟨by decide, ?_⟩
  refine dSeq_cut (fun sg S' => ∃ (G : Sto) (d1 d2 d3 d4 d5 d6 d7 d8 d9 : Option D), sg = [some (.ref n), d1, d2, d3, d4, d5, d6, d7, d8, d9] ∧ S' = S ++ G) (fun nx hnx => ?_) ?_
  · walk_at "dz"
    refine ⟨_, hL, ?_⟩
    rw [List.length_map]
    obtain ⟨N, hN, hN2⟩ : ∃ N : Nat, (if (if (40 : Int) < (ns.length : Int) then (40 : Int) else ns.length) > 1 then (if (40 : Int) < (ns.length : Int) then (40 : Int) else ns.length) else (1 : Int)) = (N : Int) ∧ N ≤ 40 := by
      by_cases h1 : (40 : Int) < (ns.length : Int)
      · simp only [if_pos h1]
        exact ⟨40, by decide, Nat.le_refl _⟩
      · simp only [if_neg h1]
        by_cases h2 : (ns.length : Int) > 1
        · exact ⟨ns.length, if_pos h2, by omega⟩
        · exact ⟨1, if_neg h2, by decide⟩
    rw [hN]
    refine ⟨by omega, by omega, wFor_rng N (fun i sg S' => ∃ (G : Sto) (d1 d2 d3 d4 d5 d6 d7 d8 d9 : Option D), sg = [some (.ref n), d1, d2, d3, d4, d5, d6, d7, d8, d9] ∧ S' = S ++ G) ⟨[], _, _, _, _, _, _, _, _, _, rfl, (List.append_nil _).symm⟩ ?_ ?_⟩
    · rintro sg S' ⟨G, d1, d2, d3, d4, d5, d6, d7, d8, d9, rfl, rfl⟩
      exact ⟨trivial, hnx _ _ ⟨G, _, _, _, _, _, _, _, _, _, rfl, rfl⟩⟩
    · rintro i sg S' nx2 hi ⟨G, d1, d2, d3, d4, d5, d6, d7, d8, d9, rfl, rfl⟩ hnx2
      refine ⟨trivial, ?_⟩
      refine dSeq_go ?_
      walk_at "dz"
      refine ⟨n, i, ns, by rw [Int.zero_add], get_app hd, by omega, by rw [sl16]; omega, fun a b hb => ?_⟩
      walk_at "dz"
      have hw : (S ++ (G ++ [deckO a b]))[S.length + G.length]? = some (deckO a b) := get_k G.length rfl (by simp)
      have hfin : ∀ (u : O) (G2 : Sto), ∃ G', (S ++ (G ++ [deckO a b])).set (S.length + G.length) u ++ G2 = S ++ G' := fun u G2 => ⟨_, by rw [set_at, List.append_assoc]⟩
      generalize S ++ (G ++ [deckO a b]) = U at hw hfin ⊢
      generalize S.length + G.length = w at hw hfin ⊢
      have hwl := get_lt hw
      refine dSeq_go ?_
      walk_at "dz"
      refine ⟨w, a, b, 25, rfl, by decide, by decide, hw, hb, fun r a1 b1 hr hb1 => ?_⟩
      walk_at "dz"
      refine take_set0 hw (many := 2) (by decide) (by decide) hb1 fun r2 a2 b2 hr2 hb2 => ?_
      walk_at "dz"
      generalize decide ((r2 : Int) = 1) = nm
      refine dSeq_go ?_
      walk_at "dz"
      refine ⟨w, a2, b2, rfl, get_set_self hw, hb2, fun d a3 b3 G1 hb3 hg1 => ?_⟩
      rw [List.set_set] at hg1 ⊢
      walk_at "dz"
      refine ⟨w, a3, b3, rfl, get_app (get_set_self hw), hb3, fun e a4 b4 G2 hb4 hg2 => ?_⟩
      have hg1 : Giv w ((U.set w (deckO a3 b3) ++ G1).set w (deckO a4 b4) ++ G2) d := giv_app (giv_set hg1) G2
      have eV : (U.set w (deckO a3 b3) ++ G1).set w (deckO a4 b4) ++ G2 = U.set w (deckO a4 b4) ++ (G1 ++ G2) := by
        rw [set_app (by rw [List.length_set]; exact hwl), List.set_set, List.append_assoc]
      rw [eV] at hg1 hg2 ⊢
      obtain ⟨G3, hG3⟩ := hfin (deckO a4 b4) (G1 ++ G2)
      rw [hG3] at hg1 hg2 ⊢
      walk_at "dz"
      refine dSeq_go ?_
      walk_at "dz"
      refine ⟨w, r, d, nm, rfl, hr, hg1, ?_⟩
      walk_at "dz"
      refine ⟨w, r, e, !nm, rfl, hr, hg2, ?_⟩
      walk_at "dz"
      refine ⟨w, e, rfl, hg2, ?_⟩
      walk_at "dz"
      have tell : ∀ i, exSub (clsAt i) "TellError" = true := fun i => by simp [exSub]
      refine dSeq_go ?_
      walk_at "dz"
      refine ⟨r, d, nm, rfl, hr, fun _ => ?_, fun z => (nomatch (tell r).symm.trans z)⟩
      walk_at "dz"
      refine dSeq_go ?_
      walk_at "dz"
      refine ⟨r, e, nm, rfl, hr, fun _ => ?_, fun z => (nomatch (tell r).symm.trans z)⟩
      walk_at "dz"
      refine ⟨_, _, rfl, same_call (giv_same (by rw [← List.append_assoc]; exact giv_app hg1 _)) ?_⟩
      walk_at "dz"
      refine ⟨_, _, rfl, same_call (giv_same (by rw [← List.append_assoc]; exact giv_app hg2 _)) ?_⟩
      walk_at "dz"
      exact hnx2 _ _ ⟨_, _, _, _, _, _, _, _, _, _, rfl, rfl⟩
  · rintro sg S' ⟨G, d1, d2, d3, d4, d5, d6, d7, d8, d9, rfl, rfl⟩
    walk_at "dx"
    refine ⟨by decide, by decide, wFor_rng 25 (fun i sg S' => ∃ (d1 d2 d3 d4 d5 d6 d7 d8 d9 : Option D), sg = [some (.ref n), d1, d2, d3, d4, d5, d6, d7, d8, d9] ∧ S' = S ++ G) ⟨_, _, _, _, _, _, _, _, _, rfl, rfl⟩ ?_ ?_⟩
    · rintro sg S' ⟨d1, d2, d3, d4, d5, d6, d7, d8, d9, rfl, rfl⟩
      refine ⟨trivial, ?_⟩
      walk_at "dx"
      exact fin G
    · rintro i sg S' nx2 hi ⟨d1, d2, d3, d4, d5, d6, d7, d8, d9, rfl, rfl⟩ hnx2
      refine ⟨trivial, ?_⟩
      walk_at "dx"
      refine ⟨0, i, .int (0 + (i : Int)), false, by rw [Int.zero_add], hi, .inl rfl, ?_⟩
      walk_at "dx"
      refine ⟨0, i, .str "a", true, by rw [Int.zero_add], hi, .inl rfl, ?_⟩
      walk_at "dx"
      exact hnx2 _ _ ⟨_, _, _, _, _, _, _, _, _, rfl, rfl⟩
theorem law_top (ns : List Int) (h : ns.length ≤ 63) : sp_law [.ref 0] [.ro (ns.map D.int)] (fun d _ => d = .bl true) XF := ⟨0, ns, rfl, rfl, h, rfl⟩
end Q
namespace Lk
open PySem PySem.Spec PyProof.Rows L2 Q
theorem sc__law_deck : FnScope ["script", "k", "cell", "stir"] ["script", "k"] (defScope s__law_deck) := ⟨rfl, rfl, rfl, by decide +kernel, rfl, by decide +kernel, by decide +kernel⟩
theorem sc__law_take : FnScope ["deck", "many", "taken"] ["deck", "many"] (defScope s__law_take) := ⟨rfl, rfl, rfl, by decide +kernel, rfl, by decide +kernel, by decide +kernel⟩
theorem sc__law_same : FnScope ["found", "due", "k"] ["found", "due"] (defScope s__law_same) := ⟨rfl, rfl, rfl, by decide +kernel, rfl, by decide +kernel, by decide +kernel⟩
theorem sc__law_raise_first : FnScope ["which", "given"] ["which", "given"] (defScope s__law_raise_first) := ⟨rfl, rfl, rfl, by decide +kernel, rfl, by decide +kernel, by decide +kernel⟩
theorem sc__law_raise_second : FnScope ["which", "given"] ["which", "given"] (defScope s__law_raise_second) := ⟨rfl, rfl, rfl, by decide +kernel, rfl, by decide +kernel, by decide +kernel⟩
theorem sc__law_raise_named_first : FnScope ["which", "given"] ["which", "given"] (defScope s__law_raise_named_first) := ⟨rfl, rfl, rfl, by decide +kernel, rfl, by decide +kernel, by decide +kernel⟩
theorem sc__law_raise_named_second : FnScope ["which", "given"] ["which", "given"] (defScope s__law_raise_named_second) := ⟨rfl, rfl, rfl, by decide +kernel, rfl, by decide +kernel, by decide +kernel⟩
theorem sc__law_raised : FnScope ["which", "given", "named"] ["which", "given", "named"] (defScope s__law_raised) := ⟨rfl, rfl, rfl, by decide +kernel, rfl, by decide +kernel, by decide +kernel⟩
theorem sc__law_kinds : FnScope ["e", "found"] ["e"] (defScope s__law_kinds) := ⟨rfl, rfl, rfl, by decide +kernel, rfl, by decide +kernel, by decide +kernel⟩
theorem sc__law_given : FnScope ["deck", "far", "some"] ["deck"] (defScope s__law_given) := ⟨rfl, rfl, rfl, by decide +kernel, rfl, by decide +kernel, by decide +kernel⟩
theorem sc__law_right : FnScope ["which", "given", "named", "caught", "e", "k"] ["which", "given", "named"] (defScope s__law_right) := ⟨rfl, rfl, rfl, by decide +kernel, rfl, by decide +kernel, by decide +kernel⟩
theorem sc__law_base_right : FnScope ["given", "caught", "e"] ["given"] (defScope s__law_base_right) := ⟨rfl, rfl, rfl, by decide +kernel, rfl, by decide +kernel, by decide +kernel⟩
theorem sc_law : FnScope ["script", "first", "second", "k", "deck", "e", "which", "named", "given", "other"] ["script"] (defScope s_law) := ⟨rfl, rfl, rfl, by decide +kernel, rfl, by decide +kernel, by decide +kernel⟩
theorem sc_init : FnScope ["self", "value"] ["self", "value"] (defScope s_init) := ⟨rfl, rfl, rfl, by decide +kernel, rfl, by decide +kernel, by decide +kernel⟩
section
variable {P : Program} {w : World} {K : PySem.W.Frag} {mg : Str → Option Value} {base : Heap}
theorem ok_init {f : Addr} {fd : FuncData} (F : FunD K "__init__" "TellError.__init__" (defArgs s_init) (defBody s_init) (defScope s_init) [] [] f fd) (hm : mg "ValueError" = none) (vV : PySem.W.findCls K (.type "ValueError") (.type "type") "__init__" = some (.val (.builtin "ValueError.__init__"))) : FnOk P w K mg base (L2.CX P w) 1 f fd ["self", "value"] (spI K) := init_ok F sc_init fun cdv A outer s H E => pss_cons (ps_expr (pe_veinit (by rfl) hm vV (pa_cons (pe_var (i := 0) rfl (Or.inl rfl)) (pa_cons (pe_var (i := 1) rfl (Or.inl rfl)) pa_nil)))) (pss_one (ps_ost (pe_var (i := 0) rfl (Or.inl rfl)) (pe_var (i := 1) rfl (Or.inl rfl))))
theorem ok__law_deck {f : Addr} {fd : FuncData} (F : FnP K "_law_deck" s__law_deck f fd) (m_len : mg "len" = none) (m_int : mg "int" = none) : FnOk P w K mg base (L2.CX P w) 1 f fd ["script", "k"] (LP K mg 2 sp__law_deck) := def_ok F sc__law_deck (fun cdv A outer s H E hr => by
  have nd := sc__law_deck.nd
  have hu := hr.units
  have hp := own_cx (P := P) (w := w) (K := K) (mg := mg) (base := base) (N := ["script", "k", "cell", "stir"]) (qual := "_law_deck") (scope := defScope s__law_deck) (f := f) (cd := cdv) (A := A) (outer := outer) (s := s) (H := H) (E := E)
  have hx := pass_cx (P := P) (w := w) (K := K) (mg := mg) (base := base) (N := ["script", "k", "cell", "stir"]) (qual := "_law_deck") (scope := defScope s__law_deck) (f := f) (cd := cdv) (A := A) (outer := outer) (s := s) (H := H) (E := E)
  exact (q_scons (q_set (i := 2) nd q_int) (q_scons (q_if (q_tcmp o_lt (q_var 1) (q_callB c_len (by rfl) m_len boot_len (q_cons (q_var 0) q_nil))) (q_one1 (q_set (i := 2) nd (q_ix (q_var 0) (q_var 1)))) q_snil) (q_scons (q_set (i := 3) nd (q_op o_mod (q_callTy c_int (by rfl) m_int boot_int (q_cons (q_op o_add (q_op o_add (q_var 2) (q_op o_mul q_int (q_var 1))) q_int) q_nil)) q_int)) (q_scons (q_set (i := 3) nd (q_op o_mod (q_callTy c_int (by rfl) m_int boot_int (q_cons (q_op o_add (q_op o_add (q_op o_mul (q_op o_mul (q_var 3) (q_var 3)) (q_var 3)) (q_op o_mul q_int (q_var 1))) q_int) q_nil)) q_int)) (q_scons (q_if (q_tcmp o_lt (q_var 2) (q_op o_pow q_int q_int)) (q_one1 (q_ret (q_lst (q_cons q_int (q_cons (q_var 3) q_nil))))) q_snil) (q_one1 (q_ret (q_lst (q_cons (q_op o_sub (q_var 2) (q_op o_pow q_int q_int)) (q_cons (q_var 3) q_nil))))))))))) k__law_deck
theorem ok__law_take {f : Addr} {fd : FuncData} (F : FnP K "_law_take" s__law_take f fd) (m_int : mg "int" = none) : FnOk P w K mg base (L2.CX P w) 1 f fd ["deck", "many"] (LP K mg 2 sp__law_take) := def_ok F sc__law_take (fun cdv A outer s H E hr => by
  have nd := sc__law_take.nd
  have hu := hr.units
  have hp := own_cx (P := P) (w := w) (K := K) (mg := mg) (base := base) (N := ["deck", "many", "taken"]) (qual := "_law_take") (scope := defScope s__law_take) (f := f) (cd := cdv) (A := A) (outer := outer) (s := s) (H := H) (E := E)
  have hx := pass_cx (P := P) (w := w) (K := K) (mg := mg) (base := base) (N := ["deck", "many", "taken"]) (qual := "_law_take") (scope := defScope s__law_take) (f := f) (cd := cdv) (A := A) (outer := outer) (s := s) (H := H) (E := E)
  exact (q_scons (q_if (q_tcmp o_gt (q_ix (q_var 0) q_int) q_int) (q_scons (q_set (i := 2) nd (q_op o_mod (q_callTy c_int (by rfl) m_int boot_int (q_cons (q_ix (q_var 0) q_int) q_nil)) (q_var 1))) (q_scons (q_asg (q_op o_fdiv (q_ix (q_var 0) q_int) (q_var 1)) (q_gsb (q_var 0) q_int)) (q_one1 (q_ret (q_var 2))))) q_snil) (q_scons (q_asg (q_op o_mod (q_callTy c_int (by rfl) m_int boot_int (q_cons (q_op o_add (q_op o_mul (q_ix (q_var 0) q_int) q_int) q_int) q_nil)) (q_op o_pow q_int q_int)) (q_gsb (q_var 0) q_int)) (q_one1 (q_ret (q_op o_mod (q_op o_fdiv (q_ix (q_var 0) q_int) (q_op o_pow q_int q_int)) (q_var 1))))))) k__law_take
theorem one__law_same {f : Addr} {fd : FuncData} (F : FnP K "_law_same" s__law_same f fd) (m_isinstance : mg "isinstance" = none) (m_tuple : mg "tuple" = none) (m_list : mg "list" = none) (m_len : mg "len" = none) (m_range : mg "range" = none) (m_str : mg "str" = none) (m_bool : mg "bool" = none) (m_int : mg "int" = none) {j : Nat} {r q : SpD} (hj : 0 ≤ j) (T__law_same : FT P w K mg base "_law_same" j ["found", "due"] r f fd) (hk : Keeps 2 3 (t__law_same r) q) : FnOk P w K mg base (L2.CX P w) (j + 1) f fd ["found", "due"] (LP K mg 2 q) := def_ok F sc__law_same (fun cdv A outer s H E hr => by
  have nd := sc__law_same.nd
  have hu := hr.units
  have hp := own_cx (P := P) (w := w) (K := K) (mg := mg) (base := base) (N := ["found", "due", "k"]) (qual := "_law_same") (scope := defScope s__law_same) (f := f) (cd := cdv) (A := A) (outer := outer) (s := s) (H := H) (E := E)
  have hx := pass_cx (P := P) (w := w) (K := K) (mg := mg) (base := base) (N := ["found", "due", "k"]) (qual := "_law_same") (scope := defScope s__law_same) (f := f) (cd := cdv) (A := A) (outer := outer) (s := s) (H := H) (E := E)
  exact (q_scons (q_if (q_tval (q_isi2 .tuple .list (by decide) (by decide) (q_var 1) (by rfl) m_isinstance (by rfl) m_tuple (by decide +kernel) (by rfl) m_list (by decide +kernel))) (q_scons (q_if (q_w (q_or (q_tcmp (o_ne hu) (q_isi .tuple (by decide) (q_var 0) (by rfl) m_isinstance (by rfl) m_tuple (by decide +kernel)) (q_isi .tuple (by decide) (q_var 1) (by rfl) m_isinstance (by rfl) m_tuple (by decide +kernel))) (q_or1 (q_tcmp (o_ne hu) (q_isi .list (by decide) (q_var 0) (by rfl) m_isinstance (by rfl) m_list (by decide +kernel)) (q_isi .list (by decide) (q_var 1) (by rfl) m_isinstance (by rfl) m_list (by decide +kernel)))))) (q_one1 (q_ret q_bl)) q_snil) (q_scons (q_if (q_tcmp (o_ne hu) (q_callB c_len (by rfl) m_len boot_len (q_cons (q_var 0) q_nil)) (q_callB c_len (by rfl) m_len boot_len (q_cons (q_var 1) q_nil))) (q_one1 (q_ret q_bl)) q_snil) (q_one1 (q_ret (q_cmp (o_eq hu) (q_lc (own := [("k", 2)]) rfl nd (q_rg1 (by rfl) m_range (q_cons (q_callB c_len (by rfl) m_len boot_len (q_cons (q_var 1) q_nil)) q_nil)) (blkOk_by (by kernel_rfl)) (fun _ _ _ _ _ => (q_gnm (i := 2) nd)) (fun _ _ _ _ _ => (q_tone (q_not (q_tval (q_call T__law_same.ok (hr.mono (Nat.le_refl _)) (by rfl) T__law_same.hm T__law_same.hk T__law_same.hb passE0 (q_cons (q_ix (q_var 0) (q_var 2)) (q_cons (q_ix (q_var 1) (q_var 2)) q_nil))))))) (fun _ _ _ _ _ => (q_var 2))) (q_lst q_nil)))))) q_snil) (q_scons (q_if (q_tcmp o_is (q_var 1) q_non) (q_one1 (q_ret (q_cmp o_is (q_var 0) q_non))) q_snil) (q_scons (q_if (q_tval (q_isi .str (by decide) (q_var 1) (by rfl) m_isinstance (by rfl) m_str (by decide +kernel))) (q_one1 (q_ret (q_andV (q_isi .str (by decide) (q_var 0) (by rfl) m_isinstance (by rfl) m_str (by decide +kernel)) (q_one (q_cmp (o_eq hu) (q_var 0) (q_var 1)))))) q_snil) (q_scons (q_if (q_w (q_or (q_tval (q_isi .bool (by decide) (q_var 1) (by rfl) m_isinstance (by rfl) m_bool (by decide +kernel))) (q_or1 (q_tval (q_isi .bool (by decide) (q_var 0) (by rfl) m_isinstance (by rfl) m_bool (by decide +kernel)))))) (q_one1 (q_ret (q_andV (q_isi .bool (by decide) (q_var 1) (by rfl) m_isinstance (by rfl) m_bool (by decide +kernel)) (q_andV (q_isi .bool (by decide) (q_var 0) (by rfl) m_isinstance (by rfl) m_bool (by decide +kernel)) (q_one (q_cmp (o_eq hu) (q_var 0) (q_var 1))))))) q_snil) (q_one1 (q_ret (q_andV (q_isi .int (by decide) (q_var 0) (by rfl) m_isinstance (by rfl) m_int (by decide +kernel)) (q_one (q_cmp (o_eq hu) (q_var 0) (q_var 1))))))))))) hk
theorem ok__law_same {f : Addr} {fd : FuncData} (F : FnP K "_law_same" s__law_same f fd) (hm : mg "_law_same" = some (.ref f)) (hb : Binds K fd ["found", "due"] []) (m_isinstance : mg "isinstance" = none) (m_tuple : mg "tuple" = none) (m_list : mg "list" = none) (m_len : mg "len" = none) (m_range : mg "range" = none) (m_str : mg "str" = none) (m_bool : mg "bool" = none) (m_int : mg "int" = none) : FnOk P w K mg base (L2.CX P w) 9 f fd ["found", "due"] (LP K mg 2 sp__law_same) := by
  have step : ∀ n : Nat, FnOk P w K mg base (L2.CX P w) (0 + n) f fd ["found", "due"] (LP K mg 2 (spr__law_same n)) := by
    intro n
    induction n with
    | zero => exact ⟨fun vs H Q E h => h.1, fun A outer s H args us vs Q E hr e0 hb hv h => (by obtain ⟨_, _, _, _, _, _, _, _, q, _⟩ := h; exact (spr__law_same_zero q).elim)⟩
    | succ n ih => exact one__law_same F m_isinstance m_tuple m_list m_len m_range m_str m_bool m_int (j := 0 + n) (by omega) ⟨ih, hm, F.kp, hb⟩ (k__law_same n)
  exact (step 9).imp fun vs H Q E h => h
theorem ok__law_raise_first {f : Addr} {fd : FuncData} (F : FnP K "_law_raise_first" s__law_raise_first f fd) {fd_init : FuncData} (hI : IniT P w K mg base fd_init) (x_InvalidBook : exB K "InvalidBook" = true) (c_InvalidBook : mg "InvalidBook" = some (.ref (He.ga K "InvalidBook"))) (x_InvalidWord : exB K "InvalidWord" = true) (c_InvalidWord : mg "InvalidWord" = some (.ref (He.ga K "InvalidWord"))) (x_InvalidNumber : exB K "InvalidNumber" = true) (c_InvalidNumber : mg "InvalidNumber" = some (.ref (He.ga K "InvalidNumber"))) (x_InvalidKey : exB K "InvalidKey" = true) (c_InvalidKey : mg "InvalidKey" = some (.ref (He.ga K "InvalidKey"))) (x_InvalidCell : exB K "InvalidCell" = true) (c_InvalidCell : mg "InvalidCell" = some (.ref (He.ga K "InvalidCell"))) (x_InvalidRow : exB K "InvalidRow" = true) (c_InvalidRow : mg "InvalidRow" = some (.ref (He.ga K "InvalidRow"))) (x_InvalidLot : exB K "InvalidLot" = true) (c_InvalidLot : mg "InvalidLot" = some (.ref (He.ga K "InvalidLot"))) (x_InvalidTable : exB K "InvalidTable" = true) (c_InvalidTable : mg "InvalidTable" = some (.ref (He.ga K "InvalidTable"))) (x_InvalidValues : exB K "InvalidValues" = true) (c_InvalidValues : mg "InvalidValues" = some (.ref (He.ga K "InvalidValues"))) (x_InvalidRoad : exB K "InvalidRoad" = true) (c_InvalidRoad : mg "InvalidRoad" = some (.ref (He.ga K "InvalidRoad"))) (x_InvalidSeats : exB K "InvalidSeats" = true) (c_InvalidSeats : mg "InvalidSeats" = some (.ref (He.ga K "InvalidSeats"))) (x_NotFree : exB K "NotFree" = true) (c_NotFree : mg "NotFree" = some (.ref (He.ga K "NotFree"))) (x_NoTable : exB K "NoTable" = true) (c_NoTable : mg "NoTable" = some (.ref (He.ga K "NoTable"))) : FnOk P w K mg base (L2.CX P w) 3 f fd ["which", "given"] (LP K mg 2 sp__law_raise_first) := def_ok F sc__law_raise_first (fun cdv A outer s H E hr => by
  have nd := sc__law_raise_first.nd
  have hu := hr.units
  have hp := own_cx (P := P) (w := w) (K := K) (mg := mg) (base := base) (N := ["which", "given"]) (qual := "_law_raise_first") (scope := defScope s__law_raise_first) (f := f) (cd := cdv) (A := A) (outer := outer) (s := s) (H := H) (E := E)
  have hx := pass_cx (P := P) (w := w) (K := K) (mg := mg) (base := base) (N := ["which", "given"]) (qual := "_law_raise_first") (scope := defScope s__law_raise_first) (f := f) (cd := cdv) (A := A) (outer := outer) (s := s) (H := H) (E := E)
  have ht := takes_cx (P := P) (w := w) (K := K) (mg := mg) (base := base) (N := ["which", "given"]) (qual := "_law_raise_first") (scope := defScope s__law_raise_first) (f := f) (cd := cdv) (A := A) (outer := outer) (s := s) (H := H) (E := E)
  exact (q_scons (q_if (q_tcmp (o_eq hu) (q_var 0) q_int) (q_one1 (q_raise rfl hI (hr.mono (by decide)) ht x_InvalidBook c_InvalidBook (q_cons (q_var 1) q_nil))) q_snil) (q_scons (q_if (q_tcmp (o_eq hu) (q_var 0) q_int) (q_one1 (q_raise rfl hI (hr.mono (by decide)) ht x_InvalidWord c_InvalidWord (q_cons (q_var 1) q_nil))) q_snil) (q_scons (q_if (q_tcmp (o_eq hu) (q_var 0) q_int) (q_one1 (q_raise rfl hI (hr.mono (by decide)) ht x_InvalidNumber c_InvalidNumber (q_cons (q_var 1) q_nil))) q_snil) (q_scons (q_if (q_tcmp (o_eq hu) (q_var 0) q_int) (q_one1 (q_raise rfl hI (hr.mono (by decide)) ht x_InvalidKey c_InvalidKey (q_cons (q_var 1) q_nil))) q_snil) (q_scons (q_if (q_tcmp (o_eq hu) (q_var 0) q_int) (q_one1 (q_raise rfl hI (hr.mono (by decide)) ht x_InvalidCell c_InvalidCell (q_cons (q_var 1) q_nil))) q_snil) (q_scons (q_if (q_tcmp (o_eq hu) (q_var 0) q_int) (q_one1 (q_raise rfl hI (hr.mono (by decide)) ht x_InvalidRow c_InvalidRow (q_cons (q_var 1) q_nil))) q_snil) (q_scons (q_if (q_tcmp (o_eq hu) (q_var 0) q_int) (q_one1 (q_raise rfl hI (hr.mono (by decide)) ht x_InvalidLot c_InvalidLot (q_cons (q_var 1) q_nil))) q_snil) (q_scons (q_if (q_tcmp (o_eq hu) (q_var 0) q_int) (q_one1 (q_raise rfl hI (hr.mono (by decide)) ht x_InvalidTable c_InvalidTable (q_cons (q_var 1) q_nil))) q_snil) (q_scons (q_if (q_tcmp (o_eq hu) (q_var 0) q_int) (q_one1 (q_raise rfl hI (hr.mono (by decide)) ht x_InvalidValues c_InvalidValues (q_cons (q_var 1) q_nil))) q_snil) (q_scons (q_if (q_tcmp (o_eq hu) (q_var 0) q_int) (q_one1 (q_raise rfl hI (hr.mono (by decide)) ht x_InvalidRoad c_InvalidRoad (q_cons (q_var 1) q_nil))) q_snil) (q_scons (q_if (q_tcmp (o_eq hu) (q_var 0) q_int) (q_one1 (q_raise rfl hI (hr.mono (by decide)) ht x_InvalidSeats c_InvalidSeats (q_cons (q_var 1) q_nil))) q_snil) (q_scons (q_if (q_tcmp (o_eq hu) (q_var 0) q_int) (q_one1 (q_raise rfl hI (hr.mono (by decide)) ht x_NotFree c_NotFree (q_cons (q_var 1) q_nil))) q_snil) (q_one1 (q_raise rfl hI (hr.mono (by decide)) ht x_NoTable c_NoTable (q_cons (q_var 1) q_nil)))))))))))))))) k__law_raise_first
theorem ok__law_raise_second {f : Addr} {fd : FuncData} (F : FnP K "_law_raise_second" s__law_raise_second f fd) {fd_init : FuncData} (hI : IniT P w K mg base fd_init) (x_NoSeats : exB K "NoSeats" = true) (c_NoSeats : mg "NoSeats" = some (.ref (He.ga K "NoSeats"))) (x_InvalidPlacing : exB K "InvalidPlacing" = true) (c_InvalidPlacing : mg "InvalidPlacing" = some (.ref (He.ga K "InvalidPlacing"))) (x_InvalidChain : exB K "InvalidChain" = true) (c_InvalidChain : mg "InvalidChain" = some (.ref (He.ga K "InvalidChain"))) (x_InvalidMixing : exB K "InvalidMixing" = true) (c_InvalidMixing : mg "InvalidMixing" = some (.ref (He.ga K "InvalidMixing"))) (x_InvalidFilter : exB K "InvalidFilter" = true) (c_InvalidFilter : mg "InvalidFilter" = some (.ref (He.ga K "InvalidFilter"))) (x_InvalidName : exB K "InvalidName" = true) (c_InvalidName : mg "InvalidName" = some (.ref (He.ga K "InvalidName"))) (x_HasCore : exB K "HasCore" = true) (c_HasCore : mg "HasCore" = some (.ref (He.ga K "HasCore"))) (x_NotGood : exB K "NotGood" = true) (c_NotGood : mg "NotGood" = some (.ref (He.ga K "NotGood"))) (x_UnknownName : exB K "UnknownName" = true) (c_UnknownName : mg "UnknownName" = some (.ref (He.ga K "UnknownName"))) (x_NothingToUndo : exB K "NothingToUndo" = true) (c_NothingToUndo : mg "NothingToUndo" = some (.ref (He.ga K "NothingToUndo"))) (x_Unreadable : exB K "Unreadable" = true) (c_Unreadable : mg "Unreadable" = some (.ref (He.ga K "Unreadable"))) (x_Unorderly : exB K "Unorderly" = true) (c_Unorderly : mg "Unorderly" = some (.ref (He.ga K "Unorderly"))) : FnOk P w K mg base (L2.CX P w) 3 f fd ["which", "given"] (LP K mg 2 sp__law_raise_second) := def_ok F sc__law_raise_second (fun cdv A outer s H E hr => by
  have nd := sc__law_raise_second.nd
  have hu := hr.units
  have hp := own_cx (P := P) (w := w) (K := K) (mg := mg) (base := base) (N := ["which", "given"]) (qual := "_law_raise_second") (scope := defScope s__law_raise_second) (f := f) (cd := cdv) (A := A) (outer := outer) (s := s) (H := H) (E := E)
  have hx := pass_cx (P := P) (w := w) (K := K) (mg := mg) (base := base) (N := ["which", "given"]) (qual := "_law_raise_second") (scope := defScope s__law_raise_second) (f := f) (cd := cdv) (A := A) (outer := outer) (s := s) (H := H) (E := E)
  have ht := takes_cx (P := P) (w := w) (K := K) (mg := mg) (base := base) (N := ["which", "given"]) (qual := "_law_raise_second") (scope := defScope s__law_raise_second) (f := f) (cd := cdv) (A := A) (outer := outer) (s := s) (H := H) (E := E)
  exact (q_scons (q_if (q_tcmp (o_eq hu) (q_var 0) q_int) (q_one1 (q_raise rfl hI (hr.mono (by decide)) ht x_NoSeats c_NoSeats (q_cons (q_var 1) q_nil))) q_snil) (q_scons (q_if (q_tcmp (o_eq hu) (q_var 0) q_int) (q_one1 (q_raise rfl hI (hr.mono (by decide)) ht x_InvalidPlacing c_InvalidPlacing (q_cons (q_var 1) q_nil))) q_snil) (q_scons (q_if (q_tcmp (o_eq hu) (q_var 0) q_int) (q_one1 (q_raise rfl hI (hr.mono (by decide)) ht x_InvalidChain c_InvalidChain (q_cons (q_var 1) q_nil))) q_snil) (q_scons (q_if (q_tcmp (o_eq hu) (q_var 0) q_int) (q_one1 (q_raise rfl hI (hr.mono (by decide)) ht x_InvalidMixing c_InvalidMixing (q_cons (q_var 1) q_nil))) q_snil) (q_scons (q_if (q_tcmp (o_eq hu) (q_var 0) q_int) (q_one1 (q_raise rfl hI (hr.mono (by decide)) ht x_InvalidFilter c_InvalidFilter (q_cons (q_var 1) q_nil))) q_snil) (q_scons (q_if (q_tcmp (o_eq hu) (q_var 0) q_int) (q_one1 (q_raise rfl hI (hr.mono (by decide)) ht x_InvalidName c_InvalidName (q_cons (q_var 1) q_nil))) q_snil) (q_scons (q_if (q_tcmp (o_eq hu) (q_var 0) q_int) (q_one1 (q_raise rfl hI (hr.mono (by decide)) ht x_HasCore c_HasCore (q_cons (q_var 1) q_nil))) q_snil) (q_scons (q_if (q_tcmp (o_eq hu) (q_var 0) q_int) (q_one1 (q_raise rfl hI (hr.mono (by decide)) ht x_NotGood c_NotGood (q_cons (q_var 1) q_nil))) q_snil) (q_scons (q_if (q_tcmp (o_eq hu) (q_var 0) q_int) (q_one1 (q_raise rfl hI (hr.mono (by decide)) ht x_UnknownName c_UnknownName (q_cons (q_var 1) q_nil))) q_snil) (q_scons (q_if (q_tcmp (o_eq hu) (q_var 0) q_int) (q_one1 (q_raise rfl hI (hr.mono (by decide)) ht x_NothingToUndo c_NothingToUndo (q_cons (q_var 1) q_nil))) q_snil) (q_scons (q_if (q_tcmp (o_eq hu) (q_var 0) q_int) (q_one1 (q_raise rfl hI (hr.mono (by decide)) ht x_Unreadable c_Unreadable (q_cons (q_var 1) q_nil))) q_snil) (q_one1 (q_raise rfl hI (hr.mono (by decide)) ht x_Unorderly c_Unorderly (q_cons (q_var 1) q_nil))))))))))))))) k__law_raise_second
theorem ok__law_raise_named_first {f : Addr} {fd : FuncData} (F : FnP K "_law_raise_named_first" s__law_raise_named_first f fd) {fd_init : FuncData} (hI : IniT P w K mg base fd_init) (x_InvalidBook : exB K "InvalidBook" = true) (c_InvalidBook : mg "InvalidBook" = some (.ref (He.ga K "InvalidBook"))) (x_InvalidWord : exB K "InvalidWord" = true) (c_InvalidWord : mg "InvalidWord" = some (.ref (He.ga K "InvalidWord"))) (x_InvalidNumber : exB K "InvalidNumber" = true) (c_InvalidNumber : mg "InvalidNumber" = some (.ref (He.ga K "InvalidNumber"))) (x_InvalidKey : exB K "InvalidKey" = true) (c_InvalidKey : mg "InvalidKey" = some (.ref (He.ga K "InvalidKey"))) (x_InvalidCell : exB K "InvalidCell" = true) (c_InvalidCell : mg "InvalidCell" = some (.ref (He.ga K "InvalidCell"))) (x_InvalidRow : exB K "InvalidRow" = true) (c_InvalidRow : mg "InvalidRow" = some (.ref (He.ga K "InvalidRow"))) (x_InvalidLot : exB K "InvalidLot" = true) (c_InvalidLot : mg "InvalidLot" = some (.ref (He.ga K "InvalidLot"))) (x_InvalidTable : exB K "InvalidTable" = true) (c_InvalidTable : mg "InvalidTable" = some (.ref (He.ga K "InvalidTable"))) (x_InvalidValues : exB K "InvalidValues" = true) (c_InvalidValues : mg "InvalidValues" = some (.ref (He.ga K "InvalidValues"))) (x_InvalidRoad : exB K "InvalidRoad" = true) (c_InvalidRoad : mg "InvalidRoad" = some (.ref (He.ga K "InvalidRoad"))) (x_InvalidSeats : exB K "InvalidSeats" = true) (c_InvalidSeats : mg "InvalidSeats" = some (.ref (He.ga K "InvalidSeats"))) (x_NotFree : exB K "NotFree" = true) (c_NotFree : mg "NotFree" = some (.ref (He.ga K "NotFree"))) (x_NoTable : exB K "NoTable" = true) (c_NoTable : mg "NoTable" = some (.ref (He.ga K "NoTable"))) (hK : IniK P w K mg base fd_init) : FnOk P w K mg base (L2.CX P w) 3 f fd ["which", "given"] (LP K mg 2 sp__law_raise_named_first) := def_ok F sc__law_raise_named_first (fun cdv A outer s H E hr => by
  have nd := sc__law_raise_named_first.nd
  have hu := hr.units
  have hp := own_cx (P := P) (w := w) (K := K) (mg := mg) (base := base) (N := ["which", "given"]) (qual := "_law_raise_named_first") (scope := defScope s__law_raise_named_first) (f := f) (cd := cdv) (A := A) (outer := outer) (s := s) (H := H) (E := E)
  have hx := pass_cx (P := P) (w := w) (K := K) (mg := mg) (base := base) (N := ["which", "given"]) (qual := "_law_raise_named_first") (scope := defScope s__law_raise_named_first) (f := f) (cd := cdv) (A := A) (outer := outer) (s := s) (H := H) (E := E)
  have ht := takes_cx (P := P) (w := w) (K := K) (mg := mg) (base := base) (N := ["which", "given"]) (qual := "_law_raise_named_first") (scope := defScope s__law_raise_named_first) (f := f) (cd := cdv) (A := A) (outer := outer) (s := s) (H := H) (E := E)
  exact (q_scons (q_if (q_tcmp (o_eq hu) (q_var 0) q_int) (q_one1 (q_raiseK rfl hK (hr.mono (by decide)) ht x_InvalidBook c_InvalidBook (q_kcons (q_var 1) q_knil))) q_snil) (q_scons (q_if (q_tcmp (o_eq hu) (q_var 0) q_int) (q_one1 (q_raiseK rfl hK (hr.mono (by decide)) ht x_InvalidWord c_InvalidWord (q_kcons (q_var 1) q_knil))) q_snil) (q_scons (q_if (q_tcmp (o_eq hu) (q_var 0) q_int) (q_one1 (q_raiseK rfl hK (hr.mono (by decide)) ht x_InvalidNumber c_InvalidNumber (q_kcons (q_var 1) q_knil))) q_snil) (q_scons (q_if (q_tcmp (o_eq hu) (q_var 0) q_int) (q_one1 (q_raiseK rfl hK (hr.mono (by decide)) ht x_InvalidKey c_InvalidKey (q_kcons (q_var 1) q_knil))) q_snil) (q_scons (q_if (q_tcmp (o_eq hu) (q_var 0) q_int) (q_one1 (q_raiseK rfl hK (hr.mono (by decide)) ht x_InvalidCell c_InvalidCell (q_kcons (q_var 1) q_knil))) q_snil) (q_scons (q_if (q_tcmp (o_eq hu) (q_var 0) q_int) (q_one1 (q_raiseK rfl hK (hr.mono (by decide)) ht x_InvalidRow c_InvalidRow (q_kcons (q_var 1) q_knil))) q_snil) (q_scons (q_if (q_tcmp (o_eq hu) (q_var 0) q_int) (q_one1 (q_raiseK rfl hK (hr.mono (by decide)) ht x_InvalidLot c_InvalidLot (q_kcons (q_var 1) q_knil))) q_snil) (q_scons (q_if (q_tcmp (o_eq hu) (q_var 0) q_int) (q_one1 (q_raiseK rfl hK (hr.mono (by decide)) ht x_InvalidTable c_InvalidTable (q_kcons (q_var 1) q_knil))) q_snil) (q_scons (q_if (q_tcmp (o_eq hu) (q_var 0) q_int) (q_one1 (q_raiseK rfl hK (hr.mono (by decide)) ht x_InvalidValues c_InvalidValues (q_kcons (q_var 1) q_knil))) q_snil) (q_scons (q_if (q_tcmp (o_eq hu) (q_var 0) q_int) (q_one1 (q_raiseK rfl hK (hr.mono (by decide)) ht x_InvalidRoad c_InvalidRoad (q_kcons (q_var 1) q_knil))) q_snil) (q_scons (q_if (q_tcmp (o_eq hu) (q_var 0) q_int) (q_one1 (q_raiseK rfl hK (hr.mono (by decide)) ht x_InvalidSeats c_InvalidSeats (q_kcons (q_var 1) q_knil))) q_snil) (q_scons (q_if (q_tcmp (o_eq hu) (q_var 0) q_int) (q_one1 (q_raiseK rfl hK (hr.mono (by decide)) ht x_NotFree c_NotFree (q_kcons (q_var 1) q_knil))) q_snil) (q_one1 (q_raiseK rfl hK (hr.mono (by decide)) ht x_NoTable c_NoTable (q_kcons (q_var 1) q_knil)))))))))))))))) k__law_raise_named_first
theorem ok__law_raise_named_second {f : Addr} {fd : FuncData} (F : FnP K "_law_raise_named_second" s__law_raise_named_second f fd) {fd_init : FuncData} (hI : IniT P w K mg base fd_init) (x_NoSeats : exB K "NoSeats" = true) (c_NoSeats : mg "NoSeats" = some (.ref (He.ga K "NoSeats"))) (x_InvalidPlacing : exB K "InvalidPlacing" = true) (c_InvalidPlacing : mg "InvalidPlacing" = some (.ref (He.ga K "InvalidPlacing"))) (x_InvalidChain : exB K "InvalidChain" = true) (c_InvalidChain : mg "InvalidChain" = some (.ref (He.ga K "InvalidChain"))) (x_InvalidMixing : exB K "InvalidMixing" = true) (c_InvalidMixing : mg "InvalidMixing" = some (.ref (He.ga K "InvalidMixing"))) (x_InvalidFilter : exB K "InvalidFilter" = true) (c_InvalidFilter : mg "InvalidFilter" = some (.ref (He.ga K "InvalidFilter"))) (x_InvalidName : exB K "InvalidName" = true) (c_InvalidName : mg "InvalidName" = some (.ref (He.ga K "InvalidName"))) (x_HasCore : exB K "HasCore" = true) (c_HasCore : mg "HasCore" = some (.ref (He.ga K "HasCore"))) (x_NotGood : exB K "NotGood" = true) (c_NotGood : mg "NotGood" = some (.ref (He.ga K "NotGood"))) (x_UnknownName : exB K "UnknownName" = true) (c_UnknownName : mg "UnknownName" = some (.ref (He.ga K "UnknownName"))) (x_NothingToUndo : exB K "NothingToUndo" = true) (c_NothingToUndo : mg "NothingToUndo" = some (.ref (He.ga K "NothingToUndo"))) (x_Unreadable : exB K "Unreadable" = true) (c_Unreadable : mg "Unreadable" = some (.ref (He.ga K "Unreadable"))) (x_Unorderly : exB K "Unorderly" = true) (c_Unorderly : mg "Unorderly" = some (.ref (He.ga K "Unorderly"))) (hK : IniK P w K mg base fd_init) : FnOk P w K mg base (L2.CX P w) 3 f fd ["which", "given"] (LP K mg 2 sp__law_raise_named_second) := def_ok F sc__law_raise_named_second (fun cdv A outer s H E hr => by
  have nd := sc__law_raise_named_second.nd
  have hu := hr.units
  have hp := own_cx (P := P) (w := w) (K := K) (mg := mg) (base := base) (N := ["which", "given"]) (qual := "_law_raise_named_second") (scope := defScope s__law_raise_named_second) (f := f) (cd := cdv) (A := A) (outer := outer) (s := s) (H := H) (E := E)
  have hx := pass_cx (P := P) (w := w) (K := K) (mg := mg) (base := base) (N := ["which", "given"]) (qual := "_law_raise_named_second") (scope := defScope s__law_raise_named_second) (f := f) (cd := cdv) (A := A) (outer := outer) (s := s) (H := H) (E := E)
  have ht := takes_cx (P := P) (w := w) (K := K) (mg := mg) (base := base) (N := ["which", "given"]) (qual := "_law_raise_named_second") (scope := defScope s__law_raise_named_second) (f := f) (cd := cdv) (A := A) (outer := outer) (s := s) (H := H) (E := E)
  exact (q_scons (q_if (q_tcmp (o_eq hu) (q_var 0) q_int) (q_one1 (q_raiseK rfl hK (hr.mono (by decide)) ht x_NoSeats c_NoSeats (q_kcons (q_var 1) q_knil))) q_snil) (q_scons (q_if (q_tcmp (o_eq hu) (q_var 0) q_int) (q_one1 (q_raiseK rfl hK (hr.mono (by decide)) ht x_InvalidPlacing c_InvalidPlacing (q_kcons (q_var 1) q_knil))) q_snil) (q_scons (q_if (q_tcmp (o_eq hu) (q_var 0) q_int) (q_one1 (q_raiseK rfl hK (hr.mono (by decide)) ht x_InvalidChain c_InvalidChain (q_kcons (q_var 1) q_knil))) q_snil) (q_scons (q_if (q_tcmp (o_eq hu) (q_var 0) q_int) (q_one1 (q_raiseK rfl hK (hr.mono (by decide)) ht x_InvalidMixing c_InvalidMixing (q_kcons (q_var 1) q_knil))) q_snil) (q_scons (q_if (q_tcmp (o_eq hu) (q_var 0) q_int) (q_one1 (q_raiseK rfl hK (hr.mono (by decide)) ht x_InvalidFilter c_InvalidFilter (q_kcons (q_var 1) q_knil))) q_snil) (q_scons (q_if (q_tcmp (o_eq hu) (q_var 0) q_int) (q_one1 (q_raiseK rfl hK (hr.mono (by decide)) ht x_InvalidName c_InvalidName (q_kcons (q_var 1) q_knil))) q_snil) (q_scons (q_if (q_tcmp (o_eq hu) (q_var 0) q_int) (q_one1 (q_raiseK rfl hK (hr.mono (by decide)) ht x_HasCore c_HasCore (q_kcons (q_var 1) q_knil))) q_snil) (q_scons (q_if (q_tcmp (o_eq hu) (q_var 0) q_int) (q_one1 (q_raiseK rfl hK (hr.mono (by decide)) ht x_NotGood c_NotGood (q_kcons (q_var 1) q_knil))) q_snil) (q_scons (q_if (q_tcmp (o_eq hu) (q_var 0) q_int) (q_one1 (q_raiseK rfl hK (hr.mono (by decide)) ht x_UnknownName c_UnknownName (q_kcons (q_var 1) q_knil))) q_snil) (q_scons (q_if (q_tcmp (o_eq hu) (q_var 0) q_int) (q_one1 (q_raiseK rfl hK (hr.mono (by decide)) ht x_NothingToUndo c_NothingToUndo (q_kcons (q_var 1) q_knil))) q_snil) (q_scons (q_if (q_tcmp (o_eq hu) (q_var 0) q_int) (q_one1 (q_raiseK rfl hK (hr.mono (by decide)) ht x_Unreadable c_Unreadable (q_kcons (q_var 1) q_knil))) q_snil) (q_one1 (q_raiseK rfl hK (hr.mono (by decide)) ht x_Unorderly c_Unorderly (q_kcons (q_var 1) q_knil))))))))))))))) k__law_raise_named_second
theorem ok__law_raised {f : Addr} {fd : FuncData} (F : FnP K "_law_raised" s__law_raised f fd) {f__law_raise_named_first : Addr} {fd__law_raise_named_first : FuncData} (T__law_raise_named_first : FT P w K mg base "_law_raise_named_first" 3 ["which", "given"] sp__law_raise_named_first f__law_raise_named_first fd__law_raise_named_first) {f__law_raise_first : Addr} {fd__law_raise_first : FuncData} (T__law_raise_first : FT P w K mg base "_law_raise_first" 3 ["which", "given"] sp__law_raise_first f__law_raise_first fd__law_raise_first) {f__law_raise_named_second : Addr} {fd__law_raise_named_second : FuncData} (T__law_raise_named_second : FT P w K mg base "_law_raise_named_second" 3 ["which", "given"] sp__law_raise_named_second f__law_raise_named_second fd__law_raise_named_second) {f__law_raise_second : Addr} {fd__law_raise_second : FuncData} (T__law_raise_second : FT P w K mg base "_law_raise_second" 3 ["which", "given"] sp__law_raise_second f__law_raise_second fd__law_raise_second) : FnOk P w K mg base (L2.CX P w) 4 f fd ["which", "given", "named"] (LP K mg 3 sp__law_raised) := def_ok F sc__law_raised (fun cdv A outer s H E hr => by
  have nd := sc__law_raised.nd
  have hu := hr.units
  have hp := own_cx (P := P) (w := w) (K := K) (mg := mg) (base := base) (N := ["which", "given", "named"]) (qual := "_law_raised") (scope := defScope s__law_raised) (f := f) (cd := cdv) (A := A) (outer := outer) (s := s) (H := H) (E := E)
  have hx := pass_cx (P := P) (w := w) (K := K) (mg := mg) (base := base) (N := ["which", "given", "named"]) (qual := "_law_raised") (scope := defScope s__law_raised) (f := f) (cd := cdv) (A := A) (outer := outer) (s := s) (H := H) (E := E)
  exact (q_one1 (q_if (q_w (q_and (q_tcmp o_lt (q_var 0) q_int) (q_and1 (q_tval (q_var 2))))) (q_one1 (q_expr (q_call T__law_raise_named_first.ok (hr.mono (by decide)) (by rfl) T__law_raise_named_first.hm T__law_raise_named_first.hk T__law_raise_named_first.hb hx (q_cons (q_var 0) (q_cons (q_var 1) q_nil))))) (q_one1 (q_if (q_tcmp o_lt (q_var 0) q_int) (q_one1 (q_expr (q_call T__law_raise_first.ok (hr.mono (by decide)) (by rfl) T__law_raise_first.hm T__law_raise_first.hk T__law_raise_first.hb hx (q_cons (q_var 0) (q_cons (q_var 1) q_nil))))) (q_one1 (q_if (q_tval (q_var 2)) (q_one1 (q_expr (q_call T__law_raise_named_second.ok (hr.mono (by decide)) (by rfl) T__law_raise_named_second.hm T__law_raise_named_second.hk T__law_raise_named_second.hb hx (q_cons (q_var 0) (q_cons (q_var 1) q_nil))))) (q_one1 (q_expr (q_call T__law_raise_second.ok (hr.mono (by decide)) (by rfl) T__law_raise_second.hm T__law_raise_second.hk T__law_raise_second.hb hx (q_cons (q_var 0) (q_cons (q_var 1) q_nil)))))))))))) k__law_raised
theorem ok__law_kinds {f : Addr} {fd : FuncData} (F : FnP K "_law_kinds" s__law_kinds f fd) (m_isinstance : mg "isinstance" = none) {fd_init : FuncData} (hI : IniT P w K mg base fd_init) (x_InvalidNumber : exB K "InvalidNumber" = true) (c_InvalidNumber : mg "InvalidNumber" = some (.ref (He.ga K "InvalidNumber"))) (x_InvalidWord : exB K "InvalidWord" = true) (c_InvalidWord : mg "InvalidWord" = some (.ref (He.ga K "InvalidWord"))) (x_InvalidBook : exB K "InvalidBook" = true) (c_InvalidBook : mg "InvalidBook" = some (.ref (He.ga K "InvalidBook"))) (x_InvalidRow : exB K "InvalidRow" = true) (c_InvalidRow : mg "InvalidRow" = some (.ref (He.ga K "InvalidRow"))) (x_InvalidCell : exB K "InvalidCell" = true) (c_InvalidCell : mg "InvalidCell" = some (.ref (He.ga K "InvalidCell"))) (x_InvalidKey : exB K "InvalidKey" = true) (c_InvalidKey : mg "InvalidKey" = some (.ref (He.ga K "InvalidKey"))) (x_InvalidValues : exB K "InvalidValues" = true) (c_InvalidValues : mg "InvalidValues" = some (.ref (He.ga K "InvalidValues"))) (x_InvalidTable : exB K "InvalidTable" = true) (c_InvalidTable : mg "InvalidTable" = some (.ref (He.ga K "InvalidTable"))) (x_InvalidLot : exB K "InvalidLot" = true) (c_InvalidLot : mg "InvalidLot" = some (.ref (He.ga K "InvalidLot"))) (x_NotFree : exB K "NotFree" = true) (c_NotFree : mg "NotFree" = some (.ref (He.ga K "NotFree"))) (x_InvalidSeats : exB K "InvalidSeats" = true) (c_InvalidSeats : mg "InvalidSeats" = some (.ref (He.ga K "InvalidSeats"))) (x_InvalidRoad : exB K "InvalidRoad" = true) (c_InvalidRoad : mg "InvalidRoad" = some (.ref (He.ga K "InvalidRoad"))) (x_InvalidPlacing : exB K "InvalidPlacing" = true) (c_InvalidPlacing : mg "InvalidPlacing" = some (.ref (He.ga K "InvalidPlacing"))) (x_NoSeats : exB K "NoSeats" = true) (c_NoSeats : mg "NoSeats" = some (.ref (He.ga K "NoSeats"))) (x_NoTable : exB K "NoTable" = true) (c_NoTable : mg "NoTable" = some (.ref (He.ga K "NoTable"))) (x_InvalidFilter : exB K "InvalidFilter" = true) (c_InvalidFilter : mg "InvalidFilter" = some (.ref (He.ga K "InvalidFilter"))) (x_InvalidMixing : exB K "InvalidMixing" = true) (c_InvalidMixing : mg "InvalidMixing" = some (.ref (He.ga K "InvalidMixing"))) (x_InvalidChain : exB K "InvalidChain" = true) (c_InvalidChain : mg "InvalidChain" = some (.ref (He.ga K "InvalidChain"))) (x_NotGood : exB K "NotGood" = true) (c_NotGood : mg "NotGood" = some (.ref (He.ga K "NotGood"))) (x_HasCore : exB K "HasCore" = true) (c_HasCore : mg "HasCore" = some (.ref (He.ga K "HasCore"))) (x_InvalidName : exB K "InvalidName" = true) (c_InvalidName : mg "InvalidName" = some (.ref (He.ga K "InvalidName"))) (x_Unreadable : exB K "Unreadable" = true) (c_Unreadable : mg "Unreadable" = some (.ref (He.ga K "Unreadable"))) (x_NothingToUndo : exB K "NothingToUndo" = true) (c_NothingToUndo : mg "NothingToUndo" = some (.ref (He.ga K "NothingToUndo"))) (x_UnknownName : exB K "UnknownName" = true) (c_UnknownName : mg "UnknownName" = some (.ref (He.ga K "UnknownName"))) (x_Unorderly : exB K "Unorderly" = true) (c_Unorderly : mg "Unorderly" = some (.ref (He.ga K "Unorderly"))) (hisx : ∀ x ∈ exsL, isC x K = true) : FnOk P w K mg base (L2.CX P w) 1 f fd ["e"] (LP K mg 1 sp__law_kinds) := def_ok F sc__law_kinds (fun cdv A outer s H E hr => by
  have nd := sc__law_kinds.nd
  have hu := hr.units
  have hp := own_cx (P := P) (w := w) (K := K) (mg := mg) (base := base) (N := ["e", "found"]) (qual := "_law_kinds") (scope := defScope s__law_kinds) (f := f) (cd := cdv) (A := A) (outer := outer) (s := s) (H := H) (E := E)
  have hx := pass_cx (P := P) (w := w) (K := K) (mg := mg) (base := base) (N := ["e", "found"]) (qual := "_law_kinds") (scope := defScope s__law_kinds) (f := f) (cd := cdv) (A := A) (outer := outer) (s := s) (H := H) (E := E)
  have ht := takes_cx (P := P) (w := w) (K := K) (mg := mg) (base := base) (N := ["e", "found"]) (qual := "_law_kinds") (scope := defScope s__law_kinds) (f := f) (cd := cdv) (A := A) (outer := outer) (s := s) (H := H) (E := E)
  exact (q_scons (q_set (i := 1) nd (q_lst (q_cons (q_isx (q_var 0) hisx (by rfl) m_isinstance (by rfl) x_InvalidBook c_InvalidBook) (q_cons (q_isx (q_var 0) hisx (by rfl) m_isinstance (by rfl) x_InvalidWord c_InvalidWord) (q_cons (q_isx (q_var 0) hisx (by rfl) m_isinstance (by rfl) x_InvalidNumber c_InvalidNumber) q_nil))))) (q_scons (q_set (i := 1) nd (q_op o_add (q_var 1) (q_lst (q_cons (q_isx (q_var 0) hisx (by rfl) m_isinstance (by rfl) x_InvalidKey c_InvalidKey) (q_cons (q_isx (q_var 0) hisx (by rfl) m_isinstance (by rfl) x_InvalidCell c_InvalidCell) (q_cons (q_isx (q_var 0) hisx (by rfl) m_isinstance (by rfl) x_InvalidRow c_InvalidRow) q_nil)))))) (q_scons (q_set (i := 1) nd (q_op o_add (q_var 1) (q_lst (q_cons (q_isx (q_var 0) hisx (by rfl) m_isinstance (by rfl) x_InvalidLot c_InvalidLot) (q_cons (q_isx (q_var 0) hisx (by rfl) m_isinstance (by rfl) x_InvalidTable c_InvalidTable) (q_cons (q_isx (q_var 0) hisx (by rfl) m_isinstance (by rfl) x_InvalidValues c_InvalidValues) q_nil)))))) (q_scons (q_set (i := 1) nd (q_op o_add (q_var 1) (q_lst (q_cons (q_isx (q_var 0) hisx (by rfl) m_isinstance (by rfl) x_InvalidRoad c_InvalidRoad) (q_cons (q_isx (q_var 0) hisx (by rfl) m_isinstance (by rfl) x_InvalidSeats c_InvalidSeats) (q_cons (q_isx (q_var 0) hisx (by rfl) m_isinstance (by rfl) x_NotFree c_NotFree) q_nil)))))) (q_scons (q_set (i := 1) nd (q_op o_add (q_var 1) (q_lst (q_cons (q_isx (q_var 0) hisx (by rfl) m_isinstance (by rfl) x_NoTable c_NoTable) (q_cons (q_isx (q_var 0) hisx (by rfl) m_isinstance (by rfl) x_NoSeats c_NoSeats) (q_cons (q_isx (q_var 0) hisx (by rfl) m_isinstance (by rfl) x_InvalidPlacing c_InvalidPlacing) q_nil)))))) (q_scons (q_set (i := 1) nd (q_op o_add (q_var 1) (q_lst (q_cons (q_isx (q_var 0) hisx (by rfl) m_isinstance (by rfl) x_InvalidChain c_InvalidChain) (q_cons (q_isx (q_var 0) hisx (by rfl) m_isinstance (by rfl) x_InvalidMixing c_InvalidMixing) (q_cons (q_isx (q_var 0) hisx (by rfl) m_isinstance (by rfl) x_InvalidFilter c_InvalidFilter) q_nil)))))) (q_scons (q_set (i := 1) nd (q_op o_add (q_var 1) (q_lst (q_cons (q_isx (q_var 0) hisx (by rfl) m_isinstance (by rfl) x_InvalidName c_InvalidName) (q_cons (q_isx (q_var 0) hisx (by rfl) m_isinstance (by rfl) x_HasCore c_HasCore) (q_cons (q_isx (q_var 0) hisx (by rfl) m_isinstance (by rfl) x_NotGood c_NotGood) q_nil)))))) (q_scons (q_set (i := 1) nd (q_op o_add (q_var 1) (q_lst (q_cons (q_isx (q_var 0) hisx (by rfl) m_isinstance (by rfl) x_UnknownName c_UnknownName) (q_cons (q_isx (q_var 0) hisx (by rfl) m_isinstance (by rfl) x_NothingToUndo c_NothingToUndo) (q_cons (q_isx (q_var 0) hisx (by rfl) m_isinstance (by rfl) x_Unreadable c_Unreadable) q_nil)))))) (q_one1 (q_ret (q_op o_add (q_var 1) (q_lst (q_cons (q_isx (q_var 0) hisx (by rfl) m_isinstance (by rfl) x_Unorderly c_Unorderly) q_nil)))))))))))))) k__law_kinds
theorem ok__law_given {f : Addr} {fd : FuncData} (F : FnP K "_law_given" s__law_given f fd) {f__law_take : Addr} {fd__law_take : FuncData} (T__law_take : FT P w K mg base "_law_take" 1 ["deck", "many"] sp__law_take f__law_take fd__law_take) : FnOk P w K mg base (L2.CX P w) 2 f fd ["deck"] (LP K mg 1 sp__law_given) := def_ok F sc__law_given (fun cdv A outer s H E hr => by
  have nd := sc__law_given.nd
  have hu := hr.units
  have hp := own_cx (P := P) (w := w) (K := K) (mg := mg) (base := base) (N := ["deck", "far", "some"]) (qual := "_law_given") (scope := defScope s__law_given) (f := f) (cd := cdv) (A := A) (outer := outer) (s := s) (H := H) (E := E)
  have hx := pass_cx (P := P) (w := w) (K := K) (mg := mg) (base := base) (N := ["deck", "far", "some"]) (qual := "_law_given") (scope := defScope s__law_given) (f := f) (cd := cdv) (A := A) (outer := outer) (s := s) (H := H) (E := E)
  exact (q_scons (q_set (i := 1) nd (q_op o_sub (q_call T__law_take.ok (hr.mono (by decide)) (by rfl) T__law_take.hm T__law_take.hk T__law_take.hb hx (q_cons (q_var 0) (q_cons (q_op o_pow q_int q_int) q_nil))) (q_op o_pow q_int q_int))) (q_scons (q_set (i := 2) nd (q_lst (q_cons (q_var 1) (q_cons (q_call T__law_take.ok (hr.mono (by decide)) (by rfl) T__law_take.hm T__law_take.hk T__law_take.hb hx (q_cons (q_var 0) (q_cons q_int q_nil))) (q_cons q_str (q_cons q_str (q_cons q_non (q_cons q_bl (q_cons q_bl (q_cons (q_tup q_nil) (q_cons (q_tup (q_cons (q_var 1) (q_cons q_int q_nil))) (q_cons (q_lst (q_cons (q_var 1) (q_cons q_str q_nil))) (q_cons (q_tup (q_cons (q_tup (q_cons q_int (q_cons q_int q_nil))) (q_cons (q_tup (q_cons q_str (q_cons (q_tup q_nil) q_nil))) q_nil))) (q_cons (q_lst q_nil) q_nil)))))))))))))) (q_scons (q_set (i := 2) nd (q_op o_add (q_var 2) (q_lst (q_cons (q_un o_neg q_int) (q_cons q_int q_nil))))) (q_one1 (q_ret (q_ix (q_var 2) (q_call T__law_take.ok (hr.mono (by decide)) (by rfl) T__law_take.hm T__law_take.hk T__law_take.hb hx (q_cons (q_var 0) (q_cons q_int q_nil)))))))))) k__law_given
theorem ok__law_right {f : Addr} {fd : FuncData} (F : FnP K "_law_right" s__law_right f fd) {f__law_raised : Addr} {fd__law_raised : FuncData} (T__law_raised : FT P w K mg base "_law_raised" 4 ["which", "given", "named"] sp__law_raised f__law_raised fd__law_raised) {f__law_kinds : Addr} {fd__law_kinds : FuncData} (T__law_kinds : FT P w K mg base "_law_kinds" 1 ["e"] sp__law_kinds f__law_kinds fd__law_kinds) {f__law_same : Addr} {fd__law_same : FuncData} (T__law_same : FT P w K mg base "_law_same" 9 ["found", "due"] sp__law_same f__law_same fd__law_same) (m_isinstance : mg "isinstance" = none) (m_ValueError : mg "ValueError" = none) (m_range : mg "range" = none) {fd_init : FuncData} (hI : IniT P w K mg base fd_init) (x_TellError : exB K "TellError" = true) (c_TellError : mg "TellError" = some (.ref (He.ga K "TellError"))) (hisx : ∀ x ∈ exsL, isC x K = true) : FnOk P w K mg base (L2.CX P w) 10 f fd ["which", "given", "named"] (LP K mg 3 sp__law_right) := def_ok F sc__law_right (fun cdv A outer s H E hr => by
  have nd := sc__law_right.nd
  have hu := hr.units
  have hp := own_cx (P := P) (w := w) (K := K) (mg := mg) (base := base) (N := ["which", "given", "named", "caught", "e", "k"]) (qual := "_law_right") (scope := defScope s__law_right) (f := f) (cd := cdv) (A := A) (outer := outer) (s := s) (H := H) (E := E)
  have hx := pass_cx (P := P) (w := w) (K := K) (mg := mg) (base := base) (N := ["which", "given", "named", "caught", "e", "k"]) (qual := "_law_right") (scope := defScope s__law_right) (f := f) (cd := cdv) (A := A) (outer := outer) (s := s) (H := H) (E := E)
  have ht := takes_cx (P := P) (w := w) (K := K) (mg := mg) (base := base) (N := ["which", "given", "named", "caught", "e", "k"]) (qual := "_law_right") (scope := defScope s__law_right) (f := f) (cd := cdv) (A := A) (outer := outer) (s := s) (H := H) (E := E)
  exact (q_scons (q_set (i := 3) nd q_non) (q_scons (q_try rfl rfl rfl nd ht (fun W pn xe ht1 => (w_one (w_expr (w_call T__law_raised.ok (hr.mono (by decide)) (by rfl) T__law_raised.hm T__law_raised.hk T__law_raised.hb ht1 (w_cons (w_e fun E => (q_var 0)) (w_cons (w_e fun E => (q_var 1)) (w_cons (w_e fun E => (q_var 2)) w_nil))))))) (.cons (h := ⟨"TellError", (some 4), (dSet 3 (dVar 4))⟩) (by rfl) (by decide) c_TellError x_TellError (by decide) (.inr ⟨_, _, rfl, rfl, rfl, rfl⟩) (fun a pn => (q_one1 (q_set (i := 3) nd (q_var 4)))) .nil)) (q_scons (q_if (q_w (q_or (q_tcmp o_is (q_var 3) q_non) (q_or1 (q_not (q_tval (q_isxV (q_var 3) hisx (by rfl) m_isinstance (by rfl) m_ValueError)))))) (q_one1 (q_ret q_bl)) q_snil) (q_one1 (q_ret (q_andV (q_cmp (o_eq hu) (q_call T__law_kinds.ok (hr.mono (by decide)) (by rfl) T__law_kinds.hm T__law_kinds.hk T__law_kinds.hb hx (q_cons (q_var 3) q_nil)) (q_lc (own := [("k", 5)]) rfl nd (q_rg1 (by rfl) m_range (q_cons q_int q_nil)) (blkOk_by (by kernel_rfl)) (fun _ _ _ _ _ => (q_gnm (i := 5) nd)) (fun _ _ _ _ _ => q_tnil) (fun _ _ _ _ _ => (q_cmp (o_eq hu) (q_var 5) (q_var 0))))) (q_one (q_call T__law_same.ok (hr.mono (by decide)) (by rfl) T__law_same.hm T__law_same.hk T__law_same.hb hx (q_cons (q_xv (q_var 3)) (q_cons (q_var 1) q_nil))))))))))) k__law_right
theorem ok__law_base_right {f : Addr} {fd : FuncData} (F : FnP K "_law_base_right" s__law_base_right f fd) {f__law_kinds : Addr} {fd__law_kinds : FuncData} (T__law_kinds : FT P w K mg base "_law_kinds" 1 ["e"] sp__law_kinds f__law_kinds fd__law_kinds) {f__law_same : Addr} {fd__law_same : FuncData} (T__law_same : FT P w K mg base "_law_same" 9 ["found", "due"] sp__law_same f__law_same fd__law_same) (m_isinstance : mg "isinstance" = none) (m_ValueError : mg "ValueError" = none) {fd_init : FuncData} (hI : IniT P w K mg base fd_init) (x_TellError : exB K "TellError" = true) (c_TellError : mg "TellError" = some (.ref (He.ga K "TellError"))) (hK : IniK P w K mg base fd_init) (hisx : ∀ x ∈ exsL, isC x K = true) : FnOk P w K mg base (L2.CX P w) 10 f fd ["given"] (LP K mg 1 sp__law_base_right) := def_ok F sc__law_base_right (fun cdv A outer s H E hr => by
  have nd := sc__law_base_right.nd
  have hu := hr.units
  have hp := own_cx (P := P) (w := w) (K := K) (mg := mg) (base := base) (N := ["given", "caught", "e"]) (qual := "_law_base_right") (scope := defScope s__law_base_right) (f := f) (cd := cdv) (A := A) (outer := outer) (s := s) (H := H) (E := E)
  have hx := pass_cx (P := P) (w := w) (K := K) (mg := mg) (base := base) (N := ["given", "caught", "e"]) (qual := "_law_base_right") (scope := defScope s__law_base_right) (f := f) (cd := cdv) (A := A) (outer := outer) (s := s) (H := H) (E := E)
  have ht := takes_cx (P := P) (w := w) (K := K) (mg := mg) (base := base) (N := ["given", "caught", "e"]) (qual := "_law_base_right") (scope := defScope s__law_base_right) (f := f) (cd := cdv) (A := A) (outer := outer) (s := s) (H := H) (E := E)
  exact (q_scons (q_set (i := 1) nd q_non) (q_scons (q_try rfl rfl rfl nd ht (fun W pn xe ht1 => (w_one (w_raiseK rfl hK (hr.mono (by decide)) ht1 x_TellError c_TellError (fun E => (q_kcons (q_var 0) q_knil))))) (.cons (h := ⟨"TellError", (some 2), (dSet 1 (dVar 2))⟩) (by rfl) (by decide) c_TellError x_TellError (by decide) (.inr ⟨_, _, rfl, rfl, rfl, rfl⟩) (fun a pn => (q_one1 (q_set (i := 1) nd (q_var 2)))) .nil)) (q_scons (q_if (q_w (q_or (q_not (q_tval (q_isxV (q_var 1) hisx (by rfl) m_isinstance (by rfl) m_ValueError))) (q_or1 (q_tcmp o_in q_bl (q_call T__law_kinds.ok (hr.mono (by decide)) (by rfl) T__law_kinds.hm T__law_kinds.hk T__law_kinds.hb hx (q_cons (q_var 1) q_nil)))))) (q_one1 (q_ret q_bl)) q_snil) (q_one1 (q_ret (q_andV (q_call T__law_same.ok (hr.mono (by decide)) (by rfl) T__law_same.hm T__law_same.hk T__law_same.hb hx (q_cons (q_xv (q_var 1)) (q_cons (q_var 0) q_nil))) (q_one (q_call T__law_same.ok (hr.mono (by decide)) (by rfl) T__law_same.hm T__law_same.hk T__law_same.hb hx (q_cons (q_xnew hI (hr.mono (by decide)) x_TellError c_TellError (q_cons (q_var 0) q_nil)) (q_cons (q_var 0) q_nil))))))))))) k__law_base_right
theorem ok_law {f : Addr} {fd : FuncData} (F : FnP K "law" s_law f fd) {f__law_deck : Addr} {fd__law_deck : FuncData} (T__law_deck : FT P w K mg base "_law_deck" 1 ["script", "k"] sp__law_deck f__law_deck fd__law_deck) {f__law_take : Addr} {fd__law_take : FuncData} (T__law_take : FT P w K mg base "_law_take" 1 ["deck", "many"] sp__law_take f__law_take fd__law_take) {f__law_given : Addr} {fd__law_given : FuncData} (T__law_given : FT P w K mg base "_law_given" 2 ["deck"] sp__law_given f__law_given fd__law_given) {f__law_right : Addr} {fd__law_right : FuncData} (T__law_right : FT P w K mg base "_law_right" 10 ["which", "given", "named"] sp__law_right f__law_right fd__law_right) {f__law_base_right : Addr} {fd__law_base_right : FuncData} (T__law_base_right : FT P w K mg base "_law_base_right" 10 ["given"] sp__law_base_right f__law_base_right fd__law_base_right) {f__law_raised : Addr} {fd__law_raised : FuncData} (T__law_raised : FT P w K mg base "_law_raised" 4 ["which", "given", "named"] sp__law_raised f__law_raised fd__law_raised) {f__law_same : Addr} {fd__law_same : FuncData} (T__law_same : FT P w K mg base "_law_same" 9 ["found", "due"] sp__law_same f__law_same fd__law_same) (m_range : mg "range" = none) (m_max : mg "max" = none) (m_min : mg "min" = none) (m_len : mg "len" = none) {fd_init : FuncData} (hI : IniT P w K mg base fd_init) (x_TellError : exB K "TellError" = true) (c_TellError : mg "TellError" = some (.ref (He.ga K "TellError"))) : FnOk P w K mg base (L2.CX P w) 11 f fd ["script"] (LP K mg 1 sp_law) := def_ok F sc_law (fun cdv A outer s H E hr => by
  have nd := sc_law.nd
  have hu := hr.units
  have hp := own_cx (P := P) (w := w) (K := K) (mg := mg) (base := base) (N := ["script", "first", "second", "k", "deck", "e", "which", "named", "given", "other"]) (qual := "law") (scope := defScope s_law) (f := f) (cd := cdv) (A := A) (outer := outer) (s := s) (H := H) (E := E)
  have hx := pass_cx (P := P) (w := w) (K := K) (mg := mg) (base := base) (N := ["script", "first", "second", "k", "deck", "e", "which", "named", "given", "other"]) (qual := "law") (scope := defScope s_law) (f := f) (cd := cdv) (A := A) (outer := outer) (s := s) (H := H) (E := E)
  have ht := takes_cx (P := P) (w := w) (K := K) (mg := mg) (base := base) (N := ["script", "first", "second", "k", "deck", "e", "which", "named", "given", "other"]) (qual := "law") (scope := defScope s_law) (f := f) (cd := cdv) (A := A) (outer := outer) (s := s) (H := H) (E := E)
  exact (q_scons (q_asg (q_tup (q_cons q_non (q_cons q_non q_nil))) (q_gtp rfl (q_gscons (q_gnm (i := 1) nd) (q_gscons (q_gnm (i := 2) nd) q_gsnil))).p) (q_scons (q_for hp rfl (q_rg1 (by rfl) m_range (q_cons (q_callB (c_max rfl) (by rfl) m_max boot_max (q_cons q_int (q_cons (q_callB (c_min rfl) (by rfl) m_min boot_min (q_cons (q_callB c_len (by rfl) m_len boot_len (q_cons (q_var 0) q_nil)) (q_cons q_int q_nil))) q_nil))) q_nil)) (q_gnm (i := 3) nd) (q_scons (q_set (i := 4) nd (q_call T__law_deck.ok (hr.mono (by decide)) (by rfl) T__law_deck.hm T__law_deck.hk T__law_deck.hb hx (q_cons (q_var 0) (q_cons (q_var 3) q_nil)))) (q_scons (q_par (i := 6) (j := 7) rfl nd (q_cons (q_call T__law_take.ok (hr.mono (by decide)) (by rfl) T__law_take.hm T__law_take.hk T__law_take.hb hx (q_cons (q_var 4) (q_cons q_int q_nil))) (q_cons (q_cmp (o_eq hu) (q_call T__law_take.ok (hr.mono (by decide)) (by rfl) T__law_take.hm T__law_take.hk T__law_take.hb hx (q_cons (q_var 4) (q_cons q_int q_nil))) q_int) q_nil))) (q_scons (q_par (i := 8) (j := 9) rfl nd (q_cons (q_call T__law_given.ok (hr.mono (by decide)) (by rfl) T__law_given.hm T__law_given.hk T__law_given.hb hx (q_cons (q_var 4) q_nil)) (q_cons (q_call T__law_given.ok (hr.mono (by decide)) (by rfl) T__law_given.hm T__law_given.hk T__law_given.hb hx (q_cons (q_var 4) q_nil)) q_nil))) (q_scons (q_if (q_w (q_or (q_not (q_tval (q_call T__law_right.ok (hr.mono (by decide)) (by rfl) T__law_right.hm T__law_right.hk T__law_right.hb hx (q_cons (q_var 6) (q_cons (q_var 8) (q_cons (q_var 7) q_nil)))))) (q_or (q_not (q_tval (q_call T__law_right.ok (hr.mono (by decide)) (by rfl) T__law_right.hm T__law_right.hk T__law_right.hb hx (q_cons (q_var 6) (q_cons (q_var 9) (q_cons (q_notV (q_var 7)) q_nil)))))) (q_or1 (q_not (q_tval (q_call T__law_base_right.ok (hr.mono (by decide)) (by rfl) T__law_base_right.hm T__law_base_right.hk T__law_base_right.hb hx (q_cons (q_var 9) q_nil)))))))) (q_one1 (q_ret q_bl)) q_snil) (q_scons (q_try rfl rfl rfl nd ht (fun W pn xe ht1 => (w_one (w_expr (w_call T__law_raised.ok (hr.mono (by decide)) (by rfl) T__law_raised.hm T__law_raised.hk T__law_raised.hb ht1 (w_cons (w_e fun E => (q_var 6)) (w_cons (w_e fun E => (q_var 8)) (w_cons (w_e fun E => (q_var 7)) w_nil))))))) (.cons (h := ⟨"TellError", (some 5), (dSet 1 (dVar 5))⟩) (by rfl) (by decide) c_TellError x_TellError (by decide) (.inr ⟨_, _, rfl, rfl, rfl, rfl⟩) (fun a pn => (q_one1 (q_set (i := 1) nd (q_var 5)))) .nil)) (q_scons (q_try rfl rfl rfl nd ht (fun W pn xe ht1 => (w_one (w_expr (w_call T__law_raised.ok (hr.mono (by decide)) (by rfl) T__law_raised.hm T__law_raised.hk T__law_raised.hb ht1 (w_cons (w_e fun E => (q_var 6)) (w_cons (w_e fun E => (q_var 9)) (w_cons (w_e fun E => (q_var 7)) w_nil))))))) (.cons (h := ⟨"TellError", (some 5), (dSet 2 (dVar 5))⟩) (by rfl) (by decide) c_TellError x_TellError (by decide) (.inr ⟨_, _, rfl, rfl, rfl, rfl⟩) (fun a pn => (q_one1 (q_set (i := 2) nd (q_var 5)))) .nil)) (q_one1 (q_if (q_w (q_or (q_not (q_tval (q_call T__law_same.ok (hr.mono (by decide)) (by rfl) T__law_same.hm T__law_same.hk T__law_same.hb hx (q_cons (q_xv (q_var 1)) (q_cons (q_var 8) q_nil))))) (q_or1 (q_not (q_tval (q_call T__law_same.ok (hr.mono (by decide)) (by rfl) T__law_same.hm T__law_same.hk T__law_same.hb hx (q_cons (q_xv (q_var 2)) (q_cons (q_var 9) q_nil)))))))) (q_one1 (q_ret q_bl)) q_snil))))))))) (q_scons (q_for hp rfl (q_rg1 (by rfl) m_range (q_cons q_int q_nil)) (q_gnm (i := 6) nd) (q_one1 (q_if (q_w (q_or (q_not (q_tval (q_call T__law_right.ok (hr.mono (by decide)) (by rfl) T__law_right.hm T__law_right.hk T__law_right.hb hx (q_cons (q_var 6) (q_cons (q_var 6) (q_cons q_bl q_nil)))))) (q_or1 (q_not (q_tval (q_call T__law_right.ok (hr.mono (by decide)) (by rfl) T__law_right.hm T__law_right.hk T__law_right.hb hx (q_cons (q_var 6) (q_cons q_str (q_cons q_bl q_nil))))))))) (q_one1 (q_ret q_bl)) q_snil))) (q_one1 (q_ret q_bl)))))) k_law
end
theorem facts {P : Program} {w : World} {K : PySem.W.Frag} {h : Heap} {mg : Str → Option Value} {f : Addr} (X : K.In h) (G : h.Ns mainGlobals mg) (hfa : mg ("law" : Str) = some (.ref f)) (cc : SaysC cs bf fa fn K) :
    ∃ fd : FuncData, (∀ (s : Shared) (v : Value), BindsTo s fd ⟨[v], []⟩ [("script", v)]) ∧ ∀ base : Heap, K.In base → base.Ns mainGlobals mg → FnOk P w K mg base (L2.CX P w) 11 f fd ["script"] (LP K mg 1 sp_law) := by
  have cb := cc.2
  have c := cb.2
  obtain ⟨fd__law_deck, F__law_deck⟩ := c.def_ 0 (d := d__law_deck) rfl
  have hm__law_deck := He.glo_ok X G (c.fact 0 (f := .glo "_law_deck") rfl)
  obtain ⟨fd__law_take, F__law_take⟩ := c.def_ 1 (d := d__law_take) rfl
  have hm__law_take := He.glo_ok X G (c.fact 1 (f := .glo "_law_take") rfl)
  obtain ⟨fd__law_same, F__law_same⟩ := c.def_ 2 (d := d__law_same) rfl
  have hm__law_same := He.glo_ok X G (c.fact 2 (f := .glo "_law_same") rfl)
  obtain ⟨fd__law_raise_first, F__law_raise_first⟩ := c.def_ 3 (d := d__law_raise_first) rfl
  have hm__law_raise_first := He.glo_ok X G (c.fact 3 (f := .glo "_law_raise_first") rfl)
  obtain ⟨fd__law_raise_second, F__law_raise_second⟩ := c.def_ 4 (d := d__law_raise_second) rfl
  have hm__law_raise_second := He.glo_ok X G (c.fact 4 (f := .glo "_law_raise_second") rfl)
  obtain ⟨fd__law_raise_named_first, F__law_raise_named_first⟩ := c.def_ 5 (d := d__law_raise_named_first) rfl
  have hm__law_raise_named_first := He.glo_ok X G (c.fact 5 (f := .glo "_law_raise_named_first") rfl)
  obtain ⟨fd__law_raise_named_second, F__law_raise_named_second⟩ := c.def_ 6 (d := d__law_raise_named_second) rfl
  have hm__law_raise_named_second := He.glo_ok X G (c.fact 6 (f := .glo "_law_raise_named_second") rfl)
  obtain ⟨fd__law_raised, F__law_raised⟩ := c.def_ 7 (d := d__law_raised) rfl
  have hm__law_raised := He.glo_ok X G (c.fact 7 (f := .glo "_law_raised") rfl)
  obtain ⟨fd__law_kinds, F__law_kinds⟩ := c.def_ 8 (d := d__law_kinds) rfl
  have hm__law_kinds := He.glo_ok X G (c.fact 8 (f := .glo "_law_kinds") rfl)
  obtain ⟨fd__law_given, F__law_given⟩ := c.def_ 9 (d := d__law_given) rfl
  have hm__law_given := He.glo_ok X G (c.fact 9 (f := .glo "_law_given") rfl)
  obtain ⟨fd__law_right, F__law_right⟩ := c.def_ 10 (d := d__law_right) rfl
  have hm__law_right := He.glo_ok X G (c.fact 10 (f := .glo "_law_right") rfl)
  obtain ⟨fd__law_base_right, F__law_base_right⟩ := c.def_ 11 (d := d__law_base_right) rfl
  have hm__law_base_right := He.glo_ok X G (c.fact 11 (f := .glo "_law_base_right") rfl)
  obtain ⟨fd_law, F_law⟩ := c.def_ 12 (d := d_law) rfl
  have hm_law := He.glo_ok X G (c.fact 12 (f := .glo "law") rfl)
  have m_len := He.free_ok X G (c.fact 13 (f := .free "len") rfl)
  have m_int := He.free_ok X G (c.fact 14 (f := .free "int") rfl)
  have m_isinstance := He.free_ok X G (c.fact 15 (f := .free "isinstance") rfl)
  have m_tuple := He.free_ok X G (c.fact 16 (f := .free "tuple") rfl)
  have m_list := He.free_ok X G (c.fact 17 (f := .free "list") rfl)
  have m_range := He.free_ok X G (c.fact 18 (f := .free "range") rfl)
  have m_str := He.free_ok X G (c.fact 19 (f := .free "str") rfl)
  have m_bool := He.free_ok X G (c.fact 20 (f := .free "bool") rfl)
  have m_ValueError := He.free_ok X G (c.fact 21 (f := .free "ValueError") rfl)
  have m_max := He.free_ok X G (c.fact 22 (f := .free "max") rfl)
  have m_min := He.free_ok X G (c.fact 23 (f := .free "min") rfl)
  obtain ⟨fd_init, F_init⟩ := c.def_ 13 (d := d_init) rfl
  have hI : ∀ base : Heap, IniT P w K mg base fd_init := fun base => ⟨ok_init F_init m_ValueError (veC_ok (cc.chk 0 rfl)), FunD.bindsN F_init fun _ _ _ _ _ _ us hl => match us, hl with | [_, _], _ => rfl⟩
  have hK : ∀ base : Heap, IniK P w K mg base fd_init := fun base => ⟨hI base, kb_of F_init _ _ _ fun _ _ _ _ _ _ us ws h1 h2 => match us, ws, h1, h2 with | [_], [_], _, _ => rfl⟩
  have x_InvalidBook : exB K "InvalidBook" = true := cc.chk 1 rfl
  have c_InvalidBook := He.glo_ok X G (c.fact 24 (f := .glo "InvalidBook") rfl)
  have x_InvalidWord : exB K "InvalidWord" = true := cc.chk 2 rfl
  have c_InvalidWord := He.glo_ok X G (c.fact 25 (f := .glo "InvalidWord") rfl)
  have x_InvalidNumber : exB K "InvalidNumber" = true := cc.chk 3 rfl
  have c_InvalidNumber := He.glo_ok X G (c.fact 26 (f := .glo "InvalidNumber") rfl)
  have x_InvalidKey : exB K "InvalidKey" = true := cc.chk 4 rfl
  have c_InvalidKey := He.glo_ok X G (c.fact 27 (f := .glo "InvalidKey") rfl)
  have x_InvalidCell : exB K "InvalidCell" = true := cc.chk 5 rfl
  have c_InvalidCell := He.glo_ok X G (c.fact 28 (f := .glo "InvalidCell") rfl)
  have x_InvalidRow : exB K "InvalidRow" = true := cc.chk 6 rfl
  have c_InvalidRow := He.glo_ok X G (c.fact 29 (f := .glo "InvalidRow") rfl)
  have x_InvalidLot : exB K "InvalidLot" = true := cc.chk 7 rfl
  have c_InvalidLot := He.glo_ok X G (c.fact 30 (f := .glo "InvalidLot") rfl)
  have x_InvalidTable : exB K "InvalidTable" = true := cc.chk 8 rfl
  have c_InvalidTable := He.glo_ok X G (c.fact 31 (f := .glo "InvalidTable") rfl)
  have x_InvalidValues : exB K "InvalidValues" = true := cc.chk 9 rfl
  have c_InvalidValues := He.glo_ok X G (c.fact 32 (f := .glo "InvalidValues") rfl)
  have x_InvalidRoad : exB K "InvalidRoad" = true := cc.chk 10 rfl
  have c_InvalidRoad := He.glo_ok X G (c.fact 33 (f := .glo "InvalidRoad") rfl)
  have x_InvalidSeats : exB K "InvalidSeats" = true := cc.chk 11 rfl
  have c_InvalidSeats := He.glo_ok X G (c.fact 34 (f := .glo "InvalidSeats") rfl)
  have x_NotFree : exB K "NotFree" = true := cc.chk 12 rfl
  have c_NotFree := He.glo_ok X G (c.fact 35 (f := .glo "NotFree") rfl)
  have x_NoTable : exB K "NoTable" = true := cc.chk 13 rfl
  have c_NoTable := He.glo_ok X G (c.fact 36 (f := .glo "NoTable") rfl)
  have x_NoSeats : exB K "NoSeats" = true := cc.chk 14 rfl
  have c_NoSeats := He.glo_ok X G (c.fact 37 (f := .glo "NoSeats") rfl)
  have x_InvalidPlacing : exB K "InvalidPlacing" = true := cc.chk 15 rfl
  have c_InvalidPlacing := He.glo_ok X G (c.fact 38 (f := .glo "InvalidPlacing") rfl)
  have x_InvalidChain : exB K "InvalidChain" = true := cc.chk 16 rfl
  have c_InvalidChain := He.glo_ok X G (c.fact 39 (f := .glo "InvalidChain") rfl)
  have x_InvalidMixing : exB K "InvalidMixing" = true := cc.chk 17 rfl
  have c_InvalidMixing := He.glo_ok X G (c.fact 40 (f := .glo "InvalidMixing") rfl)
  have x_InvalidFilter : exB K "InvalidFilter" = true := cc.chk 18 rfl
  have c_InvalidFilter := He.glo_ok X G (c.fact 41 (f := .glo "InvalidFilter") rfl)
  have x_InvalidName : exB K "InvalidName" = true := cc.chk 19 rfl
  have c_InvalidName := He.glo_ok X G (c.fact 42 (f := .glo "InvalidName") rfl)
  have x_HasCore : exB K "HasCore" = true := cc.chk 20 rfl
  have c_HasCore := He.glo_ok X G (c.fact 43 (f := .glo "HasCore") rfl)
  have x_NotGood : exB K "NotGood" = true := cc.chk 21 rfl
  have c_NotGood := He.glo_ok X G (c.fact 44 (f := .glo "NotGood") rfl)
  have x_UnknownName : exB K "UnknownName" = true := cc.chk 22 rfl
  have c_UnknownName := He.glo_ok X G (c.fact 45 (f := .glo "UnknownName") rfl)
  have x_NothingToUndo : exB K "NothingToUndo" = true := cc.chk 23 rfl
  have c_NothingToUndo := He.glo_ok X G (c.fact 46 (f := .glo "NothingToUndo") rfl)
  have x_Unreadable : exB K "Unreadable" = true := cc.chk 24 rfl
  have c_Unreadable := He.glo_ok X G (c.fact 47 (f := .glo "Unreadable") rfl)
  have x_Unorderly : exB K "Unorderly" = true := cc.chk 25 rfl
  have c_Unorderly := He.glo_ok X G (c.fact 48 (f := .glo "Unorderly") rfl)
  have x_TellError : exB K "TellError" = true := cc.chk 26 rfl
  have c_TellError := He.glo_ok X G (c.fact 49 (f := .glo "TellError") rfl)
  have hisx : ∀ x ∈ exsL, isC x K = true := List.all_eq_true.mp (cc.chk (p := fun K => exsL.all fun x => isC x K) 27 rfl)
  have e := hfa.symm.trans hm_law
  cases e
  have b__law_deck : Binds K fd__law_deck ["script", "k"] [] := FunD.bindsN F__law_deck fun _ _ _ _ _ _ us hl => match us, hl with | [_, _], _ => rfl
  have b__law_take : Binds K fd__law_take ["deck", "many"] [] := FunD.bindsN F__law_take fun _ _ _ _ _ _ us hl => match us, hl with | [_, _], _ => rfl
  have b__law_same : Binds K fd__law_same ["found", "due"] [] := FunD.bindsN F__law_same fun _ _ _ _ _ _ us hl => match us, hl with | [_, _], _ => rfl
  have b__law_raise_first : Binds K fd__law_raise_first ["which", "given"] [] := FunD.bindsN F__law_raise_first fun _ _ _ _ _ _ us hl => match us, hl with | [_, _], _ => rfl
  have b__law_raise_second : Binds K fd__law_raise_second ["which", "given"] [] := FunD.bindsN F__law_raise_second fun _ _ _ _ _ _ us hl => match us, hl with | [_, _], _ => rfl
  have b__law_raise_named_first : Binds K fd__law_raise_named_first ["which", "given"] [] := FunD.bindsN F__law_raise_named_first fun _ _ _ _ _ _ us hl => match us, hl with | [_, _], _ => rfl
  have b__law_raise_named_second : Binds K fd__law_raise_named_second ["which", "given"] [] := FunD.bindsN F__law_raise_named_second fun _ _ _ _ _ _ us hl => match us, hl with | [_, _], _ => rfl
  have b__law_raised : Binds K fd__law_raised ["which", "given", "named"] [] := FunD.bindsN F__law_raised fun _ _ _ _ _ _ us hl => match us, hl with | [_, _, _], _ => rfl
  have b__law_kinds : Binds K fd__law_kinds ["e"] [] := FunD.bindsN F__law_kinds fun _ _ _ _ _ _ us hl => match us, hl with | [_], _ => rfl
  have b__law_given : Binds K fd__law_given ["deck"] [] := FunD.bindsN F__law_given fun _ _ _ _ _ _ us hl => match us, hl with | [_], _ => rfl
  have b__law_right : Binds K fd__law_right ["which", "given", "named"] [] := FunD.bindsN F__law_right fun _ _ _ _ _ _ us hl => match us, hl with | [_, _, _], _ => rfl
  have b__law_base_right : Binds K fd__law_base_right ["given"] [] := FunD.bindsN F__law_base_right fun _ _ _ _ _ _ us hl => match us, hl with | [_], _ => rfl
  have b_law : Binds K fd_law ["script"] [] := FunD.bindsN F_law fun _ _ _ _ _ _ us hl => match us, hl with | [_], _ => rfl
  have bA := FunD.bindsA (ps := ["script"]) F_law fun _ _ _ _ _ _ us hl => match us, hl with | [_], _ => rfl
  refine ⟨fd_law, fun s v => bA s [v] rfl, fun base _ _ => ?_⟩
  have hI := hI base
  have hK := hK base
  have T__law_deck : FT P w K mg base "_law_deck" 1 ["script", "k"] sp__law_deck _ _ := ⟨ok__law_deck F__law_deck m_len m_int, hm__law_deck, F__law_deck.kp, b__law_deck⟩
  have T__law_take : FT P w K mg base "_law_take" 1 ["deck", "many"] sp__law_take _ _ := ⟨ok__law_take F__law_take m_int, hm__law_take, F__law_take.kp, b__law_take⟩
  have T__law_same : FT P w K mg base "_law_same" 9 ["found", "due"] sp__law_same _ _ := ⟨ok__law_same F__law_same hm__law_same b__law_same m_isinstance m_tuple m_list m_len m_range m_str m_bool m_int, hm__law_same, F__law_same.kp, b__law_same⟩
  have T__law_raise_first : FT P w K mg base "_law_raise_first" 3 ["which", "given"] sp__law_raise_first _ _ := ⟨ok__law_raise_first F__law_raise_first hI x_InvalidBook c_InvalidBook x_InvalidWord c_InvalidWord x_InvalidNumber c_InvalidNumber x_InvalidKey c_InvalidKey x_InvalidCell c_InvalidCell x_InvalidRow c_InvalidRow x_InvalidLot c_InvalidLot x_InvalidTable c_InvalidTable x_InvalidValues c_InvalidValues x_InvalidRoad c_InvalidRoad x_InvalidSeats c_InvalidSeats x_NotFree c_NotFree x_NoTable c_NoTable, hm__law_raise_first, F__law_raise_first.kp, b__law_raise_first⟩
  have T__law_raise_second : FT P w K mg base "_law_raise_second" 3 ["which", "given"] sp__law_raise_second _ _ := ⟨ok__law_raise_second F__law_raise_second hI x_NoSeats c_NoSeats x_InvalidPlacing c_InvalidPlacing x_InvalidChain c_InvalidChain x_InvalidMixing c_InvalidMixing x_InvalidFilter c_InvalidFilter x_InvalidName c_InvalidName x_HasCore c_HasCore x_NotGood c_NotGood x_UnknownName c_UnknownName x_NothingToUndo c_NothingToUndo x_Unreadable c_Unreadable x_Unorderly c_Unorderly, hm__law_raise_second, F__law_raise_second.kp, b__law_raise_second⟩
  have T__law_raise_named_first : FT P w K mg base "_law_raise_named_first" 3 ["which", "given"] sp__law_raise_named_first _ _ := ⟨ok__law_raise_named_first F__law_raise_named_first hI x_InvalidBook c_InvalidBook x_InvalidWord c_InvalidWord x_InvalidNumber c_InvalidNumber x_InvalidKey c_InvalidKey x_InvalidCell c_InvalidCell x_InvalidRow c_InvalidRow x_InvalidLot c_InvalidLot x_InvalidTable c_InvalidTable x_InvalidValues c_InvalidValues x_InvalidRoad c_InvalidRoad x_InvalidSeats c_InvalidSeats x_NotFree c_NotFree x_NoTable c_NoTable hK, hm__law_raise_named_first, F__law_raise_named_first.kp, b__law_raise_named_first⟩
  have T__law_raise_named_second : FT P w K mg base "_law_raise_named_second" 3 ["which", "given"] sp__law_raise_named_second _ _ := ⟨ok__law_raise_named_second F__law_raise_named_second hI x_NoSeats c_NoSeats x_InvalidPlacing c_InvalidPlacing x_InvalidChain c_InvalidChain x_InvalidMixing c_InvalidMixing x_InvalidFilter c_InvalidFilter x_InvalidName c_InvalidName x_HasCore c_HasCore x_NotGood c_NotGood x_UnknownName c_UnknownName x_NothingToUndo c_NothingToUndo x_Unreadable c_Unreadable x_Unorderly c_Unorderly hK, hm__law_raise_named_second, F__law_raise_named_second.kp, b__law_raise_named_second⟩
  have T__law_raised : FT P w K mg base "_law_raised" 4 ["which", "given", "named"] sp__law_raised _ _ := ⟨ok__law_raised F__law_raised T__law_raise_named_first T__law_raise_first T__law_raise_named_second T__law_raise_second, hm__law_raised, F__law_raised.kp, b__law_raised⟩
  have T__law_kinds : FT P w K mg base "_law_kinds" 1 ["e"] sp__law_kinds _ _ := ⟨ok__law_kinds F__law_kinds m_isinstance hI x_InvalidNumber c_InvalidNumber x_InvalidWord c_InvalidWord x_InvalidBook c_InvalidBook x_InvalidRow c_InvalidRow x_InvalidCell c_InvalidCell x_InvalidKey c_InvalidKey x_InvalidValues c_InvalidValues x_InvalidTable c_InvalidTable x_InvalidLot c_InvalidLot x_NotFree c_NotFree x_InvalidSeats c_InvalidSeats x_InvalidRoad c_InvalidRoad x_InvalidPlacing c_InvalidPlacing x_NoSeats c_NoSeats x_NoTable c_NoTable x_InvalidFilter c_InvalidFilter x_InvalidMixing c_InvalidMixing x_InvalidChain c_InvalidChain x_NotGood c_NotGood x_HasCore c_HasCore x_InvalidName c_InvalidName x_Unreadable c_Unreadable x_NothingToUndo c_NothingToUndo x_UnknownName c_UnknownName x_Unorderly c_Unorderly hisx, hm__law_kinds, F__law_kinds.kp, b__law_kinds⟩
  have T__law_given : FT P w K mg base "_law_given" 2 ["deck"] sp__law_given _ _ := ⟨ok__law_given F__law_given T__law_take, hm__law_given, F__law_given.kp, b__law_given⟩
  have T__law_right : FT P w K mg base "_law_right" 10 ["which", "given", "named"] sp__law_right _ _ := ⟨ok__law_right F__law_right T__law_raised T__law_kinds T__law_same m_isinstance m_ValueError m_range hI x_TellError c_TellError hisx, hm__law_right, F__law_right.kp, b__law_right⟩
  have T__law_base_right : FT P w K mg base "_law_base_right" 10 ["given"] sp__law_base_right _ _ := ⟨ok__law_base_right F__law_base_right T__law_kinds T__law_same m_isinstance m_ValueError hI x_TellError c_TellError hK hisx, hm__law_base_right, F__law_base_right.kp, b__law_base_right⟩
  exact ok_law F_law T__law_deck T__law_take T__law_given T__law_right T__law_base_right T__law_raised T__law_same m_range m_max m_min m_len hI x_TellError c_TellError
end Lk
open PySem PySem.W PySem.Calls PyProof.Rows
theorem PySem.Challenge.cw_keytellers_k00_errors_holds : PySem.Challenge.rw_keytellers_k00_errors.Holds := by
  w_on; o_law
  refine HandSHeadRun.head_any (r := OpenLaw.row PySem.Challenge.rw_keytellers_k00_errors) (q := view (OpenLaw.row PySem.Challenge.rw_keytellers_k00_errors).prog [40]) (H := Lk.hk) (ob := Lk.ob) (M := 20000) (loose := Lk.loose) (d := HandSHeadRun.topDef (OpenLaw.row PySem.Challenge.rw_keytellers_k00_errors).prog 40) (kwd := []) Lk.ob_eq
    (by kernel_rfl) (fun s => by kernel_rfl) Lk.run (by kernel_rfl) (by kernel_rfl) (by kernel_rfl) (by rfl) (by first | assumption | decide +kernel) (by decide +kernel) ⟨rfl, rfl, rfl, rfl, rfl, by decide +kernel⟩ ?hw ?hc
  case hw => w_witness2
  case hc =>
    refine Q.walk_ofW (l := PySem.Challenge.rw_keytellers_k00_errors) (n := 63) (k := 11) (x := "script") rfl (by decide) (by kernel_rfl) ⟨rfl, by decide, by decide⟩ ?F
    intro w mg fa h Y G hmg0
    obtain ⟨K, KX, c⟩ := Y
    have hmg : mg ("law" : PySem.Str) = some (.ref fa) := by
      have e : (HandSHeadRun.topDef (OpenLaw.row PySem.Challenge.rw_keytellers_k00_errors).prog 40).name = ("law" : PySem.Str) := by kernel_rfl
      rw [← e]
      exact hmg0
    obtain ⟨fd, hb, hF⟩ := Lk.facts (P := (PySem.Challenge.rw_keytellers_k00_errors).prog) (w := w) KX G hmg c
    exact ⟨K, fd, _, ⟨KX, hb⟩, fun H a ns hl ho hS => Q.law_sp ho hS (Q.law_top ns hl), hF⟩
