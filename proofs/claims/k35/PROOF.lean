import PyProof.Rows.All
import Wide.All
import OpenK.AllK
import Wide.FinOn
import HandS.ForMost
import HandS.ForExc
import HandS.IsInst
import HandS.Wide
import HandS.Style
import HandS.Flow
import HandS.Defaults
import HandS.Exc
import HandS.ExcInit
import HandS.ExcField
import HandS.ExcOwn
import HandS.HeadHook1
import HandS.TupAny
import HandS.TupLe
import HandS.SortInts
import HandS.Flt
import HandS.More
import HandS.Gcd
import HandS.WordsExc
import HandS.Head0
import HandS.Head1
import HandS.Head2
import HandS.Head3
import HandS.HeadEnd
import HandS.HeadHook2
import HandS.DictComp
import HandS.Conv
import HandS.Zip
import HandS.Iter
import HandS.Comp
import HandS.Text
import HandS.SetFor
import HandS.Set
import HandS.Strs
import HandS.Small
import PyProof.SumAnyB
import KE.SortData
import KE.DataMinMax
import HandS.WideBits
import HandS.TupMul
import HandS.Deep
import HandS.NoneIn
import HandS.TryMany
import HandS.TryOnly
import KE.BitLaws
import PySem.Challenge.RW_keytellers_k35_whole_filters_judged
set_option Elab.async false
set_option linter.all false
set_option maxRecDepth 100000
set_option maxHeartbeats 5000000
namespace Q
open PySem
open Spec PyProof.Rows L2

/-! ### data, objects -/
inductive D where
  | non | bl (b : Bool) | int (i : Int) | str (x : Str) | tup (ds : List D) | ref (n : Nat)
inductive O where
  | lst (ds : List D) | ro (ds : List D) | dic (kvs : List (Key × D)) | exo (x : Str) (d : D) | oth
def O.mu : O → Bool
  | .lst _ => true
  | .dic _ => true
  | _ => false
abbrev Sto := List O
abbrev ExD := Str × D
abbrev Sl := List (Option D)
abbrev KD := D → Sto → Prop
abbrev XD := ExD → Sto → Prop
abbrev TED := Sl → Sto → KD → XD → Prop
abbrev TTD := Sl → Sto → (Bool → Sto → Prop) → XD → Prop
abbrev TAD := Sl → Sto → (List D → Sto → Prop) → XD → Prop
structure EndsD where
  nx : Sl → Sto → Prop
  rt : KD
  bk : Sl → Sto → Prop
  ct : Sl → Sto → Prop
  ex : XD
abbrev TSD := EndsD → Sl → Sto → Prop
abbrev SpD := List D → Sto → KD → XD → Prop

/-! ### exceptions' classes -/
def exNs : List Str := ["TellError", "InvalidBook", "InvalidWord", "InvalidNumber", "InvalidKey", "InvalidCell", "InvalidRow", "InvalidLot", "InvalidTable", "InvalidValues", "InvalidRoad", "InvalidSeats", "NotFree",
  "NoTable", "NoSeats", "InvalidPlacing", "InvalidChain", "InvalidMixing", "InvalidFilter", "InvalidName", "HasCore", "NotGood", "UnknownName", "NothingToUndo", "Unreadable", "Unorderly"]
/-- is a class of the first name one under that of the second -/
def exSub (x y : Str) : Bool := decide (x = y) || decide (y = "TellError")
def initA (K : PySem.W.Frag) : Addr := He.ma K (He.ga K "TellError") "__init__"
def oexB (K : PySem.W.Frag) (C : Addr) : Bool := match K.lookup C with
  | some ⟨.type "type", _, .cls cd, sl⟩ => (match cd.mro, sl.toList with
    | .ref C1 :: bm, [_, _, _, _, some (.builtin n), _] => C1 == C && (n == "ValueError.__new__" && (!cd.hasDel && (cd.hasDict && PySem.HandSPX.refsVE bm)))
    | _, _ => false)
  | _ => false
/-- what the head says of an exception's class: it has the common __init__, its value is told, what it is under -/
def exB (K : PySem.W.Frag) (x : Str) : Bool := oexB K (He.ga K x) && (decide (PySem.W.findIn K (.ref (He.ga K x)) "__setattr__" = some (some (.builtin "object.__setattr__"))) &&
  (decide (PySem.W.subIn K (.ref (He.ga K x)) (.type "BaseException") = some true) && (decide (PySem.W.typeIn K (.ref (He.ga K x)) = some (.type "type")) && (PySem.W.keepIn K (.ref (He.ga K x)) &&
  (xfB K (He.ga K x) && (decide (PySem.W.findIn K (.ref (He.ga K x)) "value" = some none) && (decide (PySem.W.findIn K (.ref (He.ga K x)) "__init__" = some (some (.ref (initA K)))) &&
  (decide (PySem.W.typeIn K (.ref (initA K)) = some (.type "function")) && (He.eqO (PySem.W.nsIn K mainGlobals x) (some (some (.ref (He.ga K x)))) &&
  exNs.all fun y => match PySem.W.nsIn K mainGlobals y with
    | some (some (.ref C)) => decide (PySem.W.exmOne K (.ref (He.ga K x)) (.ref C) = some (exSub x y))
    | _ => true)))))))))
/-- an exception at rest -/
def ExV (cls : Value) (d : Option Addr) (a : Addr) : HO := .ext fun h => ∃ (oe : Obj) (vs : Array Value), h.get? a = some oe ∧ Zc cls d oe ∧ oe.data = .fields vs

/-! ### how data lie in the heap -/
section
variable (K : PySem.W.Frag) (H : Hp) (al : List Addr)
mutual
def RD : D → V → Prop
  | .non, v => v = .non
  | .bl b, v => v = .bl b
  | .int i, v => v = .int i
  | .str x, v => v = .str x
  | .tup ds, v => ∃ a vs, v = .ref a ∧ SqT K H a vs ∧ RDs ds vs
  | .ref n, v => ∃ a, v = .ref a ∧ al[n]? = some a
def RDs : List D → List V → Prop
  | [], vs => vs = []
  | d :: ds, vs => ∃ v r, vs = v :: r ∧ RD d v ∧ RDs ds r
end
/-- a list that is only read -/
def RoL (a : Addr) (vs : List V) : Prop := (∃ o, H a = some (.frz o (.lst vs))) ∨
    ∃ (o : Obj) (its : Array Value) (n : Nat), K.lookup a = some o ∧ o.cls = .type "list" ∧ o.dict = none ∧ o.data = .seq its n ∧ its.size ≤ sizeLine ∧ Vals vs its.toList
def RKs : List (Key × D) → List (Key × V) → Prop
  | [], vs => vs = []
  | d :: ds, vs => ∃ v r, vs = (d.1, v) :: r ∧ RD K H al d.2 v ∧ RKs ds r
def RO : O → Addr → Prop
  | .lst ds, a => ∃ vs, H a = some (.lst vs) ∧ RDs K H al ds vs
  | .ro ds, a => ∃ vs, RoL K H a vs ∧ RDs K H al ds vs
  | .dic kvs, a => ∃ vs, H a = some (.dK vs) ∧ RKs K H al kvs vs
  | .exo x d, a => exB K x = true ∧ ∃ (dx : Addr) (v : V), H a = some (ExV (.ref (He.ga K x)) (some dx) a) ∧ H dx = some (.xd [("value", v)]) ∧ RD K H al d v
  | .oth, _ => True
structure RS (S : Sto) : Prop where
  len : al.length = S.length
  nd : ∀ (n m : Nat) (o u : O) (a : Addr), S[n]? = some o → S[m]? = some u → o.mu = true → u.mu = true → al[n]? = some a → al[m]? = some a → n = m
  ob : ∀ (n : Nat) (o : O) (a : Addr), S[n]? = some o → al[n]? = some a → RO K H al o a
structure RSl (sg : Sl) (sv : L2.St) : Prop where
  len : sg.length = sv.length
  at_ : ∀ (i : Nat) (d : D), sg[i]? = some (some d) → ∃ v, sv[i]? = some (some v) ∧ RD K H al d v
end

structure Keep (H H' : Hp) : Prop where
  tup : ∀ a xs, H a = some (.tup xs) → H' a = some (.tup xs)
  frz : ∀ a o u, H a = some (.frz o u) → H' a = some (.frz o u)
  xd : ∀ a fs, H a = some (.xd fs) → H' a = some (.xd fs)
  ext : ∀ a φ, H a = some (.ext φ) → H' a = some (.ext φ)
theorem Keep.refl (H : Hp) : Keep H H := ⟨fun _ _ h => h, fun _ _ _ h => h, fun _ _ h => h, fun _ _ h => h⟩
theorem Keep.trans {H H1 H2 : Hp} (a : Keep H H1) (b : Keep H1 H2) : Keep H H2 := ⟨fun c xs h => b.tup c xs (a.tup c xs h), fun c o u h => b.frz c o u (a.frz c o u h), fun c xs h => b.xd c xs (a.xd c xs h), fun c xs h => b.ext c xs (a.ext c xs h)⟩
theorem Keep.laid {H : Hp} {p : Addr} {o : HO} (h : H p = none) : Keep H (upd H p o) :=
  ⟨fun a xs e => by rw [upd_ne (ne_of_none e h)]; exact e, fun a ob u e => by rw [upd_ne (ne_of_none e h)]; exact e, fun a xs e => by rw [upd_ne (ne_of_none e h)]; exact e, fun a xs e => by rw [upd_ne (ne_of_none e h)]; exact e⟩
theorem Keep.write {H : Hp} {p : Addr} {o u : HO} (h : H p = some u) (hu : (∃ xs, u = .lst xs) ∨ ∃ xs, u = .dK xs) : Keep H (upd H p o) :=
  ⟨fun a xs e => by rw [upd_ne (ne_of e h (fun z => by rcases hu with ⟨y, hu⟩ | ⟨y, hu⟩ <;> (rw [hu] at z; cases z)))]; exact e, fun a ob u e => by rw [upd_ne (ne_of e h (fun z => by rcases hu with ⟨y, hu⟩ | ⟨y, hu⟩ <;> (rw [hu] at z; cases z)))]; exact e,
   fun a xs e => by rw [upd_ne (ne_of e h (fun z => by rcases hu with ⟨y, hu⟩ | ⟨y, hu⟩ <;> (rw [hu] at z; cases z)))]; exact e, fun a xs e => by rw [upd_ne (ne_of e h (fun z => by rcases hu with ⟨y, hu⟩ | ⟨y, hu⟩ <;> (rw [hu] at z; cases z)))]; exact e⟩
theorem sqt_keep {K : PySem.W.Frag} {H H' : Hp} {a : Addr} {xs : List V} (k : Keep H H') (h : SqT K H a xs) : SqT K H' a xs := by
  rcases h with (h | ⟨o, h⟩) | h
  · exact .inl (.inl (k.tup _ _ h))
  · exact .inl (.inr ⟨o, k.frz _ _ _ h⟩)
  · exact .inr h
theorem rol_keep {K : PySem.W.Frag} {H H' : Hp} {a : Addr} {xs : List V} (k : Keep H H') (h : RoL K H a xs) : RoL K H' a xs := by
  rcases h with ⟨o, h⟩ | h
  · exact .inl ⟨o, k.frz _ _ _ h⟩
  · exact .inr h
theorem rol_sq {K : PySem.W.Frag} {H : Hp} {a : Addr} {xs : List V} (h : RoL K H a xs) : SqL K H a xs := by
  rcases h with ⟨o, h⟩ | h
  · exact .inl (.inr ⟨o, h⟩)
  · exact .inr h

section
variable {K : PySem.W.Frag} {H H' : Hp} {al t : List Addr}
theorem getE {al t : List Addr} {n : Nat} {a : Addr} (h : al[n]? = some a) : (al ++ t)[n]? = some a := by
  rw [List.getElem?_append_left (by
    have := (List.getElem?_eq_some_iff.mp h).1
    exact this)]
  exact h
mutual
theorem RD.mono (k : Keep H H') : ∀ (d : D) (v : V), RD K H al d v → RD K H' (al ++ t) d v
  | .non, _, h => h
  | .bl _, _, h => h
  | .int _, _, h => h
  | .str _, _, h => h
  | .tup ds, _, ⟨a, vs, e, hs, hr⟩ => ⟨a, vs, e, sqt_keep k hs, RDs.mono k ds vs hr⟩
  | .ref n, _, ⟨a, e, h⟩ => ⟨a, e, getE h⟩
theorem RDs.mono (k : Keep H H') : ∀ (ds : List D) (vs : List V), RDs K H al ds vs → RDs K H' (al ++ t) ds vs
  | [], _, h => h
  | d :: ds, _, ⟨v, r, e, h1, h2⟩ => ⟨v, r, e, RD.mono k d v h1, RDs.mono k ds r h2⟩
end
theorem RKs.mono (k : Keep H H') : ∀ (ds : List (Key × D)) (vs : List (Key × V)), RKs K H al ds vs → RKs K H' (al ++ t) ds vs
  | [], _, h => h
  | d :: ds, _, ⟨v, r, e, h1, h2⟩ => ⟨v, r, e, RD.mono k d.2 v h1, RKs.mono k ds r h2⟩
theorem RSl.mono {sg : Sl} {sv : L2.St} (h : RSl K H al sg sv) (k : Keep H H') : RSl K H' (al ++ t) sg sv := ⟨h.len, fun i d e => by
  obtain ⟨v, e1, r⟩ := h.at_ i d e
  exact ⟨v, e1, RD.mono k _ _ r⟩⟩
theorem RDs.length : ∀ {ds : List D} {vs : List V}, RDs K H al ds vs → vs.length = ds.length
  | [], _, h => by cases (show _ = [] from h); rfl
  | d :: ds, _, ⟨v, r, e, _, h2⟩ => by rw [e, List.length_cons, List.length_cons, RDs.length h2]
theorem RDs.get : ∀ {ds : List D} {vs : List V} {i : Nat} {d : D}, RDs K H al ds vs → ds[i]? = some d → ∃ v, vs[i]? = some v ∧ RD K H al d v
  | [], _, _, _, _, e => by simp at e
  | x :: ds, _, 0, d, ⟨v, r, e, h1, h2⟩, q => by
    have q' : x = d := by simpa using q
    subst q'
    exact ⟨v, by rw [e]; rfl, h1⟩
  | x :: ds, _, i + 1, d, ⟨v, r, e, h1, h2⟩, q => by
    obtain ⟨u, e1, r1⟩ := RDs.get (i := i) (d := d) h2 (by simpa using q)
    exact ⟨u, by rw [e]; simpa using e1, r1⟩
theorem RDs.append : ∀ {ds es : List D} {vs us : List V}, RDs K H al ds vs → RDs K H al es us → RDs K H al (ds ++ es) (vs ++ us)
  | [], _, _, _, h, h' => by cases (show _ = [] from h); exact h'
  | d :: ds, _, _, _, ⟨v, r, e, h1, h2⟩, h' => ⟨v, _, by rw [e]; rfl, h1, RDs.append h2 h'⟩
theorem RDs.one {d : D} {v : V} (h : RD K H al d v) : RDs K H al [d] [v] := ⟨v, [], rfl, h, rfl⟩
theorem RDs.take : ∀ (n : Nat) {ds : List D} {vs : List V}, RDs K H al ds vs → RDs K H al (ds.take n) (vs.take n)
  | 0, _, _, _ => by simp [RDs]
  | n + 1, [], _, h => by cases (show _ = [] from h); rfl
  | n + 1, d :: ds, _, ⟨v, r, e, h1, h2⟩ => ⟨v, r.take n, by rw [e]; rfl, h1, RDs.take n h2⟩
theorem RDs.drop : ∀ (n : Nat) {ds : List D} {vs : List V}, RDs K H al ds vs → RDs K H al (ds.drop n) (vs.drop n)
  | 0, _, _, h => h
  | n + 1, [], _, h => by cases (show _ = [] from h); rfl
  | n + 1, d :: ds, _, ⟨v, r, e, h1, h2⟩ => by rw [e]; exact RDs.drop n h2
theorem RDs.set : ∀ (n : Nat) {ds : List D} {vs : List V} {d : D} {v : V}, RDs K H al ds vs → RD K H al d v → RDs K H al (ds.set n d) (vs.set n v)
  | _, [], _, _, _, h, _ => by cases (show _ = [] from h); exact rfl
  | 0, x :: ds, _, d, v, ⟨u, r, e, h1, h2⟩, q => ⟨v, r, by rw [e]; rfl, q, h2⟩
  | n + 1, x :: ds, _, d, v, ⟨u, r, e, h1, h2⟩, q => ⟨u, r.set n v, by rw [e]; rfl, h1, RDs.set n h2 q⟩
theorem RDs.reverse : ∀ {ds : List D} {vs : List V}, RDs K H al ds vs → RDs K H al ds.reverse vs.reverse
  | [], _, h => by cases (show _ = [] from h); exact rfl
  | d :: ds, _, ⟨v, r, e, h1, h2⟩ => by
    rw [e, List.reverse_cons, List.reverse_cons]
    exact RDs.append (RDs.reverse h2) (RDs.one h1)
/-- the future of a heap, an assignment of addresses -/
structure Fut (K : PySem.W.Frag) (H : Hp) (al : List Addr) (H' : Hp) (al' : List Addr) (S' : Sto) : Prop where
  ext : ∃ t, al' = al ++ t
  keep : Keep H H'
  rs : RS K H' al' S'
theorem Fut.trans {H1 H2 : Hp} {al al1 al2 : List Addr} {S1 S2 : Sto} (a : Fut K H al H1 al1 S1) (b : Fut K H1 al1 H2 al2 S2) : Fut K H al H2 al2 S2 := by
  obtain ⟨t, e⟩ := a.ext
  obtain ⟨u, e'⟩ := b.ext
  exact ⟨⟨t ++ u, by rw [e', e, List.append_assoc]⟩, a.keep.trans b.keep, b.rs⟩
theorem Fut.now {S : Sto} (r : RS K H al S) : Fut K H al H al S := ⟨⟨[], by simp⟩, .refl H, r⟩
theorem Fut.rd {al' : List Addr} {S' : Sto} (f : Fut K H al H' al' S') {d : D} {v : V} (h : RD K H al d v) : RD K H' al' d v := by
  obtain ⟨t, e⟩ := f.ext
  subst e
  exact RD.mono f.keep _ _ h
theorem Fut.rds {al' : List Addr} {S' : Sto} (f : Fut K H al H' al' S') {d : List D} {v : List V} (h : RDs K H al d v) : RDs K H' al' d v := by
  obtain ⟨t, e⟩ := f.ext
  subst e
  exact RDs.mono f.keep _ _ h
theorem Fut.rsl {al' : List Addr} {S' : Sto} (f : Fut K H al H' al' S') {d : Sl} {v : L2.St} (h : RSl K H al d v) : RSl K H' al' d v := by
  obtain ⟨t, e⟩ := f.ext
  subst e
  exact h.mono f.keep

/-! ### the store written -/
theorem RO.mono {o : O} {a : Addr} (k : Keep H H') (h : RO K H al o a) (hl : ∀ vs, H a = some (.lst vs) → H' a = some (.lst vs)) (hd : ∀ vs, H a = some (.dK vs) → H' a = some (.dK vs)) : RO K H' (al ++ t) o a := by
  cases o with
  | lst ds => obtain ⟨vs, e, r⟩ := h; exact ⟨vs, hl vs e, RDs.mono k _ _ r⟩
  | ro ds => obtain ⟨vs, e, r⟩ := h; exact ⟨vs, rol_keep k e, RDs.mono k _ _ r⟩
  | dic ds => obtain ⟨vs, e, r⟩ := h; exact ⟨vs, hd vs e, RKs.mono k _ _ r⟩
  | exo x d => obtain ⟨b, dx, v, e, e2, r⟩ := h; exact ⟨b, dx, v, k.ext _ _ e, k.xd _ _ e2, RD.mono k _ _ r⟩
  | oth => trivial
/-- something is laid that the store does not have -/
theorem Fut.lay {S : Sto} {p : Addr} {o : HO} (r : RS K H al S) (h : H p = none) : Fut K H al (upd H p o) al S := by
  refine ⟨⟨[], by simp⟩, Keep.laid h, r.len, r.nd, fun n ob a e1 e2 => ?_⟩
  have q := RO.mono (t := []) (Keep.laid (o := o) h) (r.ob n ob a e1 e2) (fun vs e => by rw [upd_ne (ne_of_none e h)]; exact e) (fun vs e => by rw [upd_ne (ne_of_none e h)]; exact e)
  rwa [List.append_nil] at q
theorem RO.there {o : O} {a : Addr} (h : RO K H al o a) (m : o.mu = true) : H a ≠ none := by
  intro z
  cases o with
  | lst ds => obtain ⟨vs, e, _⟩ := h; rw [z] at e; cases e
  | ro ds => cases m
  | dic ds => obtain ⟨vs, e, _⟩ := h; rw [z] at e; cases e
  | exo x d => cases m
  | oth => cases m
theorem getPush {S : Sto} {o : O} : (S ++ [o])[S.length]? = some o := by simp
theorem get_push_cases {α : Type} {l : List α} {x y : α} {n : Nat} (h : (l ++ [x])[n]? = some y) : l[n]? = some y ∨ (n = l.length ∧ y = x) := by
  by_cases hn : n < l.length
  · rw [List.getElem?_append_left hn] at h
    exact .inl h
  · by_cases e : n = l.length
    · subst e
      simp at h
      exact .inr ⟨rfl, h.symm⟩
    · rw [List.getElem?_append_right (by omega)] at h
      have : n - l.length ≠ 0 := by omega
      obtain ⟨k, hk⟩ : ∃ k, n - l.length = k + 1 := ⟨n - l.length - 1, by omega⟩
      rw [hk] at h
      simp at h
/-- a new object of the store -/
theorem Fut.push {S : Sto} {p : Addr} {ho : HO} {o : O} (r : RS K H al S) (h : H p = none) (q : RO K (upd H p ho) (al ++ [p]) o p) : Fut K H al (upd H p ho) (al ++ [p]) (S ++ [o]) := by
  refine ⟨⟨[p], rfl⟩, Keep.laid h, by simp [r.len], fun n m o1 o2 a e1 e2 m1 m2 a1 a2 => ?_, fun n ob a e1 e2 => ?_⟩
  · have key : ∀ (k : Nat) (ob : O), S[k]? = some ob → ob.mu = true → al[k]? ≠ some p := fun k ob e mu z => (r.ob k ob p e z).there mu h
    rcases get_push_cases e1 with f1 | ⟨rfl, rfl⟩
    · have n1 : n < S.length := (List.getElem?_eq_some_iff.mp f1).1
      rw [List.getElem?_append_left (by rw [r.len]; exact n1)] at a1
      rcases get_push_cases e2 with f2 | ⟨rfl, rfl⟩
      · have n2 : m < S.length := (List.getElem?_eq_some_iff.mp f2).1
        rw [List.getElem?_append_left (by rw [r.len]; exact n2)] at a2
        exact r.nd n m o1 o2 a f1 f2 m1 m2 a1 a2
      · rw [← r.len] at a2
        have : p = a := by simpa using a2
        subst this
        exact absurd a1 (key n o1 f1 m1)
    · rw [← r.len] at a1
      have : p = a := by simpa using a1
      subst this
      rcases get_push_cases e2 with f2 | ⟨rfl, rfl⟩
      · have n2 : m < S.length := (List.getElem?_eq_some_iff.mp f2).1
        rw [List.getElem?_append_left (by rw [r.len]; exact n2)] at a2
        exact absurd a2 (key m o2 f2 m2)
      · rfl
  · rcases get_push_cases e1 with e1 | ⟨rfl, rfl⟩
    · have n1 : n < S.length := (List.getElem?_eq_some_iff.mp e1).1
      rw [List.getElem?_append_left (by rw [r.len]; exact n1)] at e2
      exact RO.mono (Keep.laid h) (r.ob n ob a e1 e2) (fun vs e => by rw [upd_ne (ne_of_none e h)]; exact e) (fun vs e => by rw [upd_ne (ne_of_none e h)]; exact e)
    · rw [← r.len] at e2
      have : p = a := by simpa using e2
      subst this
      exact q
/-- an object of the store is written -/
theorem Fut.set {S : Sto} {n : Nat} {p : Addr} {ho : HO} {o u : O} (r : RS K H al S) (hu : S[n]? = some u) (mu : u.mu = true) (hp : al[n]? = some p) (q : RO K (upd H p ho) al o p) (mo : o.mu = true) : Fut K H al (upd H p ho) al (S.set n o) := by
  have hr := r.ob n u p hu hp
  have kp : Keep H (upd H p ho) := by
    cases u with
    | lst ds => obtain ⟨vs, e, _⟩ := hr; exact Keep.write e (.inl ⟨_, rfl⟩)
    | dic ds => obtain ⟨vs, e, _⟩ := hr; exact Keep.write e (.inr ⟨_, rfl⟩)
    | ro ds => cases mu
    | exo x d => cases mu
    | oth => cases mu
  have hn : n < S.length := (List.getElem?_eq_some_iff.mp hu).1
  have key : ∀ k ob, (S.set n o)[k]? = some ob → (k = n ∧ ob = o) ∨ (k ≠ n ∧ S[k]? = some ob) := fun k ob e => by
    by_cases hk : k = n
    · subst hk
      rw [List.getElem?_set_self hn] at e
      exact .inl ⟨rfl, (Option.some.inj e).symm⟩
    · rw [List.getElem?_set_ne (Ne.symm hk)] at e
      exact .inr ⟨hk, e⟩
  refine ⟨⟨[], by simp⟩, kp, by simp [r.len], fun k m o1 o2 a e1 e2 m1 m2 a1 a2 => ?_, fun k ob a e1 e2 => ?_⟩
  · rcases key k o1 e1 with ⟨rfl, rfl⟩ | ⟨k1, f1⟩
    · rcases key m o2 e2 with ⟨rfl, rfl⟩ | ⟨k2, f2⟩
      · rfl
      · exact r.nd k m u o2 a hu f2 mu m2 a1 a2
    · rcases key m o2 e2 with ⟨rfl, rfl⟩ | ⟨k2, f2⟩
      · exact r.nd k m o1 u a f1 hu m1 mu a1 a2
      · exact r.nd k m o1 o2 a f1 f2 m1 m2 a1 a2
  · rcases key k ob e1 with ⟨rfl, rfl⟩ | ⟨k1, e1⟩
    · rw [hp] at e2
      cases e2
      exact q
    · have ra := r.ob k ob a e1 e2
      by_cases hm : ob.mu = true
      · have ne : a ≠ p := fun z => by
          subst z
          exact k1 (r.nd k n ob u a e1 hu hm mu e2 hp)
        have q2 := RO.mono (t := []) kp ra (fun vs e => by rw [upd_ne ne]; exact e) (fun vs e => by rw [upd_ne ne]; exact e)
        rwa [List.append_nil] at q2
      · cases ob with
        | lst ds => exact absurd rfl hm
        | dic ds => exact absurd rfl hm
        | ro ds =>
          obtain ⟨vs, e, rr⟩ := ra
          refine ⟨vs, rol_keep kp e, ?_⟩
          have := RDs.mono (t := []) kp _ _ rr
          rwa [List.append_nil] at this
        | exo x d =>
          obtain ⟨b, dx, v, e, e3, rr⟩ := ra
          have := RD.mono (t := []) kp _ _ rr
          rw [List.append_nil] at this
          exact ⟨b, dx, v, kp.ext _ _ e, kp.xd _ _ e3, this⟩
        | oth => trivial
end
end Q
namespace Q
open PySem
open Spec PyProof.Rows L2

/-! ### judgements over data -/
structure Cy where
  K : PySem.W.Frag
  mg : Str → Option Value
  E : XK
abbrev cy (X : Cx) (E : XK) : Cy := ⟨X.K, X.mg, E⟩
/-- an exception: its class by name, its one value -/
def ExAt (Y : Cy) (H : Hp) (al : List Addr) (ex : ExD) (cls : Value) (d : Option Addr) : Prop :=
  exB Y.K ex.1 = true ∧ ∃ (dx : Addr) (v : V), cls = .ref (He.ga Y.K ex.1) ∧ d = some dx ∧ H dx = some (.xd [("value", v)]) ∧ RD Y.K H al ex.2 v
def Up (K : PySem.W.Frag) (H : Hp) (al : List Addr) (kd : KD) (Q : VK) : Prop := ∀ d S' al' H' v, Fut K H al H' al' S' → RD K H' al' d v → kd d S' → Q v H'
def UpB (K : PySem.W.Frag) (H : Hp) (al : List Addr) (kd : Bool → Sto → Prop) (Q : Bool → Hp → Prop) : Prop := ∀ b S' al' H', Fut K H al H' al' S' → kd b S' → Q b H'
def UpA (K : PySem.W.Frag) (H : Hp) (al : List Addr) (kd : List D → Sto → Prop) (Q : List V → Hp → Prop) : Prop := ∀ ds S' al' H' vs, Fut K H al H' al' S' → RDs K H' al' ds vs → kd ds S' → Q vs H'
def UpX (Y : Cy) (H : Hp) (al : List Addr) (xd : XD) : Prop := ∀ ex S' al' H' cls d, Fut Y.K H al H' al' S' → ExAt Y H' al' ex cls d → xd ex S' → Y.E cls d H'
def UpS (K : PySem.W.Frag) (H : Hp) (al : List Addr) (nd : Sl → Sto → Prop) (n : L2.St → Hp → Prop) : Prop := ∀ sg S' al' H' sv, Fut K H al H' al' S' → RSl K H' al' sg sv → nd sg S' → n sv H'
structure UpE (Y : Cy) (H : Hp) (al : List Addr) (Dd : EndsD) (De : Ends) : Prop where
  nx : UpS Y.K H al Dd.nx De.nx
  rt : Up Y.K H al Dd.rt De.rt
  bk : UpS Y.K H al Dd.bk De.bk
  ct : UpS Y.K H al Dd.ct De.ct
  ex : UpX Y H al Dd.ex
section
variable {K : PySem.W.Frag} {Y : Cy} {H H1 : Hp} {al al1 : List Addr} {S1 : Sto}
theorem Up.mono {kd : KD} {Q : VK} (u : Up K H al kd Q) (f : Fut K H al H1 al1 S1) : Up K H1 al1 kd Q := fun d S' al' H' v g r h => u d S' al' H' v (f.trans g) r h
theorem UpB.mono {kd : Bool → Sto → Prop} {Q : Bool → Hp → Prop} (u : UpB K H al kd Q) (f : Fut K H al H1 al1 S1) : UpB K H1 al1 kd Q := fun d S' al' H' g h => u d S' al' H' (f.trans g) h
theorem UpA.mono {kd : List D → Sto → Prop} {Q : List V → Hp → Prop} (u : UpA K H al kd Q) (f : Fut K H al H1 al1 S1) : UpA K H1 al1 kd Q := fun d S' al' H' v g r h => u d S' al' H' v (f.trans g) r h
theorem UpX.mono {xd : XD} (u : UpX Y H al xd) (f : Fut Y.K H al H1 al1 S1) : UpX Y H1 al1 xd := fun ex S' al' H' cls d g r h => u ex S' al' H' cls d (f.trans g) r h
theorem UpS.mono {nd : Sl → Sto → Prop} {n : L2.St → Hp → Prop} (u : UpS K H al nd n) (f : Fut K H al H1 al1 S1) : UpS K H1 al1 nd n := fun sg S' al' H' sv g r h => u sg S' al' H' sv (f.trans g) r h
theorem UpE.mono {Dd : EndsD} {De : Ends} (u : UpE Y H al Dd De) (f : Fut Y.K H al H1 al1 S1) : UpE Y H1 al1 Dd De := ⟨u.nx.mono f, u.rt.mono f, u.bk.mono f, u.ct.mono f, u.ex.mono f⟩
end
def LE (Y : Cy) (t : TED) : TE := fun sv H Q => ∃ sg al S kd xd, RS Y.K H al S ∧ RSl Y.K H al sg sv ∧ t sg S kd xd ∧ Up Y.K H al kd Q ∧ UpX Y H al xd
def LT (Y : Cy) (t : TTD) : TT := fun sv H Q => ∃ sg al S kd xd, RS Y.K H al S ∧ RSl Y.K H al sg sv ∧ t sg S kd xd ∧ UpB Y.K H al kd Q ∧ UpX Y H al xd
def LA (Y : Cy) (t : TAD) : TA := fun sv H Q => ∃ sg al S kd xd, RS Y.K H al S ∧ RSl Y.K H al sg sv ∧ t sg S kd xd ∧ UpA Y.K H al kd Q ∧ UpX Y H al xd
def LS (Y : Cy) (t : TSD) : TS := fun De sv H => ∃ sg al S Dd, RS Y.K H al S ∧ RSl Y.K H al sg sv ∧ t Dd sg S ∧ UpE Y H al Dd De
/-- by values -/
def L1 (Y : Cy) (r : D → Sto → KD → XD → Prop) : V → Hp → VK → Prop := fun x H Q => ∃ d al S kd xd, RS Y.K H al S ∧ RD Y.K H al d x ∧ r d S kd xd ∧ Up Y.K H al kd Q ∧ UpX Y H al xd
def LL2 (Y : Cy) (r : D → D → Sto → KD → XD → Prop) : R2 := fun x y H Q => ∃ d e al S kd xd, RS Y.K H al S ∧ RD Y.K H al d x ∧ RD Y.K H al e y ∧ r d e S kd xd ∧ Up Y.K H al kd Q ∧ UpX Y H al xd
def LLs (Y : Cy) (r : SpD) : List V → Hp → VK → Prop := fun vs H Q => ∃ ds al S kd xd, RS Y.K H al S ∧ RDs Y.K H al ds vs ∧ r ds S kd xd ∧ Up Y.K H al kd Q ∧ UpX Y H al xd

theorem pe_imp {X : Cx} {e : Expr} {t t' : TE} (h : PE X e t) (f : ∀ s H Q, t' s H Q → t s H Q) : PE X e t' := ⟨fun pins s σ H Q I q => h.run pins s σ H Q I (f σ H Q q)⟩
theorem pt_imp {X : Cx} {e : Expr} {t t' : TT} (h : PT X e t) (f : ∀ s H Q, t' s H Q → t s H Q) : PT X e t' := ⟨fun pins s σ H Q I q => h.run pins s σ H Q I (f σ H Q q)⟩
theorem pw_imp {X : Cx} {e : Expr} {t t' : TT} (h : PW X e t) (f : ∀ s H Q, t' s H Q → t s H Q) : PW X e t' := ⟨fun wh pins s σ H Q I q => h.run wh pins s σ H Q I (f σ H Q q)⟩
theorem pa_imp {X : Cx} {e : List Expr} {t t' : TA} (h : PA X e t) (f : ∀ s H Q, t' s H Q → t s H Q) : PA X e t' := ⟨fun pos pins s σ H Q I q => h.run pos pins s σ H Q I (f σ H Q q)⟩
theorem ps_imp {X : Cx} {e : Stmt} {t t' : TS} (h : PS X e t) (f : ∀ De s H, t' De s H → t De s H) : PS X e t' := ⟨fun pins s σ H De I q => h.run pins s σ H De I (f De σ H q)⟩
theorem pss_imp {X : Cx} {e : List Stmt} {t t' : TS} (h : PSs X e t) (f : ∀ De s H, t' De s H → t De s H) : PSs X e t' := ⟨fun pins s σ H De I q => h.run pins s σ H De I (f De σ H q)⟩

abbrev QE (X : Cx) (E : XK) (e : Expr) (t : TED) : Prop := PE X e (LE (cy X E) t)
abbrev QT (X : Cx) (E : XK) (e : Expr) (t : TTD) : Prop := PT X e (LT (cy X E) t)
abbrev QW (X : Cx) (E : XK) (e : Expr) (t : TTD) : Prop := PW X e (LT (cy X E) t)
abbrev QA (X : Cx) (E : XK) (e : List Expr) (t : TAD) : Prop := PA X e (LA (cy X E) t)
abbrev QS (X : Cx) (E : XK) (e : Stmt) (t : TSD) : Prop := PS X e (LS (cy X E) t)
abbrev QSs (X : Cx) (E : XK) (e : List Stmt) (t : TSD) : Prop := PSs X e (LS (cy X E) t)

/-! ### readings -/
def dC (d : D) : TED := fun _ S k _ => k d S
def dVar (i : Nat) : TED := fun sg S k _ => match sg[i]? with
  | some (some d) => k d S
  | _ => False
abbrev R1D := D → Sto → KD → XD → Prop
abbrev R2D := D → D → Sto → KD → XD → Prop
def dUn (r : R1D) (ta : TED) : TED := fun sg S k x => ta sg S (fun d S' => r d S' k x) x
def kOp2 (r : R2D) (k : KD) (x : XD) (d : D) : KD := fun e S => r d e S k x
def kOp1 (r : R2D) (tb : TED) (sg : Sl) (k : KD) (x : XD) : KD := fun d S => tb sg S (kOp2 r k x d) x
def dOp (r : R2D) (ta tb : TED) : TED := fun sg S k x => ta sg S (kOp1 r tb sg k x) x
def kB (k : Bool → Sto → Prop) : KD := fun d S => match d with
  | .bl b => k b S
  | _ => False
def dTst (t : TED) : TTD := fun sg S k x => t sg S (kB k) x
def kAnd (u : TTD) (sg : Sl) (k : Bool → Sto → Prop) (x : XD) : Bool → Sto → Prop := fun b S => (b = true → u sg S k x) ∧ (b = false → k false S)
def dAnd (t u : TTD) : TTD := fun sg S k x => t sg S (kAnd u sg k x) x
def kOr (u : TTD) (sg : Sl) (k : Bool → Sto → Prop) (x : XD) : Bool → Sto → Prop := fun b S => (b = true → k true S) ∧ (b = false → u sg S k x)
def dOr (t u : TTD) : TTD := fun sg S k x => t sg S (kOr u sg k x) x
def kNot (k : Bool → Sto → Prop) : Bool → Sto → Prop := fun b S => k (!b) S
def dNot (t : TTD) : TTD := fun sg S k x => t sg S (kNot k) x
def kAndV (u : TED) (sg : Sl) (k : KD) (x : XD) : Bool → Sto → Prop := fun b S => (b = true → u sg S k x) ∧ (b = false → k (.bl false) S)
def dAndV (t u : TED) : TED := fun sg S k x => t sg S (kB (kAndV u sg k x)) x
def kOrV (u : TED) (sg : Sl) (k : KD) (x : XD) : Bool → Sto → Prop := fun b S => (b = true → k (.bl true) S) ∧ (b = false → u sg S k x)
def dOrV (t u : TED) : TED := fun sg S k x => t sg S (kB (kOrV u sg k x)) x
def kNotV (k : KD) : Bool → Sto → Prop := fun b S => k (.bl (!b)) S
def dNotV (t : TED) : TED := fun sg S k x => t sg S (kB (kNotV k)) x
def kIfE (u v : TED) (sg : Sl) (k : KD) (x : XD) : Bool → Sto → Prop := fun b S => (b = true → u sg S k x) ∧ (b = false → v sg S k x)
def dIfE (t : TTD) (u v : TED) : TED := fun sg S k x => t sg S (kIfE u v sg k x) x
def dNil : TAD := fun _ S k _ => k [] S
def kCons2 (k : List D → Sto → Prop) (d : D) : List D → Sto → Prop := fun ds S => k (d :: ds) S
def kCons1 (u : TAD) (sg : Sl) (k : List D → Sto → Prop) (x : XD) : KD := fun d S => u sg S (kCons2 k d) x
def dCons (t : TED) (u : TAD) : TAD := fun sg S k x => t sg S (kCons1 u sg k x) x
def kTup (k : KD) : List D → Sto → Prop := fun ds S => ds.length ≤ sizeLine ∧ k (.tup ds) S
def dTup (t : TAD) : TED := fun sg S k x => t sg S (kTup k) x
def kLst (k : KD) : List D → Sto → Prop := fun ds S => ds.length ≤ sizeLine ∧ k (.ref S.length) (S ++ [.lst ds])
def dLst (t : TAD) : TED := fun sg S k x => t sg S (kLst k) x
def kCall (r : SpD) (k : KD) (x : XD) : List D → Sto → Prop := fun ds S => r ds S k x
/-- a call of anything by values -/
def dCall (r : SpD) (t : TAD) : TED := fun sg S k x => t sg S (kCall r k x) x

section
variable {X : Cx} {E : XK} {a b : Expr} {ta tb : TED} {pos : Pos}
/-! ### names, constants -/
theorem q_val {e : Expr} {d : D} {v : V} (h : PE X e (tC v)) (r : ∀ H al, RD X.K H al d v) : QE X E e (dC d) := pe_imp h fun s H Q ⟨sg, al, S, kd, xd, rs, rl, q, up, ux⟩ => up d S al H v (.now rs) (r H al) q
theorem q_int {i j} : QE X E (.Constant (.int i) j pos) (dC (.int i)) := q_val pe_int fun _ _ => rfl
theorem q_bl {i j} : QE X E (.Constant (.bool i) j pos) (dC (.bl i)) := q_val pe_bl fun _ _ => rfl
theorem q_str {i j} : QE X E (.Constant (.str i) j pos) (dC (.str i)) := q_val pe_str fun _ _ => rfl
theorem q_non {j} : QE X E (.Constant .none j pos) (dC .non) := q_val pe_non fun _ _ => rfl
theorem q_var {x : Str} (i : Nat) (hN : X.N[i]? = some x := by rfl) (hv : Vis X.env.scope x := by first | exact Or.inl rfl | exact Or.inr (Or.inl rfl) | exact Or.inr (Or.inr rfl)) (hd : (x == ("__debug__" : Str)) = false := by decide)
    (hcd : (x == ("__classdict__" : Str)) = false := by decide) : QE X E (.Name x pos) (dVar i) := by
  refine pe_imp (pe_var hN hv hd hcd) fun s H Q ⟨sg, al, S, kd, xd, rs, rl, q, up, ux⟩ => ?_
  unfold dVar at q
  cases e : sg[i]? with
  | none => rw [e] at q; exact q.elim
  | some o =>
    cases o with
    | none => rw [e] at q; exact q.elim
    | some d =>
      rw [e] at q
      obtain ⟨v, e1, r⟩ := rl.at_ i d e
      exact ⟨v, e1, up d S al H v (.now rs) r q⟩

/-! ### operators -/
theorem q_op {op : Operator} {r : R2D} (ho : OpR X (binaryOp op) (LL2 (cy X E) r)) (ha : QE X E a ta) (hb : QE X E b tb) : QE X E (.BinOp a op b pos) (dOp r ta tb) :=
  pe_imp (pe_op ho ha hb) fun s H Q ⟨sg, al, S, kd, xd, rs, rl, q, up, ux⟩ => ⟨sg, al, S, kOp1 r tb sg kd xd, xd, rs, rl, q,
    fun d1 S1 al1 H1 v1 f1 r1 q1 => ⟨sg, al1, S1, kOp2 r kd xd d1, xd, f1.rs, f1.rsl rl, q1, fun d2 S2 al2 H2 v2 f2 r2 q2 =>
      ⟨d1, d2, al2, S2, kd, xd, f2.rs, f2.rd r1, r2, q2, up.mono (f1.trans f2), ux.mono (f1.trans f2)⟩, ux.mono f1⟩, ux⟩
theorem q_un {op : UnaryOp} {r : R1D} (ho : UnR X (unaryOp op) (L1 (cy X E) r)) (ha : QE X E a ta) : QE X E (.UnaryOp op a pos) (dUn r ta) :=
  pe_imp (pe_un ho ha) fun s H Q ⟨sg, al, S, kd, xd, rs, rl, q, up, ux⟩ => ⟨sg, al, S, fun d S' => r d S' kd xd, xd, rs, rl, q,
    fun d1 S1 al1 H1 v1 f1 r1 q1 => ⟨d1, al1, S1, kd, xd, f1.rs, r1, q1, up.mono f1, ux.mono f1⟩, ux⟩
theorem q_cmp {op : CmpOp} {r : R2D} (ho : OpR X (compareOp op) (LL2 (cy X E) r)) (ha : QE X E a ta) (hb : QE X E b tb) (hm : behindInMarks op b = false := by rfl) : QE X E (.Compare a [op] [b] pos) (dOp r ta tb) :=
  pe_imp (pe_cmpR ho ha hb hm) fun s H Q ⟨sg, al, S, kd, xd, rs, rl, q, up, ux⟩ => ⟨sg, al, S, kOp1 r tb sg kd xd, xd, rs, rl, q,
    fun d1 S1 al1 H1 v1 f1 r1 q1 => ⟨sg, al1, S1, kOp2 r kd xd d1, xd, f1.rs, f1.rsl rl, q1, fun d2 S2 al2 H2 v2 f2 r2 q2 =>
      ⟨d1, d2, al2, S2, kd, xd, f2.rs, f2.rd r1, r2, q2, up.mono (f1.trans f2), ux.mono (f1.trans f2)⟩, ux.mono f1⟩, ux⟩
theorem upB {H : Hp} {al : List Addr} {kd : Bool → Sto → Prop} {Q : Bool → Hp → Prop} {K : PySem.W.Frag} (u : UpB K H al kd Q) : Up K H al (kB kd) (fun x H' => ∃ c, x = .bl c ∧ Q c H') := fun d S' al' H' v f r h => by
  cases d with
  | bl c => exact ⟨c, r, u c S' al' H' f h⟩
  | _ => exact h.elim
theorem q_tcmp {op : CmpOp} {r : R2D} (ho : OpR X (compareOp op) (LL2 (cy X E) r)) (ha : QE X E a ta) (hb : QE X E b tb) (hm : behindInMarks op b = false := by rfl) : QT X E (.Compare a [op] [b] pos) (dTst (dOp r ta tb)) :=
  pt_imp (pt_cmpR ho ha hb hm) fun s H Q ⟨sg, al, S, kd, xd, rs, rl, q, up, ux⟩ => ⟨sg, al, S, kOp1 r tb sg (kB kd) xd, xd, rs, rl, q,
    fun d1 S1 al1 H1 v1 f1 r1 q1 => ⟨sg, al1, S1, kOp2 r (kB kd) xd d1, xd, f1.rs, f1.rsl rl, q1, fun d2 S2 al2 H2 v2 f2 r2 q2 =>
      ⟨d1, d2, al2, S2, kB kd, xd, f2.rs, f2.rd r1, r2, q2, (upB up).mono (f1.trans f2), ux.mono (f1.trans f2)⟩, ux.mono f1⟩, ux⟩
theorem le_tst {Y : Cy} {t : TED} {s : L2.St} {H : Hp} {Q : Bool → Hp → Prop} (h : LT Y (dTst t) s H Q) : LE Y t s H (fun x H' => ∃ c, x = .bl c ∧ Q c H') := by
  obtain ⟨sg, al, S, kd, xd, rs, rl, q, up, ux⟩ := h
  exact ⟨sg, al, S, kB kd, xd, rs, rl, q, upB up, ux⟩
/-- an expression whose value is a bool, as a test -/
theorem q_tval {e : Expr} {t : TED} (h : QE X E e t) (he : ∀ whole, isTrue e X.env whole = (do let v ← whole; standAt e.pos; holding [v] (truthy v)) := by intro _; rfl) : QT X E e (dTst t) :=
  pt_imp (pt_val h he) fun s H Q q => le_tst q
variable {t u : TTD} {rest : List Expr}
theorem q_and1 (ha : QT X E a t) : QW X E (.BoolOp .And [a] pos) t := pw_and1 ha
theorem q_or1 (ha : QT X E a t) : QW X E (.BoolOp .Or [a] pos) t := pw_or1 ha
theorem ite_of {c : Bool} {A B : Prop} (h : (c = true → A) ∧ (c = false → B)) : if c = true then A else B := by
  cases c with
  | true => exact h.1 rfl
  | false => exact h.2 rfl
theorem q_and (ha : QT X E a t) (hb : QW X E (.BoolOp .And (b :: rest) pos) u) : QW X E (.BoolOp .And (a :: b :: rest) pos) (dAnd t u) :=
  pw_imp (pw_and ha hb) fun s H Q ⟨sg, al, S, kd, xd, rs, rl, q, up, ux⟩ => ⟨sg, al, S, kAnd u sg kd xd, xd, rs, rl, q, fun c S1 al1 H1 f1 q1 =>
    ite_of ⟨fun e => ⟨sg, al1, S1, kd, xd, f1.rs, f1.rsl rl, q1.1 e, up.mono f1, ux.mono f1⟩, fun e => up false S1 al1 H1 f1 (q1.2 e)⟩, ux⟩
theorem q_or (ha : QT X E a t) (hb : QW X E (.BoolOp .Or (b :: rest) pos) u) : QW X E (.BoolOp .Or (a :: b :: rest) pos) (dOr t u) :=
  pw_imp (pw_or ha hb) fun s H Q ⟨sg, al, S, kd, xd, rs, rl, q, up, ux⟩ => ⟨sg, al, S, kOr u sg kd xd, xd, rs, rl, q, fun c S1 al1 H1 f1 q1 =>
    ite_of ⟨fun e => up true S1 al1 H1 f1 (q1.1 e), fun e => ⟨sg, al1, S1, kd, xd, f1.rs, f1.rsl rl, q1.2 e, up.mono f1, ux.mono f1⟩⟩, ux⟩
theorem q_w {e : Expr} (h : QW X E e t) : QT X E e t := h.pt
theorem q_not (ha : QT X E a t) : QT X E (.UnaryOp .Not a pos) (dNot t) :=
  pt_imp (pt_not ha) fun s H Q ⟨sg, al, S, kd, xd, rs, rl, q, up, ux⟩ => ⟨sg, al, S, kNot kd, xd, rs, rl, q, fun c S1 al1 H1 f1 q1 => up (!c) S1 al1 H1 f1 q1, ux⟩
theorem q_one {op} (ha : QE X E a ta) : QE X E (.BoolOp op [a] pos) ta := pe_one ha
theorem q_andV (ha : QE X E a ta) (hb : QE X E (.BoolOp .And (b :: rest) pos) tb) : QE X E (.BoolOp .And (a :: b :: rest) pos) (dAndV ta tb) :=
  pe_imp (pe_and ha hb) fun s H Q ⟨sg, al, S, kd, xd, rs, rl, q, up, ux⟩ => ⟨sg, al, S, kB (kAndV tb sg kd xd), xd, rs, rl, q, fun d S1 al1 H1 v f1 r1 q1 => by
    cases d with
    | bl c => exact ⟨c, r1, ite_of ⟨fun e => ⟨sg, al1, S1, kd, xd, f1.rs, f1.rsl rl, q1.1 e, up.mono f1, ux.mono f1⟩, fun e => up (.bl false) S1 al1 H1 _ f1 rfl (q1.2 e)⟩⟩
    | _ => exact q1.elim, ux⟩
theorem q_orV (ha : QE X E a ta) (hb : QE X E (.BoolOp .Or (b :: rest) pos) tb) : QE X E (.BoolOp .Or (a :: b :: rest) pos) (dOrV ta tb) :=
  pe_imp (pe_or ha hb) fun s H Q ⟨sg, al, S, kd, xd, rs, rl, q, up, ux⟩ => ⟨sg, al, S, kB (kOrV tb sg kd xd), xd, rs, rl, q, fun d S1 al1 H1 v f1 r1 q1 => by
    cases d with
    | bl c => exact ⟨c, r1, ite_of ⟨fun e => up (.bl true) S1 al1 H1 _ f1 rfl (q1.1 e), fun e => ⟨sg, al1, S1, kd, xd, f1.rs, f1.rsl rl, q1.2 e, up.mono f1, ux.mono f1⟩⟩⟩
    | _ => exact q1.elim, ux⟩
theorem q_notV (ha : QE X E a ta) : QE X E (.UnaryOp .Not a pos) (dNotV ta) :=
  pe_imp (pe_not ha) fun s H Q ⟨sg, al, S, kd, xd, rs, rl, q, up, ux⟩ => ⟨sg, al, S, kB (kNotV kd), xd, rs, rl, q, fun d S1 al1 H1 v f1 r1 q1 => by
    cases d with
    | bl c => exact ⟨c, r1, up (.bl (!c)) S1 al1 H1 _ f1 rfl q1⟩
    | _ => exact q1.elim, ux⟩
theorem q_ifE {c : Expr} (hc : QT X E c t) (ha : QE X E a ta) (hb : QE X E b tb) : QE X E (.IfExp c a b pos) (dIfE t ta tb) :=
  pe_imp (pe_ifExp hc ha hb) fun s H Q ⟨sg, al, S, kd, xd, rs, rl, q, up, ux⟩ => ⟨sg, al, S, kIfE ta tb sg kd xd, xd, rs, rl, q, fun d S1 al1 H1 f1 q1 =>
    ite_of ⟨fun e => ⟨sg, al1, S1, kd, xd, f1.rs, f1.rsl rl, q1.1 e, up.mono f1, ux.mono f1⟩, fun e => ⟨sg, al1, S1, kd, xd, f1.rs, f1.rsl rl, q1.2 e, up.mono f1, ux.mono f1⟩⟩, ux⟩

/-! ### arguments, displays -/
variable {e : Expr} {es : List Expr} {te : TED} {tr : TAD}
theorem q_nil : QA X E [] dNil := pa_imp pa_nil fun s H Q ⟨sg, al, S, kd, xd, rs, rl, q, up, ux⟩ => up [] S al H [] (.now rs) rfl q
theorem q_cons (ha : QE X E e te) (hr : QA X E es tr) (hs : starEach (e :: es) X.env = (false, eval e X.env) :: starEach es X.env := by rfl) : QA X E (e :: es) (dCons te tr) :=
  pa_imp (pa_cons ha hr hs) fun s H Q ⟨sg, al, S, kd, xd, rs, rl, q, up, ux⟩ => ⟨sg, al, S, kCons1 tr sg kd xd, xd, rs, rl, q, fun d S1 al1 H1 v f1 r1 q1 =>
    ⟨sg, al1, S1, kCons2 kd d, xd, f1.rs, f1.rsl rl, q1, fun ds S2 al2 H2 vs f2 r2 q2 => up (d :: ds) S2 al2 H2 (v :: vs) (f1.trans f2) ⟨v, vs, rfl, f2.rd r1, r2⟩ q2, ux.mono f1⟩, ux⟩
theorem q_tup {x1} (h : QA X E es tr) : QE X E (.Tuple es x1 pos) (dTup tr) :=
  pe_imp (pe_tup h) fun s H Q ⟨sg, al, S, kd, xd, rs, rl, q, up, ux⟩ => ⟨sg, al, S, kTup kd, xd, rs, rl, q, fun ds S1 al1 H1 vs f1 r1 q1 => ⟨by rw [RDs.length r1]; exact q1.1, fun p hp => by
    have f2 : Fut X.K H1 al1 (upd H1 p (.tup vs)) al1 S1 := Fut.lay f1.rs hp
    exact up (.tup ds) S1 al1 _ (.ref p) (f1.trans f2) ⟨p, vs, rfl, .inl (.inl upd_same), f2.rds r1⟩ q1.2⟩, ux⟩
theorem ref_new {H : Hp} {al : List Addr} {S : Sto} {p : Addr} {K : PySem.W.Frag} (r : RS K H al S) (H' : Hp) : RD K H' (al ++ [p]) (.ref S.length) (.ref p) := ⟨p, rfl, by rw [← r.len]; simp⟩
theorem new_lst {K : PySem.W.Frag} {H : Hp} {al : List Addr} {S : Sto} {p : Addr} {ds : List D} {vs : List V} (r : RS K H al S) (hp : H p = none) (rd : RDs K H al ds vs) : Fut K H al (upd H p (.lst vs)) (al ++ [p]) (S ++ [.lst ds]) :=
  Fut.push r hp ⟨vs, upd_same, RDs.mono (Keep.laid hp) _ _ rd⟩
theorem q_lst (h : QA X E es tr) : QE X E (.List es pos) (dLst tr) :=
  pe_imp (pe_lst h) fun s H Q ⟨sg, al, S, kd, xd, rs, rl, q, up, ux⟩ => ⟨sg, al, S, kLst kd, xd, rs, rl, q, fun ds S1 al1 H1 vs f1 r1 q1 => ⟨by rw [RDs.length r1]; exact q1.1, fun p hp =>
    up (.ref S1.length) _ _ _ (.ref p) (f1.trans (new_lst f1.rs hp r1)) (ref_new f1.rs _) q1.2⟩, ux⟩

/-! ### calls of built-ins -/
theorem lls {H : Hp} {r : SpD} {s : L2.St} {Q : VK} {Y : Cy} {t : TAD} (h : LE Y (dCall r t) s H Q) : LA Y t s H (fun vs H1 => LLs Y r vs H1 Q) := by
  obtain ⟨sg, al, S, kd, xd, rs, rl, q, up, ux⟩ := h
  exact ⟨sg, al, S, kCall r kd xd, xd, rs, rl, q, fun ds S1 al1 H1 vs f1 r1 q1 => ⟨ds, al1, S1, kd, xd, f1.rs, r1, q1, up.mono f1, ux.mono f1⟩, ux⟩
theorem q_callB {x : Str} {id : String} {r : SpD} {p : Pos} (hc : CallR X (.builtin id) (LLs (cy X E) r)) (hg : Gl X x) (hm : X.mg x = none) (hv : bootBuiltins x = some (.builtin id)) (ha : QA X E (e :: es) tr) (hn : x ≠ "__name__" := by decide) (hdb : (x == ("__debug__" : Str)) = false := by decide)
    (he : starEach (e :: es) X.env = (false, eval e X.env) :: starEach es X.env := by rfl) (hpl : (backTo pos (starEach es X.env)).any (·.1) = false := by rfl) : QE X E (.Call (.Name x p) (e :: es) [] pos) (dCall r tr) :=
  pe_imp (pe_callB hc hg hm hv ha hn hdb he hpl) fun s H Q q => lls q
theorem q_callTy {x : Str} {T : String} {r : SpD} {p : Pos} (hc : CallR X (.type T) (LLs (cy X E) r)) (hg : Gl X x) (hm : X.mg x = none) (hv : bootBuiltins x = some (.type T)) (ha : QA X E (e :: es) tr) (hn : x ≠ "__name__" := by decide) (hdb : (x == ("__debug__" : Str)) = false := by decide)
    (he : starEach (e :: es) X.env = (false, eval e X.env) :: starEach es X.env := by rfl) (hpl : (backTo pos (starEach es X.env)).any (·.1) = false := by rfl) : QE X E (.Call (.Name x p) (e :: es) [] pos) (dCall r tr) :=
  pe_imp (pe_callTy hc hg hm hv ha hn hdb he hpl) fun s H Q q => lls q
/-! ### calls of defs -/
/-- a def's promise over data -/
def LSp (Y : Cy) (n : Nat) (sp : SpD) : List V → Hp → VK → Prop := fun vs H Q => vs.length = n ∧ LLs Y sp vs H Q
def LP (K : PySem.W.Frag) (mg : Str → Option Value) (n : Nat) (sp : SpD) : Sp := fun vs H Q E => LSp ⟨K, mg, E⟩ n sp vs H Q
/-- with the number of arguments -/
def spN (n : Nat) (sp : SpD) : SpD := fun ds S k x => ds.length = n ∧ sp ds S k x
variable {k n : Nat} {f : Addr} {fd : FuncData} {ps : List Str} {sp : SpD} {x : Str} {p : Pos}
theorem q_call (F : FnOk X.prog X.w X.K X.mg X.base (L2.CX X.prog X.w) k f fd ps (LP X.K X.mg n sp)) (hr : Room k X.A) (hg : Gl X x) (hm : X.mg x = some (.ref f)) (hk : PySem.W.keepIn X.K (.ref f) = true) (hb : Binds X.K fd ps []) (hx : Passes (L2.CX X.prog X.w) X E)
    (ha : QA X E (e :: es) tr) (hdb : (x == ("__debug__" : Str)) = false := by decide) (he : starEach (e :: es) X.env = (false, eval e X.env) :: starEach es X.env := by rfl) (hpl : (backTo pos (starEach es X.env)).any (·.1) = false := by rfl) :
    QE X E (.Call (.Name x p) (e :: es) [] pos) (dCall (spN n sp) tr) :=
  pe_imp (pe_call (dvs := []) F hr hg hm hk hb .nil hx ha hdb he hpl) fun s H Q ⟨sg, al, S, kd, xd, rs, rl, q, up, ux⟩ => ⟨sg, al, S, kCall (spN n sp) kd xd, xd, rs, rl, q,
    fun ds S1 al1 H1 vs f1 r1 q1 => by
      show LP X.K X.mg n sp (vs ++ []) H1 Q E
      rw [List.append_nil]
      exact ⟨by rw [RDs.length r1]; exact q1.1, ds, al1, S1, kd, xd, f1.rs, r1, q1.2, up.mono f1, ux.mono f1⟩, ux⟩
end
end Q
namespace Q
open PySem
open Spec PyProof.Rows L2

/-! ### operators by value -/
/-- a list that is read -/
def isL (S : Sto) (n : Nat) (ds : List D) : Prop := S[n]? = some (.lst ds) ∨ S[n]? = some (.ro ds)
def rAdd : R2D := fun d e S k _ => match d, e with
  | .int i, .int j => k (.int (i + j)) S
  | .str i, .str j => i.length + j.length ≤ sizeLine ∧ k (.str (i ++ j)) S
  | .tup i, .tup j => i.length + j.length ≤ sizeLine ∧ k (.tup (i ++ j)) S
  | .ref n, .ref m => ∃ xs ys, S[n]? = some (.lst xs) ∧ S[m]? = some (.lst ys) ∧ xs.length + ys.length ≤ sizeLine ∧ k (.ref S.length) (S ++ [.lst (xs ++ ys)])
  | _, _ => False
def rSub : R2D := fun d e S k _ => match d, e with
  | .int i, .int j => k (.int (i - j)) S
  | _, _ => False
def MulOk (i j : Int) : Prop := CMul i j ∨ CMulW i j
def rMul : R2D := fun d e S k _ => match d, e with
  | .int i, .int j => MulOk i j ∧ k (.int (i * j)) S
  | .ref n, .int j => ∃ xs, S[n]? = some (.lst xs) ∧ j < 2 ^ 63 ∧ -(2 ^ 63) ≤ j ∧ xs.length * j.toNat ≤ sizeLine ∧ k (.ref S.length) (S ++ [.lst (List.replicate j.toNat xs).flatten])
  | _, _ => False
def rFdiv : R2D := fun d e S k _ => match d, e with
  | .int i, .int j => CDivW i j ∧ k (.int (i / j)) S
  | _, _ => False
def rMod : R2D := fun d e S k _ => match d, e with
  | .int i, .int j => 0 < j ∧ k (.int (i % j)) S
  | _, _ => False
/-- a power that is worked out: of a plain base, or of a wide base to a few -/
def PowOk (i j : Int) : Prop := CPow i j ∨ (0 ≤ j ∧ j ≤ 1000 ∧ i.natAbs < 2 ^ 10000)
def rPow : R2D := fun d e S k _ => match d, e with
  | .int i, .int j => PowOk i j ∧ k (.int (i ^ j.toNat)) S
  | _, _ => False
def rShl : R2D := fun d e S k _ => match d, e with
  | .int i, .int j => CPow i j ∧ k (.int (i * 2 ^ j.toNat)) S
  | _, _ => False
def rShr : R2D := fun d e S k _ => match d, e with
  | .int i, .int j => 0 ≤ j ∧ k (.int (i / 2 ^ j.toNat)) S
  | _, _ => False
def rAnd : R2D := fun d e S k _ => match d, e with
  | .int i, .int j => k (.int (Builtin.bitAnd i j)) S
  | _, _ => False
def rOr : R2D := fun d e S k _ => match d, e with
  | .int i, .int j => k (.int (Builtin.bitOr i j)) S
  | _, _ => False
def rXor : R2D := fun d e S k _ => match d, e with
  | .int i, .int j => k (.int (Builtin.bitXor i j)) S
  | _, _ => False
def rNeg : R1D := fun d S k _ => match d with
  | .int i => k (.int (-i)) S
  | _ => False
mutual
inductive DPy (S : Sto) : D → PyData → Prop
  | non : DPy S .non .none
  | bl (b : Bool) : DPy S (.bl b) (.bool b)
  | int (i : Int) : DPy S (.int i) (.int i)
  | str (x : Str) : DPy S (.str x) (.str x)
  | tup {ds : List D} {ps : List PyData} : DPys S ds ps → DPy S (.tup ds) (.tuple ps)
  | ref {n : Nat} {ds : List D} {ps : List PyData} : isL S n ds → DPys S ds ps → DPy S (.ref n) (.list ps)
inductive DPys (S : Sto) : List D → List PyData → Prop
  | nil : DPys S [] []
  | cons {d : D} {ds : List D} {p : PyData} {ps : List PyData} : DPy S d p → DPys S ds ps → DPys S (d :: ds) (p :: ps)
end
/-- == of data at any depth -/
def eqG (d e : D) (S : Sto) (k : Bool → Prop) : Prop := ∃ p q, DPy S d p ∧ DPy S e q ∧ SeqAt.shaped p = true ∧ SeqAt.shaped q = true ∧ k (PyData.eqv p q)
def rEq : R2D := fun d e S k _ => match d, e with
  | .int i, .int j => k (.bl (decide (i = j))) S
  | .str i, .str j => k (.bl (decide (i = j))) S
  | .bl i, .bl j => k (.bl (decide (i = j))) S
  | d, e => eqG d e S fun b => k (.bl b) S
def rNe : R2D := fun d e S k _ => match d, e with
  | .int i, .int j => k (.bl (!decide (i = j))) S
  | .str i, .str j => k (.bl (!decide (i = j))) S
  | .bl i, .bl j => k (.bl (!decide (i = j))) S
  | d, e => eqG d e S fun b => k (.bl (!b)) S
def rLt : R2D := fun d e S k _ => match d, e with
  | .int i, .int j => k (.bl (decide (i < j))) S
  | .str i, .str j => k (.bl (decide (i.cps.toList < j.cps.toList))) S
  | _, _ => False
def rLe : R2D := fun d e S k _ => match d, e with
  | .int i, .int j => k (.bl (decide (i ≤ j))) S
  | _, _ => False
def rGt : R2D := fun d e S k _ => match d, e with
  | .int i, .int j => k (.bl (decide (j < i))) S
  | _, _ => False
def rGe : R2D := fun d e S k _ => match d, e with
  | .int i, .int j => k (.bl (decide (j ≤ i))) S
  | _, _ => False
def isNon : D → Bool
  | .non => true
  | _ => false
/-- is None; is of two truths -/
def rIs : R2D := fun d e S k _ => match e with
  | .non => k (.bl (isNon d)) S
  | .bl j => match d with
    | .bl i => k (.bl (decide (i = j))) S
    | _ => False
  | _ => False
def rIsNot : R2D := fun d e S k _ => match e with
  | .non => k (.bl (!isNon d)) S
  | .bl j => match d with
    | .bl i => k (.bl (!decide (i = j))) S
    | _ => False
  | _ => False
def flatD : D → Bool
  | .non => true
  | .bl _ => true
  | .int _ => true
  | .str _ => true
  | _ => false
def eqF : D → D → Bool
  | .non, .non => true
  | .bl a, .bl b => a == b
  | .bl a, .int b => (if a then 1 else 0) == b
  | .int a, .bl b => a == (if b then 1 else 0)
  | .int a, .int b => a == b
  | .str a, .str b => a == b
  | _, _ => false
def inF (d : D) (ds : List D) : Bool := ds.any fun e => eqF e d
def rIn : R2D := fun d e S k _ => match e with
  | .tup ds => flatD d = true ∧ ds.all flatD = true ∧ k (.bl (inF d ds)) S
  | .ref n => ∃ ds, isL S n ds ∧ flatD d = true ∧ ds.all flatD = true ∧ k (.bl (inF d ds)) S
  | _ => False
def rNotIn : R2D := fun d e S k _ => match e with
  | .tup ds => flatD d = true ∧ ds.all flatD = true ∧ k (.bl (!inF d ds)) S
  | .ref n => ∃ ds, isL S n ds ∧ flatD d = true ∧ ds.all flatD = true ∧ k (.bl (!inF d ds)) S
  | _ => False

section
variable {X : Cx} {E : XK}
theorem up_at {K : PySem.W.Frag} {H : Hp} {al : List Addr} {S : Sto} {kd : KD} {Q : VK} {d : D} {v : V} (up : Up K H al kd Q) (rs : RS K H al S) (r : RD K H al d v) (h : kd d S) : Q v H := up d S al H v (.now rs) r h
theorem isL_at {K : PySem.W.Frag} {H : Hp} {al : List Addr} {S : Sto} {n : Nat} {ds : List D} {v : V} (rs : RS K H al S) (h : isL S n ds) (r : RD K H al (.ref n) v) : ∃ a vs, v = .ref a ∧ al[n]? = some a ∧ SqL K H a vs ∧ RDs K H al ds vs := by
  obtain ⟨a, e, ha⟩ := r
  rcases h with h | h
  · obtain ⟨vs, e1, r1⟩ := rs.ob n _ a h ha
    exact ⟨a, vs, e, ha, .inl (.inl e1), r1⟩
  · obtain ⟨vs, e1, r1⟩ := rs.ob n _ a h ha
    exact ⟨a, vs, e, ha, rol_sq e1, r1⟩
theorem lst_at {K : PySem.W.Frag} {H : Hp} {al : List Addr} {S : Sto} {n : Nat} {ds : List D} {v : V} (rs : RS K H al S) (h : S[n]? = some (.lst ds)) (r : RD K H al (.ref n) v) : ∃ a vs, v = .ref a ∧ al[n]? = some a ∧ H a = some (.lst vs) ∧ RDs K H al ds vs := by
  obtain ⟨a, e, ha⟩ := r
  obtain ⟨vs, e1, r1⟩ := rs.ob n _ a h ha
  exact ⟨a, vs, e, ha, e1, r1⟩
theorem up_new {K : PySem.W.Frag} {H : Hp} {al : List Addr} {S : Sto} {kd : KD} {Q : VK} {ds : List D} {vs : List V} {p : Addr} (up : Up K H al kd Q) (rs : RS K H al S) (hp : H p = none) (r : RDs K H al ds vs) (h : kd (.ref S.length) (S ++ [.lst ds])) : Q (.ref p) (upd H p (.lst vs)) :=
  up (.ref S.length) _ _ _ (.ref p) (new_lst rs hp r) (ref_new rs _) h
theorem up_tup {K : PySem.W.Frag} {H : Hp} {al : List Addr} {S : Sto} {kd : KD} {Q : VK} {ds : List D} {vs : List V} {p : Addr} (up : Up K H al kd Q) (rs : RS K H al S) (hp : H p = none) (r : RDs K H al ds vs) (h : kd (.tup ds) S) : Q (.ref p) (upd H p (.tup vs)) := by
  have f2 : Fut K H al (upd H p (.tup vs)) al S := Fut.lay rs hp
  exact up (.tup ds) S al _ (.ref p) f2 ⟨p, vs, rfl, .inl (.inl upd_same), f2.rds r⟩ h
/-- an operator of two ints -/
theorem o_int2 {f : Value → Value → Sem Value} {C : Int → Int → Prop} {g : Int → Int → V} {g' : Int → Int → D} (h : OpR X f (rI C g)) (hg : ∀ i j H al, RD X.K H al (g' i j) (g i j)) :
    OpR X f (LL2 (cy X E) fun d e S k _ => match d, e with | .int i, .int j => C i j ∧ k (g' i j) S | _, _ => False) := by
  intro pins s σ H x y v u Q I rx ry ⟨d, e, al, S, kd, xd, rs, rd, re, q, up, ux⟩
  cases d <;> cases e <;> try exact q.elim
  case int.int i j =>
    have rd : x = .int i := rd
    have re : y = .int j := re
    exact h pins s σ H x y v u Q I rx ry ⟨i, j, rd, re, q.1, up_at up rs (hg i j H al) q.2⟩
theorem o_int0 {f : Value → Value → Sem Value} {g : Int → Int → V} {g' : Int → Int → D} (h : OpR X f (rI0 g)) (hg : ∀ i j H al, RD X.K H al (g' i j) (g i j)) :
    OpR X f (LL2 (cy X E) fun d e S k _ => match d, e with | .int i, .int j => k (g' i j) S | _, _ => False) := by
  intro pins s σ H x y v u Q I rx ry ⟨d, e, al, S, kd, xd, rs, rd, re, q, up, ux⟩
  cases d <;> cases e <;> try exact q.elim
  case int.int i j =>
    have rd : x = .int i := rd
    have re : y = .int j := re
    exact h pins s σ H x y v u Q I rx ry ⟨i, j, rd, re, up_at up rs (hg i j H al) q⟩
theorem o_sub : OpR X (binaryOp .Sub) (LL2 (cy X E) rSub) := o_int0 op_sub fun _ _ _ _ => rfl
theorem o_fdiv : OpR X (binaryOp .FloorDiv) (LL2 (cy X E) rFdiv) := o_int2 op_fdivW fun _ _ _ _ => rfl
theorem o_mod : OpR X (binaryOp .Mod) (LL2 (cy X E) rMod) := o_int2 op_mod fun _ _ _ _ => rfl
theorem log_lt {a : Nat} {n : Nat} (h : a < 2 ^ n) (h0 : 0 < n) : a.log2 < n := by
  by_cases ha : a = 0
  · subst ha; simpa using h0
  · exact (Nat.log2_lt ha).mpr h
theorem bits_wide {a n : Int} (hn : 0 ≤ n) (hn2 : n ≤ 1000) (ha : a.natAbs < 2 ^ 10000) : (Builtin.Int.intBits a : Int) * n ≤ 2 ^ 27 := by
  have h : Builtin.Int.intBits a ≤ 10000 := by
    unfold Builtin.Int.intBits
    split
    · exact Nat.zero_le _
    · exact log_lt ha (by decide)
  have h1 : (Builtin.Int.intBits a : Int) * n ≤ 10000 * 1000 := by
    refine Int.le_trans (Int.mul_le_mul_of_nonneg_right (show (Builtin.Int.intBits a : Int) ≤ 10000 by omega) hn) ?_
    omega
  exact Int.le_trans h1 (by decide)
theorem op_powW : OpR X (binaryOp .Pow) (rI PowOk fun i j => .int (i ^ j.toNat)) := opI fun _ _ _ _ _ _ _ hc q => by
  rcases hc with hc | hc
  · exact pow_int_small hc.1 hc.2.1 hc.2.2 q
  · exact pow_int hc.1 (bits_wide hc.1 hc.2.1 hc.2.2) q
theorem o_pow : OpR X (binaryOp .Pow) (LL2 (cy X E) rPow) := o_int2 op_powW fun _ _ _ _ => rfl
theorem o_shl : OpR X (binaryOp .LShift) (LL2 (cy X E) rShl) := o_int2 op_shl fun _ _ _ _ => rfl
theorem o_shr : OpR X (binaryOp .RShift) (LL2 (cy X E) rShr) := o_int2 op_shr fun _ _ _ _ => rfl
theorem o_and : OpR X (binaryOp .BitAnd) (LL2 (cy X E) rAnd) := o_int0 op_and fun _ _ _ _ => rfl
theorem o_or : OpR X (binaryOp .BitOr) (LL2 (cy X E) rOr) := o_int0 op_or fun _ _ _ _ => rfl
theorem o_xor : OpR X (binaryOp .BitXor) (LL2 (cy X E) rXor) := o_int0 op_xor fun _ _ _ _ => rfl
theorem o_le : OpR X (compareOp .LtE) (LL2 (cy X E) rLe) := o_int0 op_le fun _ _ _ _ => rfl
theorem o_gt : OpR X (compareOp .Gt) (LL2 (cy X E) rGt) := o_int0 op_gt fun _ _ _ _ => rfl
theorem o_ge : OpR X (compareOp .GtE) (LL2 (cy X E) rGe) := o_int0 op_ge fun _ _ _ _ => rfl
theorem o_lt : OpR X (compareOp .Lt) (LL2 (cy X E) rLt) := by
  intro pins s σ H x y v u Q I rx ry ⟨d, e, al, S, kd, xd, rs, rd, re, q, up, ux⟩
  cases d <;> cases e <;> try exact q.elim
  case int.int i j =>
    have rd : x = .int i := rd
    have re : y = .int j := re
    exact op_lt pins s σ H x y v u Q I rx ry ⟨i, j, rd, re, up_at up rs (d := .bl (decide (i < j))) rfl q⟩
  case str.str i j =>
    have rd : x = .str i := rd
    have re : y = .str j := re
    exact op_lt_str pins s σ H x y v u Q I rx ry ⟨i, j, rd, re, up_at up rs (d := .bl (decide (i.cps.toList < j.cps.toList))) rfl q⟩
theorem o_neg : UnR X (unaryOp .USub) (L1 (cy X E) rNeg) := by
  intro pins s σ H x v Q I rx ⟨d, al, S, kd, xd, rs, rd, q, up, ux⟩
  cases d <;> try exact q.elim
  case int i =>
    have rd : x = .int i := rd
    exact un_neg pins s σ H x v Q I rx ⟨i, rd, up_at up rs (d := .int (-i)) rfl q⟩
theorem o_add : OpR X (binaryOp .Add) (LL2 (cy X E) rAdd) := by
  intro pins s σ H x y v u Q I rx ry ⟨d, e, al, S, kd, xd, rs, rd, re, q, up, ux⟩
  cases d <;> cases e <;> try exact q.elim
  case int.int i j =>
    have rd : x = .int i := rd
    have re : y = .int j := re
    exact op_add pins s σ H x y v u Q I rx ry ⟨i, j, rd, re, up_at up rs (d := .int (i + j)) rfl q⟩
  case str.str i j =>
    have rd : x = .str i := rd
    have re : y = .str j := re
    exact op_add_str pins s σ H x y v u Q I rx ry ⟨i, j, rd, re, q.1, up_at up rs (d := .str (i ++ j)) rfl q.2⟩
  case tup.tup i j =>
    obtain ⟨a, xs, ex, hx, r1⟩ := rd
    obtain ⟨b, ys, ey, hy, r2⟩ := re
    obtain ⟨hl, q⟩ := q
    refine op_catA pins s σ H x y v u Q I rx ry ⟨a, b, xs, ys, ex, ey, hx, hy, by rw [RDs.length r1, RDs.length r2]; exact hl, fun e => ?_, fun n e => ?_, fun n m p hp => ?_⟩
    · have ei : i = [] := by
        have := RDs.length r1
        rw [e] at this
        exact List.length_eq_zero_iff.mp this.symm
      subst ei
      exact up_at up rs (d := .tup j) ⟨b, ys, rfl, hy, r2⟩ q
    · have ei : j = [] := by
        have := RDs.length r2
        rw [e] at this
        exact List.length_eq_zero_iff.mp this.symm
      subst ei
      rw [List.append_nil] at q
      exact up_at up rs (d := .tup i) ⟨a, xs, rfl, hx, r1⟩ q
    · exact up_tup up rs hp (RDs.append r1 r2) q
  case ref.ref n m =>
    obtain ⟨xs, ys, h1, h2, hl, q⟩ := q
    obtain ⟨a, vs, ex, _, e1, r1⟩ := lst_at rs h1 rd
    obtain ⟨b, us, ey, _, e2, r2⟩ := lst_at rs h2 re
    exact op_cat pins s σ H x y v u Q I rx ry ⟨a, b, vs, us, ex, ey, e1, e2, by rw [RDs.length r1, RDs.length r2]; exact hl, fun p hp => up_new up rs hp (RDs.append r1 r2) q⟩
theorem rds_rep {K : PySem.W.Frag} {H : Hp} {al : List Addr} {ds : List D} {vs : List V} (r : RDs K H al ds vs) : ∀ n : Nat, RDs K H al (List.replicate n ds).flatten (List.replicate n vs).flatten
  | 0 => rfl
  | n + 1 => by
    rw [List.replicate_succ, List.replicate_succ, List.flatten_cons, List.flatten_cons]
    exact RDs.append r (rds_rep r n)
theorem o_mul : OpR X (binaryOp .Mult) (LL2 (cy X E) rMul) := by
  intro pins s σ H x y v u Q I rx ry ⟨d, e, al, S, kd, xd, rs, rd, re, q, up, ux⟩
  cases d <;> cases e <;> try exact q.elim
  case int.int i j =>
    have rd : x = .int i := rd
    have re : y = .int j := re
    rcases q.1 with h | h
    · exact op_mul pins s σ H x y v u Q I rx ry ⟨i, j, rd, re, h, up_at up rs (d := .int (i * j)) rfl q.2⟩
    · exact op_mulW pins s σ H x y v u Q I rx ry ⟨i, j, rd, re, h, up_at up rs (d := .int (i * j)) rfl q.2⟩
  case ref.int n j =>
    obtain ⟨xs, h1, hj, hj2, hl, q⟩ := q
    obtain ⟨a, vs, ex, _, e1, r1⟩ := lst_at rs h1 rd
    have re : y = .int j := re
    exact op_rep pins s σ H x y v u Q I rx ry ⟨a, j, vs, ex, re, e1, hj2, hj, by rw [RDs.length r1]; exact hl, fun p hp => up_new up rs hp (rds_rep r1 _) q⟩
mutual
theorem DPy.dp {K : PySem.W.Frag} {H : Hp} {al : List Addr} {S : Sto} (rs : RS K H al S) : ∀ (p : PyData) (d : D) (v : V), DPy S d p → RD K H al d v → Dp K H v p
  | .none, _, _, h, r => by cases h; cases (show _ = V.non from r); exact .non
  | .bool b, _, _, h, r => by cases h; cases (show _ = V.bl b from r); exact .bl b
  | .int b, _, _, h, r => by cases h; cases (show _ = V.int b from r); exact .int b
  | .str b, _, _, h, r => by cases h; cases (show _ = V.str b from r); exact .str b
  | .tuple ps, _, _, h, r => by
    cases h with
    | tup hs =>
      obtain ⟨a, vs, e, h1, r1⟩ := r
      subst e
      exact .tup h1 (DPys.dp rs ps _ vs hs r1)
  | .list ps, _, _, h, r => by
    cases h with
    | ref hl hs =>
      obtain ⟨a, vs, e, _, h1, r1⟩ := isL_at rs hl r
      subst e
      exact .lst h1 (DPys.dp rs ps _ vs hs r1)
  | .dict _, _, _, h, _ => by cases h
theorem DPys.dp {K : PySem.W.Frag} {H : Hp} {al : List Addr} {S : Sto} (rs : RS K H al S) : ∀ (p : List PyData) (d : List D) (v : List V), DPys S d p → RDs K H al d v → DpAll K H v p
  | [], _, _, h, r => by cases h; cases (show _ = [] from r); exact .nil
  | p :: ps, _, _, h, r => by
    cases h with
    | cons h1 h2 =>
      obtain ⟨v, u, e, r1, r2⟩ := r
      subst e
      exact .cons (DPy.dp rs p _ v h1 r1) (DPys.dp rs ps _ u h2 r2)
end
theorem o_eq (hu : X.A.units + 64 < cLine) : OpR X (compareOp .Eq) (LL2 (cy X E) rEq) := by
  intro pins s σ H x y v u Q I rx ry ⟨d, e, al, S, kd, xd, rs, rd, re, q, up, ux⟩
  have gen : (∃ p q, DPy S d p ∧ DPy S e q ∧ SeqAt.shaped p = true ∧ SeqAt.shaped q = true ∧ kd (.bl (PyData.eqv p q)) S) → wpAny (model X.prog X.w) X.A (compareOp .Eq v u) (EP X pins σ Q) X.xe s := fun ⟨p, p', h1, h2, s1, s2, q⟩ =>
    op_eqD hu pins s σ H x y v u Q I rx ry ⟨p, p', DPy.dp rs p d x h1 rd, DPy.dp rs p' e y h2 re, s1, s2, up_at up rs (d := .bl (PyData.eqv p p')) rfl q⟩
  cases d <;> cases e <;> try exact gen q
  case int.int i j =>
    have rd : x = .int i := rd
    have re : y = .int j := re
    subst rd re
    refine op_eq pins s σ H _ _ v u Q I rx ry ⟨rfl, ?_⟩
    have e : decide (V.int i = V.int j) = decide (i = j) := by simp
    rw [e]
    exact up_at up rs (d := .bl (decide (i = j))) rfl q
  case str.str i j =>
    have rd : x = .str i := rd
    have re : y = .str j := re
    subst rd re
    refine op_eq pins s σ H _ _ v u Q I rx ry ⟨rfl, ?_⟩
    have e : decide (V.str i = V.str j) = decide (i = j) := by simp
    rw [e]
    exact up_at up rs (d := .bl (decide (i = j))) rfl q
  case bl.bl i j =>
    have rd : x = .bl i := rd
    have re : y = .bl j := re
    subst rd re
    refine op_eq pins s σ H _ _ v u Q I rx ry ⟨rfl, ?_⟩
    have e : decide (V.bl i = V.bl j) = decide (i = j) := by simp
    rw [e]
    exact up_at up rs (d := .bl (decide (i = j))) rfl q
theorem o_ne (hu : X.A.units + 64 < cLine) : OpR X (compareOp .NotEq) (LL2 (cy X E) rNe) := by
  intro pins s σ H x y v u Q I rx ry ⟨d, e, al, S, kd, xd, rs, rd, re, q, up, ux⟩
  have gen : (∃ p q, DPy S d p ∧ DPy S e q ∧ SeqAt.shaped p = true ∧ SeqAt.shaped q = true ∧ kd (.bl (!PyData.eqv p q)) S) → wpAny (model X.prog X.w) X.A (compareOp .NotEq v u) (EP X pins σ Q) X.xe s := fun ⟨p, p', h1, h2, s1, s2, q⟩ =>
    op_neD hu pins s σ H x y v u Q I rx ry ⟨p, p', DPy.dp rs p d x h1 rd, DPy.dp rs p' e y h2 re, s1, s2, up_at up rs (d := .bl (!PyData.eqv p p')) rfl q⟩
  cases d <;> cases e <;> try exact gen q
  case int.int i j =>
    have rd : x = .int i := rd
    have re : y = .int j := re
    subst rd re
    refine op_ne pins s σ H _ _ v u Q I rx ry ⟨rfl, ?_⟩
    have e : decide (V.int i = V.int j) = decide (i = j) := by simp
    rw [e]
    exact up_at up rs (d := .bl (!decide (i = j))) rfl q
  case str.str i j =>
    have rd : x = .str i := rd
    have re : y = .str j := re
    subst rd re
    refine op_ne pins s σ H _ _ v u Q I rx ry ⟨rfl, ?_⟩
    have e : decide (V.str i = V.str j) = decide (i = j) := by simp
    rw [e]
    exact up_at up rs (d := .bl (!decide (i = j))) rfl q
  case bl.bl i j =>
    have rd : x = .bl i := rd
    have re : y = .bl j := re
    subst rd re
    refine op_ne pins s σ H _ _ v u Q I rx ry ⟨rfl, ?_⟩
    have e : decide (V.bl i = V.bl j) = decide (i = j) := by simp
    rw [e]
    exact up_at up rs (d := .bl (!decide (i = j))) rfl q
theorem non_iff {K : PySem.W.Frag} {H : Hp} {al : List Addr} {d : D} {x : V} (r : RD K H al d x) : decide (x = .non) = isNon d := by
  cases d with
  | non => cases (show x = .non from r); rfl
  | bl b => cases (show x = .bl b from r); rfl
  | int b => cases (show x = .int b from r); rfl
  | str b => cases (show x = .str b from r); simp [isNon]
  | tup ds => obtain ⟨a, vs, e, _⟩ := r; subst e; simp [isNon]
  | ref n => obtain ⟨a, e, _⟩ := r; subst e; simp [isNon]
theorem o_is : OpR X (compareOp .Is) (LL2 (cy X E) rIs) := by
  intro pins s σ H x y v u Q I rx ry ⟨d, e, al, S, kd, xd, rs, rd, re, q, up, ux⟩
  cases e <;> try exact q.elim
  case non =>
    refine op_isN pins s σ H x y v u Q I rx ry ⟨re, ?_⟩
    rw [non_iff rd]
    exact up_at up rs (d := .bl (isNon d)) rfl q
  case bl j =>
    cases d <;> try exact q.elim
    case bl i => exact op_is_bl pins s σ H x y v u Q I rx ry ⟨i, j, rd, re, up_at up rs (d := .bl (decide (i = j))) rfl q⟩
theorem o_isNot : OpR X (compareOp .IsNot) (LL2 (cy X E) rIsNot) := by
  intro pins s σ H x y v u Q I rx ry ⟨d, e, al, S, kd, xd, rs, rd, re, q, up, ux⟩
  cases e <;> try exact q.elim
  case non =>
    refine op_notN pins s σ H x y v u Q I rx ry ⟨re, ?_⟩
    rw [non_iff rd]
    exact up_at up rs (d := .bl (!isNon d)) rfl q
  case bl j =>
    cases d <;> try exact q.elim
    case bl i => exact op_isnot_bl pins s σ H x y v u Q I rx ry ⟨i, j, rd, re, up_at up rs (d := .bl (!decide (i = j))) rfl q⟩
theorem flat_v {K : PySem.W.Frag} {H : Hp} {al : List Addr} {d : D} {x : V} (r : RD K H al d x) (f : flatD d = true) : flatV x = true := by
  cases d with
  | non => cases (show x = .non from r); rfl
  | bl b => cases (show x = .bl b from r); rfl
  | int b => cases (show x = .int b from r); rfl
  | str b => cases (show x = .str b from r); rfl
  | tup ds => cases f
  | ref n => cases f
theorem eqF_v {K : PySem.W.Frag} {H : Hp} {al : List Addr} {d e : D} {x y : V} (r : RD K H al d x) (r' : RD K H al e y) (f : flatD d = true) (f' : flatD e = true) : eqV x y = eqF d e := by
  cases d <;> (try cases f) <;> cases e <;> (try cases f') <;> (have r1 : x = _ := r; have r2 : y = _ := r'; subst r1 r2; rfl)
theorem inF_v {K : PySem.W.Frag} {H : Hp} {al : List Addr} {d : D} {x : V} (r : RD K H al d x) (f : flatD d = true) : ∀ {ds : List D} {vs : List V}, RDs K H al ds vs → ds.all flatD = true → vs.all flatV = true ∧ inV x vs = inF d ds
  | [], _, h, _ => by cases (show _ = [] from h); exact ⟨rfl, rfl⟩
  | e :: ds, _, ⟨v, u, e1, h1, h2⟩, g => by
    rw [List.all_cons, Bool.and_eq_true] at g
    subst e1
    obtain ⟨q1, q2⟩ := inF_v r f h2 g.2
    refine ⟨by rw [List.all_cons, flat_v h1 g.1, q1]; rfl, ?_⟩
    show (eqV v x || inV x u) = (eqF e d || inF d ds)
    rw [eqF_v h1 r g.1 f, q2]
theorem o_in : OpR X (compareOp .In) (LL2 (cy X E) rIn) := by
  intro pins s σ H x y v u Q I rx ry ⟨d, e, al, S, kd, xd, rs, rd, re, q, up, ux⟩
  cases e <;> try exact q.elim
  case tup ds =>
    obtain ⟨a, vs, ey, hs, r1⟩ := re
    obtain ⟨f1, f2, q⟩ := q
    obtain ⟨g1, g2⟩ := inF_v rd f1 r1 f2
    refine op_in_seq pins s σ H x y v u Q I rx ry ⟨a, vs, ey, .inr hs, flat_v rd f1, g1, ?_⟩
    show Q (.bl (inV x vs)) H
    rw [g2]
    exact up_at up rs (d := .bl _) rfl q
  case ref n =>
    obtain ⟨ds, hl, f1, f2, q⟩ := q
    obtain ⟨a, vs, ey, _, hs, r1⟩ := isL_at rs hl re
    obtain ⟨g1, g2⟩ := inF_v rd f1 r1 f2
    refine op_in_seq pins s σ H x y v u Q I rx ry ⟨a, vs, ey, .inl hs, flat_v rd f1, g1, ?_⟩
    show Q (.bl (inV x vs)) H
    rw [g2]
    exact up_at up rs (d := .bl _) rfl q
theorem o_notIn : OpR X (compareOp .NotIn) (LL2 (cy X E) rNotIn) := by
  intro pins s σ H x y v u Q I rx ry ⟨d, e, al, S, kd, xd, rs, rd, re, q, up, ux⟩
  cases e <;> try exact q.elim
  case tup ds =>
    obtain ⟨a, vs, ey, hs, r1⟩ := re
    obtain ⟨f1, f2, q⟩ := q
    obtain ⟨g1, g2⟩ := inF_v rd f1 r1 f2
    refine op_notIn_seq pins s σ H x y v u Q I rx ry ⟨a, vs, ey, .inr hs, flat_v rd f1, g1, ?_⟩
    show Q (.bl (!inV x vs)) H
    rw [g2]
    exact up_at up rs (d := .bl _) rfl q
  case ref n =>
    obtain ⟨ds, hl, f1, f2, q⟩ := q
    obtain ⟨a, vs, ey, _, hs, r1⟩ := isL_at rs hl re
    obtain ⟨g1, g2⟩ := inF_v rd f1 r1 f2
    refine op_notIn_seq pins s σ H x y v u Q I rx ry ⟨a, vs, ey, .inl hs, flat_v rd f1, g1, ?_⟩
    show Q (.bl (!inV x vs)) H
    rw [g2]
    exact up_at up rs (d := .bl _) rfl q
end
end Q
namespace Q
open PySem
open Spec PyProof.Rows L2

/-! ### types -/
inductive Ty | non | bool | int | str | tuple | list | dict
  deriving DecidableEq
def Ty.name : Ty → String
  | .non => "NoneType" | .bool => "bool" | .int => "int" | .str => "str" | .tuple => "tuple" | .list => "list" | .dict => "dict"
/-- is a thing of the first type one of the second -/
def isTy : Ty → Ty → Bool
  | .bool, .int => true
  | .non, .non => true
  | .bool, .bool => true
  | .int, .int => true
  | .str, .str => true
  | .tuple, .tuple => true
  | .list, .list => true
  | .dict, .dict => true
  | _, _ => false
theorem kitB_ty : ∀ a b : Ty, b ≠ .non → kitB a.name b.name = some (isTy a b) := by
  intro a b h
  cases b <;> (first | exact absurd rfl h | (cases a <;> decide +kernel))
/-- the kind of an object of the store -/
def tyR (S : Sto) (n : Nat) : Option Ty := match S[n]? with
  | some (.lst _) => some .list
  | some (.ro _) => some .list
  | some (.dic _) => some .dict
  | _ => none
def rIsi (T : Ty) : R1D := fun d S k _ => match d with
  | .non => k (.bl (isTy .non T)) S
  | .bl _ => k (.bl (isTy .bool T)) S
  | .int _ => k (.bl (isTy .int T)) S
  | .str _ => k (.bl (isTy .str T)) S
  | .tup _ => k (.bl (isTy .tuple T)) S
  | .ref n => ∃ t, tyR S n = some t ∧ k (.bl (isTy t T)) S
def rIsi2 (T U : Ty) : R1D := fun d S k _ => match d with
  | .non => k (.bl (isTy .non T || isTy .non U)) S
  | .bl _ => k (.bl (isTy .bool T || isTy .bool U)) S
  | .int _ => k (.bl (isTy .int T || isTy .int U)) S
  | .str _ => k (.bl (isTy .str T || isTy .str U)) S
  | .tup _ => k (.bl (isTy .tuple T || isTy .tuple U)) S
  | .ref n => ∃ t, tyR S n = some t ∧ k (.bl (isTy t T || isTy t U)) S
section
variable {X : Cx} {E : XK} {e : Expr} {te : TED} {pos p p2 p3 : Pos}
theorem tyx_of {K : PySem.W.Frag} {H : Hp} {al : List Addr} {S : Sto} {d : D} {x : V} (rs : RS K H al S) (r : RD K H al d x) {R : Ty → Prop}
    (h : match d with | .non => R .non | .bl _ => R .bool | .int _ => R .int | .str _ => R .str | .tup _ => R .tuple | .ref n => ∃ t, tyR S n = some t ∧ R t) :
    ∃ t, TyX K H x (.type (Ty.name t)) ∧ R t := by
  cases d with
  | non => cases (show x = .non from r); exact ⟨.non, .base .non, h⟩
  | bl b => cases (show x = .bl b from r); exact ⟨.bool, .base (.bl b), h⟩
  | int b => cases (show x = .int b from r); exact ⟨.int, .base (.int b), h⟩
  | str b => cases (show x = .str b from r); exact ⟨.str, .base (.str b), h⟩
  | tup ds =>
    obtain ⟨a, vs, e, hs, _⟩ := r
    subst e
    refine ⟨.tuple, ?_, h⟩
    rcases hs with (hs | ⟨o, hs⟩) | ⟨o, its, n, lk, hc, _⟩
    · exact .base (.tup hs)
    · exact .fTuple hs
    · exact .kTuple lk hc
  | ref n =>
    obtain ⟨a, e, ha⟩ := r
    subst e
    obtain ⟨t, ht, h⟩ := h
    unfold tyR at ht
    cases eS : S[n]? with
    | none => rw [eS] at ht; cases ht
    | some o =>
      rw [eS] at ht
      have ro := rs.ob n o a eS ha
      cases o with
      | lst ds =>
        cases ht
        obtain ⟨vs, e1, _⟩ := ro
        exact ⟨.list, .base (.lst e1), h⟩
      | ro ds =>
        cases ht
        obtain ⟨vs, e1, _⟩ := ro
        rcases e1 with ⟨o, e1⟩ | ⟨o, its, m, lk, hc, _⟩
        · exact ⟨.list, .base (.frz e1), h⟩
        · exact ⟨.list, .kList lk hc, h⟩
      | dic ds =>
        cases ht
        obtain ⟨vs, e1, _⟩ := ro
        exact ⟨.dict, .base (.dK e1), h⟩
      | exo x d => cases ht
      | oth => cases ht
theorem q_isi {T : Str} (t : Ty) (ht : t ≠ .non) (he : QE X E e te) (hg : Gl X "isinstance") (hm : X.mg "isinstance" = none) (gT : Gl X T) (mT : X.mg T = none) (bT : bootBuiltins T = some (.type t.name)) (hn : T ≠ "__name__" := by decide) (hd : (T == ("__debug__" : Str)) = false := by decide)
    (hs1 : starEach [e, .Name T p2] X.env = (false, eval e X.env) :: starEach [.Name T p2] X.env := by rfl) (hs2 : starEach [.Name T p2] X.env = (false, eval (.Name T p2) X.env) :: starEach [] X.env := by rfl) (hpl : (backTo pos (starEach [.Name T p2] X.env)).any (·.1) = false := by rfl) :
    QE X E (.Call (.Name "isinstance" p) [e, .Name T p2] [] pos) (dUn (rIsi t) te) := by
  refine pe_imp (pe_callB call_isi hg hm boot_isinstance (pa_cons he (pa_cons (pe_bltn (v := .ty t.name) gT mT bT rfl hn hd) pa_nil hs2) hs1) (by decide) (by decide) hs1 hpl) fun s H Q ⟨sg, al, S, kd, xd, rs, rl, q, up, ux⟩ => ?_
  refine ⟨sg, al, S, _, xd, rs, rl, q, fun d S1 al1 H1 v f1 r1 q1 => ?_, ux⟩
  obtain ⟨t', h1, h2⟩ := tyx_of (R := fun t' => kd (.bl (isTy t' t)) S1) f1.rs r1 (by cases d <;> exact q1)
  exact ⟨v, .ty t.name, .type t'.name, .type t.name, isTy t' t, rfl, .ty _, h1, kit_ty (kitB_ty t' t ht), (up.mono f1) (.bl (isTy t' t)) S1 al1 H1 _ (.now f1.rs) rfl h2⟩
theorem q_isi2 {T U : Str} (t u : Ty) (ht : t ≠ .non) (hu : u ≠ .non) {k0 : Nat} (he : QE X E e te) (hg : Gl X "isinstance") (hm : X.mg "isinstance" = none) (gT : Gl X T) (mT : X.mg T = none) (bT : bootBuiltins T = some (.type t.name)) (gU : Gl X U) (mU : X.mg U = none) (bU : bootBuiltins U = some (.type u.name))
    (hn : T ≠ "__name__" := by decide) (hd : (T == ("__debug__" : Str)) = false := by decide) (hn' : U ≠ "__name__" := by decide) (hd' : (U == ("__debug__" : Str)) = false := by decide) {pt : Pos}
    (hs1 : starEach [e, .Tuple [.Name T p2, .Name U p3] k0 pt] X.env = (false, eval e X.env) :: starEach [.Tuple [.Name T p2, .Name U p3] k0 pt] X.env := by rfl) (hs2 : starEach [.Tuple [.Name T p2, .Name U p3] k0 pt] X.env = (false, eval (.Tuple [.Name T p2, .Name U p3] k0 pt) X.env) :: starEach [] X.env := by rfl)
    (hs3 : starEach [.Name T p2, .Name U p3] X.env = (false, eval (.Name T p2) X.env) :: starEach [.Name U p3] X.env := by rfl) (hs4 : starEach [.Name U p3] X.env = (false, eval (.Name U p3) X.env) :: starEach [] X.env := by rfl)
    (hpl : (backTo pos (starEach [.Tuple [.Name T p2, .Name U p3] k0 pt] X.env)).any (·.1) = false := by rfl) :
    QE X E (.Call (.Name "isinstance" p) [e, .Tuple [.Name T p2, .Name U p3] k0 pt] [] pos) (dUn (rIsi2 t u) te) := by
  refine pe_imp (pe_callB call_isiT hg hm boot_isinstance (pa_cons he (pa_cons (pe_tup (pa_cons (pe_bltn (v := .ty t.name) gT mT bT rfl hn hd) (pa_cons (pe_bltn (v := .ty u.name) gU mU bU rfl hn' hd') pa_nil hs4) hs3)) pa_nil hs2) hs1) (by decide) (by decide) hs1 hpl) fun s H Q ⟨sg, al, S, kd, xd, rs, rl, q, up, ux⟩ => ?_
  refine ⟨sg, al, S, _, xd, rs, rl, q, fun d S1 al1 H1 v f1 r1 q1 => ?_, ux⟩
  refine ⟨by show 2 ≤ sizeLine; decide, fun tp hp => ?_⟩
  have f2 : Fut X.K H1 al1 (upd H1 tp (.tup [V.ty t.name, V.ty u.name])) al1 S1 := Fut.lay f1.rs hp
  obtain ⟨t', h1, h2⟩ := tyx_of (R := fun t' => kd (.bl (isTy t' t || isTy t' u)) S1) f2.rs (f2.rd r1) (by cases d <;> exact q1)
  refine ⟨v, tp, [.ty t.name, .ty u.name], .type t'.name, [.type t.name, .type u.name], (isTy t' t || isTy t' u), rfl, upd_same, .cons (.ty _) (.cons (.ty _) .nil), h1, ?_, up (.bl (isTy t' t || isTy t' u)) S1 al1 _ _ (f1.trans f2) rfl h2⟩
  refine kitAny_cons (kit_ty (kitB_ty t' t ht)) (fun e0 => ?_) (fun e0 => by rw [e0]; rfl)
  rw [e0]
  exact kitAny_cons (kit_ty (kitB_ty t' u hu)) (fun e1 => by rw [e1]; rfl) (fun e1 => by rw [e1]; rfl)
end

/-! ### subscripts, slices -/
def rIx : R2D := fun d e S k _ => match d, e with
  | .tup ds, .int i => ∃ x, atI ds i = some x ∧ k x S
  | .ref n, .int i => ∃ ds x, isL S n ds ∧ atI ds i = some x ∧ k x S
  | .str z, .int i => z.length ≤ sizeLine ∧ ∃ c, atI z.cps.toList i = some c ∧ k (.str ⟨#[c]⟩) S
  | _, _ => False
abbrev TOD := Sl → Sto → (Option Int → Sto → Prop) → XD → Prop
def LO (Y : Cy) (t : TOD) : TO := fun sv H Q => ∃ sg al S kd xd, RS Y.K H al S ∧ RSl Y.K H al sg sv ∧ t sg S kd xd ∧ (∀ o S' al' H', Fut Y.K H al H' al' S' → kd o S' → Q o H') ∧ UpX Y H al xd
def dNoP : TOD := fun _ S k _ => k none S
def kPart (k : Option Int → Sto → Prop) : KD := fun d S => match d with
  | .int i => k (some i) S
  | _ => False
def dPart (t : TED) : TOD := fun sg S k x => t sg S (kPart k) x
def cutD (ds : List D) (lo hi : Option Int) : List D := (ds.drop (HT.sIx ds.length 0 lo)).take (HT.sIx ds.length ds.length hi - HT.sIx ds.length 0 lo)
abbrev RSlD := D → Option Int → Option Int → Sto → KD → XD → Prop
def rSl : RSlD := fun d lo hi S k _ => match d with
  | .tup ds => k (.tup (cutD ds lo hi)) S
  | .ref n => ∃ ds, isL S n ds ∧ k (.ref S.length) (S ++ [.lst (cutD ds lo hi)])
  | .str z => z.length ≤ sizeLine ∧ k (.str (cutS z lo hi)) S
  | _ => False
def kSl3 (k : KD) (x : XD) (d : D) (lo : Option Int) : Option Int → Sto → Prop := fun hi S => rSl d lo hi S k x
def kSl2 (th : TOD) (sg : Sl) (k : KD) (x : XD) (d : D) : Option Int → Sto → Prop := fun lo S => th sg S (kSl3 k x d lo) x
def kSl1 (tl th : TOD) (sg : Sl) (k : KD) (x : XD) : KD := fun d S => tl sg S (kSl2 th sg k x d) x
def dSl (te : TED) (tl th : TOD) : TED := fun sg S k x => te sg S (kSl1 tl th sg k x) x
section
variable {X : Cx} {E : XK} {a b e : Expr} {ta tb te : TED} {pos p2 : Pos} {lo hi : Option Expr} {tl th : TOD}
theorem atI_rd {K : PySem.W.Frag} {H : Hp} {al : List Addr} {ds : List D} {vs : List V} {i : Int} {d : D} (r : RDs K H al ds vs) (h : atI ds i = some d) : ∃ v, atI vs i = some v ∧ RD K H al d v := by
  unfold atI at h ⊢
  rw [RDs.length r]
  cases e : ixN ds.length i with
  | none => rw [e] at h; cases h
  | some j =>
    rw [e] at h
    exact RDs.get r h
theorem o_ix : IxR X (LL2 (cy X E) rIx) := by
  intro value slice pins s σ H x y v u Q I rx ry ⟨d, e, al, S, kd, xd, rs, rd, re, q, up, ux⟩ hs
  cases d <;> cases e <;> try exact q.elim
  case tup.int ds i =>
    obtain ⟨z, hz, q⟩ := q
    obtain ⟨a, vs, e1, h1, r1⟩ := rd
    obtain ⟨w, hw, rw'⟩ := atI_rd r1 hz
    exact ix_tup value slice pins s σ H x y v u Q I rx ry ⟨a, vs, i, w, e1, re, h1, hw, up_at up rs rw' q⟩ hs
  case ref.int n i =>
    obtain ⟨ds, z, hl, hz, q⟩ := q
    obtain ⟨a, vs, e1, _, h1, r1⟩ := isL_at rs hl rd
    obtain ⟨w, hw, rw'⟩ := atI_rd r1 hz
    exact ix_list value slice pins s σ H x y v u Q I rx ry ⟨a, vs, i, w, e1, re, h1, hw, up_at up rs rw' q⟩ hs
  case str.int z i =>
    obtain ⟨hz, c, hc, q⟩ := q
    exact ix_str value slice pins s σ H x y v u Q I rx ry ⟨z, i, c, rd, re, hz, hc, up_at up rs (d := .str ⟨#[c]⟩) rfl q⟩ hs
theorem q_ix (ha : QE X E a ta) (hb : QE X E b tb) (hs : PlainIx b := by intro _ _; rfl) : QE X E (.Subscript a b pos) (dOp rIx ta tb) :=
  pe_imp (pe_ix o_ix ha hb hs) fun s H Q ⟨sg, al, S, kd, xd, rs, rl, q, up, ux⟩ => ⟨sg, al, S, kOp1 rIx tb sg kd xd, xd, rs, rl, q,
    fun d1 S1 al1 H1 v1 f1 r1 q1 => ⟨sg, al1, S1, kOp2 rIx kd xd d1, xd, f1.rs, f1.rsl rl, q1, fun d2 S2 al2 H2 v2 f2 r2 q2 =>
      ⟨d1, d2, al2, S2, kd, xd, f2.rs, f2.rd r1, r2, q2, up.mono (f1.trans f2), ux.mono (f1.trans f2)⟩, ux.mono f1⟩, ux⟩
abbrev QO (X : Cx) (E : XK) (e : Option Expr) (t : TOD) : Prop := PO X e (LO (cy X E) t)
theorem po_imp {e : Option Expr} {t t' : TO} (h : PO X e t) (f : ∀ s H Q, t' s H Q → t s H Q) : PO X e t' := ⟨fun pins s σ H Q I q => h.run pins s σ H Q I (f σ H Q q)⟩
theorem q_noP : QO X E none dNoP := po_imp po_none fun s H Q ⟨sg, al, S, kd, xd, rs, rl, q, up, ux⟩ => up none S al H (.now rs) q
theorem q_part (h : QE X E e te) : QO X E (some e) (dPart te) := po_imp (po_some h) fun s H Q ⟨sg, al, S, kd, xd, rs, rl, q, up, ux⟩ => ⟨sg, al, S, kPart kd, xd, rs, rl, q, fun d S1 al1 H1 v f1 r1 q1 => by
  cases d with
  | int i => exact ⟨i, r1, up (some i) S1 al1 H1 f1 q1⟩
  | _ => exact q1.elim, ux⟩
def LLsl (Y : Cy) (r : RSlD) : V → Option Int → Option Int → Hp → VK → Prop := fun x lo hi H Q => ∃ d al S kd xd, RS Y.K H al S ∧ RD Y.K H al d x ∧ r d lo hi S kd xd ∧ Up Y.K H al kd Q ∧ UpX Y H al xd
theorem cut_rd {K : PySem.W.Frag} {H : Hp} {al : List Addr} {ds : List D} {vs : List V} (r : RDs K H al ds vs) (lo hi : Option Int) : RDs K H al (cutD ds lo hi) (cutV vs lo hi) := by
  unfold cutD cutV
  rw [RDs.length r]
  exact RDs.take _ (RDs.drop _ r)
theorem o_sl : SlR X (LLsl (cy X E) rSl) := by
  intro pins s σ H x v vl vu lo hi sl Q I rx hs pl pu ⟨d, al, S, kd, xd, rs, rd, q, up, ux⟩
  cases d <;> try exact q.elim
  case tup ds =>
    obtain ⟨a, vs, e1, h1, r1⟩ := rd
    refine sl_tupA pins s σ H x v vl vu lo hi sl Q I rx hs pl pu ⟨a, vs, e1, h1, fun hw => ?_, fun hw p hp => up_tup up rs hp (cut_rd r1 lo hi) q⟩
    have e : cutD ds lo hi = ds := by
      unfold cutD
      rw [RDs.length r1] at hw
      rw [hw.1, hw.2]
      simp
    have q : kd (.tup (cutD ds lo hi)) S := q
    rw [e] at q
    exact up_at up rs (d := .tup ds) ⟨a, vs, rfl, h1, r1⟩ q
  case ref n =>
    obtain ⟨ds, hl, q⟩ := q
    obtain ⟨a, vs, e1, _, h1, r1⟩ := isL_at rs hl rd
    exact sl_list pins s σ H x v vl vu lo hi sl Q I rx hs pl pu ⟨a, vs, e1, h1, fun p hp => up_new up rs hp (cut_rd r1 lo hi) q⟩
  case str z =>
    exact sl_str pins s σ H x v vl vu lo hi sl Q I rx hs pl pu ⟨z, rd, q.1, up_at up rs (d := .str (cutS z lo hi)) rfl q.2⟩
theorem q_slice (he : QE X E e te) (hl : QO X E lo tl) (hu : QO X E hi th) : QE X E (.Subscript e (.Slice lo hi none p2) pos) (dSl te tl th) :=
  pe_imp (pe_slice (o_sl (E := E)) he hl hu) fun s H Q ⟨sg, al, S, kd, xd, rs, rl, q, up, ux⟩ => ⟨sg, al, S, kSl1 tl th sg kd xd, xd, rs, rl, q,
    fun d1 S1 al1 H1 v1 f1 r1 q1 => ⟨sg, al1, S1, kSl2 th sg kd xd d1, xd, f1.rs, f1.rsl rl, q1, fun l S2 al2 H2 f2 q2 =>
      ⟨sg, al2, S2, kSl3 kd xd d1 l, xd, f2.rs, (f1.trans f2).rsl rl, q2, fun u S3 al3 H3 f3 q3 => ⟨d1, al3, S3, kd, xd, f3.rs, (f2.trans f3).rd r1, q3, up.mono ((f1.trans f2).trans f3), ux.mono ((f1.trans f2).trans f3)⟩, ux.mono (f1.trans f2)⟩, ux.mono f1⟩, ux⟩
end

/-! ### built-ins by values -/
def spLen : SpD := fun ds S k _ => match ds with
  | [.tup xs] => k (.int xs.length) S
  | [.ref n] => ∃ xs, isL S n xs ∧ k (.int xs.length) S
  | [.str z] => z.length ≤ sizeLine ∧ k (.int z.length) S
  | _ => False
def spInt : SpD := fun ds S k _ => match ds with
  | [.int i] => k (.int i) S
  | [.bl b] => k (.int (if b then 1 else 0)) S
  | _ => False
def spTuple : SpD := fun ds S k _ => match ds with
  | [.tup xs] => k (.tup xs) S
  | [.ref n] => ∃ xs, isL S n xs ∧ k (.tup xs) S
  | _ => False
def spList : SpD := fun ds S k _ => match ds with
  | [.tup xs] => k (.ref S.length) (S ++ [.lst xs])
  | [.ref n] => ∃ xs, isL S n xs ∧ k (.ref S.length) (S ++ [.lst xs])
  | _ => False
def spAll : SpD := fun ds S k _ => match ds with
  | [.ref n] => ∃ bs : List Bool, isL S n (bs.map D.bl) ∧ k (.bl (bs.all id)) S
  | _ => False
def spAny : SpD := fun ds S k _ => match ds with
  | [.ref n] => ∃ bs : List Bool, isL S n (bs.map D.bl) ∧ k (.bl (bs.any id)) S
  | _ => False
def spSum : SpD := fun ds S k _ => match ds with
  | [.ref n] => ∃ ns : List Int, isL S n (ns.map D.int) ∧ k (.int ns.sum) S
  | _ => False
def spSorted : SpD := fun ds S k _ => match ds with
  | [.ref n] => ∃ ns : List Int, isL S n (ns.map D.int) ∧ ∀ ms : List Int, ms.Perm ns → ms.Pairwise (· ≤ ·) → k (.ref S.length) (S ++ [.lst (ms.map D.int)])
  | _ => False
def spAbs : SpD := fun ds S k _ => match ds with
  | [.int i] => k (.int (if i < 0 then -i else i)) S
  | _ => False
def spMax : SpD := fun ds S k _ => match ds with
  | [.int i, .int j] => k (.int (if j > i then j else i)) S
  | [.ref n] => ∃ ns : List Int, isL S n (ns.map D.int) ∧ 0 < ns.length ∧ ∀ m, m ∈ ns → (∀ y, y ∈ ns → y ≤ m) → k (.int m) S
  | _ => False
def spMin : SpD := fun ds S k _ => match ds with
  | [.int i, .int j] => k (.int (if j < i then j else i)) S
  | [.int i, .int j, .int l] => k (.int (if l < (if j < i then j else i) then l else if j < i then j else i)) S
  | [.ref n] => ∃ ns : List Int, isL S n (ns.map D.int) ∧ 0 < ns.length ∧ ∀ m, m ∈ ns → (∀ y, y ∈ ns → m ≤ y) → k (.int m) S
  | _ => False
section
variable {X : Cx} {E : XK} {e : Expr} {es : List Expr} {tr : TAD} {pos p : Pos}
theorem rds1 {K : PySem.W.Frag} {H : Hp} {al : List Addr} {d : D} {vs : List V} (r : RDs K H al [d] vs) : ∃ v, vs = [v] ∧ RD K H al d v := by
  obtain ⟨v, u, e, h1, h2⟩ := r
  cases (show u = [] from h2)
  exact ⟨v, e, h1⟩
theorem rds2 {K : PySem.W.Frag} {H : Hp} {al : List Addr} {d d' : D} {vs : List V} (r : RDs K H al [d, d'] vs) : ∃ v v', vs = [v, v'] ∧ RD K H al d v ∧ RD K H al d' v' := by
  obtain ⟨v, u, e, h1, h2⟩ := r
  obtain ⟨v', e', h3⟩ := rds1 h2
  subst e'
  exact ⟨v, v', e, h1, h3⟩
theorem rd_ints {K : PySem.W.Frag} {H : Hp} {al : List Addr} : ∀ {ns : List Int} {vs : List V}, RDs K H al (ns.map D.int) vs → vs = ns.map V.int
  | [], _, h => h
  | n :: ns, _, ⟨v, u, e, h1, h2⟩ => by
    rw [e, rd_ints h2, show v = .int n from h1]
    rfl
theorem ints_rd {K : PySem.W.Frag} {H : Hp} {al : List Addr} : ∀ (ns : List Int), RDs K H al (ns.map D.int) (ns.map V.int)
  | [] => rfl
  | n :: ns => ⟨_, _, rfl, rfl, ints_rd ns⟩
theorem rd_bls {K : PySem.W.Frag} {H : Hp} {al : List Addr} : ∀ {ns : List Bool} {vs : List V}, RDs K H al (ns.map D.bl) vs → vs = ns.map V.bl
  | [], _, h => h
  | n :: ns, _, ⟨v, u, e, h1, h2⟩ => by
    rw [e, rd_bls h2, show v = .bl n from h1]
    rfl
theorem c_len : CallR X (.builtin "len") (LLs (cy X E) spLen) := by
  intro pins s σ H xs us Q I r ⟨ds, al, S, kd, xd, rs, rd, q, up, ux⟩
  unfold spLen at q
  split at q
  · obtain ⟨v, e, a, vs, e2, h1, r1⟩ := rds1 rd
    subst e e2
    refine call_len_seq pins s σ H _ us Q I r ⟨a, vs, rfl, .inr h1, ?_⟩
    rw [RDs.length r1]
    exact up_at up rs (d := .int _) rfl q
  · obtain ⟨xs, hl, q⟩ := q
    obtain ⟨v, e, rv⟩ := rds1 rd
    obtain ⟨a, vs, e2, _, h1, r1⟩ := isL_at rs hl rv
    subst e e2
    refine call_len_seq pins s σ H _ us Q I r ⟨a, vs, rfl, .inl h1, ?_⟩
    rw [RDs.length r1]
    exact up_at up rs (d := .int _) rfl q
  · obtain ⟨v, e, rv⟩ := rds1 rd
    cases (show v = _ from rv)
    subst e
    exact call_len_str pins s σ H _ us Q I r ⟨_, rfl, q.1, up_at up rs (d := .int _) rfl q.2⟩
  · exact q.elim
theorem c_int : CallR X (.type "int") (LLs (cy X E) spInt) := by
  intro pins s σ H xs us Q I r ⟨ds, al, S, kd, xd, rs, rd, q, up, ux⟩
  unfold spInt at q
  split at q
  · obtain ⟨v, e, rv⟩ := rds1 rd
    cases (show v = _ from rv)
    subst e
    exact call_int1 pins s σ H _ us Q I r (.inl ⟨_, rfl, up_at up rs (d := .int _) rfl q⟩)
  · obtain ⟨v, e, rv⟩ := rds1 rd
    cases (show v = _ from rv)
    subst e
    exact call_int1 pins s σ H _ us Q I r (.inr ⟨_, rfl, up_at up rs (d := .int _) rfl q⟩)
  · exact q.elim
theorem c_tuple : CallR X (.type "tuple") (LLs (cy X E) spTuple) := by
  intro pins s σ H xs us Q I r ⟨ds, al, S, kd, xd, rs, rd, q, up, ux⟩
  unfold spTuple at q
  split at q
  · obtain ⟨v, e, a, vs, e2, h1, r1⟩ := rds1 rd
    subst e e2
    exact call_tuple_of pins s σ H _ us Q I r ⟨a, vs, rfl, .inr ⟨h1, up_at up rs (d := .tup _) ⟨a, vs, rfl, h1, r1⟩ q⟩⟩
  · obtain ⟨xs, hl, q⟩ := q
    obtain ⟨v, e, rv⟩ := rds1 rd
    obtain ⟨a, vs, e2, _, h1, r1⟩ := isL_at rs hl rv
    subst e e2
    exact call_tuple_of pins s σ H _ us Q I r ⟨a, vs, rfl, .inl ⟨h1, fun l hl => up_tup up rs hl r1 q⟩⟩
  · exact q.elim
theorem c_list : CallR X (.type "list") (LLs (cy X E) spList) := by
  intro pins s σ H xs us Q I r ⟨ds, al, S, kd, xd, rs, rd, q, up, ux⟩
  unfold spList at q
  split at q
  · obtain ⟨v, e, a, vs, e2, h1, r1⟩ := rds1 rd
    subst e e2
    exact call_list_of pins s σ H _ us Q I r ⟨a, vs, rfl, .inr h1, fun l hl => up_new up rs hl r1 q⟩
  · obtain ⟨xs, hl, q⟩ := q
    obtain ⟨v, e, rv⟩ := rds1 rd
    obtain ⟨a, vs, e2, _, h1, r1⟩ := isL_at rs hl rv
    subst e e2
    exact call_list_of pins s σ H _ us Q I r ⟨a, vs, rfl, .inl h1, fun l hl => up_new up rs hl r1 q⟩
  · exact q.elim
theorem c_all (hc : X.calm = true) : CallR X (.builtin "all") (LLs (cy X E) spAll) := by
  intro pins s σ H xs us Q I r ⟨ds, al, S, kd, xd, rs, rd, q, up, ux⟩
  unfold spAll at q
  split at q
  · obtain ⟨bs, hl, q⟩ := q
    obtain ⟨v, e, rv⟩ := rds1 rd
    obtain ⟨a, vs, e2, _, h1, r1⟩ := isL_at rs hl rv
    have e3 := rd_bls r1
    subst e e2 e3
    exact cr_all hc pins s σ H _ us Q I r ⟨a, bs, rfl, h1, up_at up rs (d := .bl _) rfl q⟩
  · exact q.elim
theorem c_any (hc : X.calm = true) : CallR X (.builtin "any") (LLs (cy X E) spAny) := by
  intro pins s σ H xs us Q I r ⟨ds, al, S, kd, xd, rs, rd, q, up, ux⟩
  unfold spAny at q
  split at q
  · obtain ⟨bs, hl, q⟩ := q
    obtain ⟨v, e, rv⟩ := rds1 rd
    obtain ⟨a, vs, e2, _, h1, r1⟩ := isL_at rs hl rv
    have e3 := rd_bls r1
    subst e e2 e3
    exact cr_any hc pins s σ H _ us Q I r ⟨a, bs, rfl, h1, up_at up rs (d := .bl _) rfl q⟩
  · exact q.elim
theorem c_sum (hc : X.calm = true) : CallR X (.builtin "sum") (LLs (cy X E) spSum) := by
  intro pins s σ H xs us Q I r ⟨ds, al, S, kd, xd, rs, rd, q, up, ux⟩
  unfold spSum at q
  split at q
  · obtain ⟨bs, hl, q⟩ := q
    obtain ⟨v, e, rv⟩ := rds1 rd
    obtain ⟨a, vs, e2, _, h1, r1⟩ := isL_at rs hl rv
    have e3 := rd_ints r1
    subst e e2 e3
    exact cr_sum hc pins s σ H _ us Q I r ⟨a, bs, rfl, h1, up_at up rs (d := .int _) rfl q⟩
  · exact q.elim
theorem c_sorted : CallR X (.builtin "sorted") (LLs (cy X E) spSorted) := by
  intro pins s σ H xs us Q I r ⟨ds, al, S, kd, xd, rs, rd, q, up, ux⟩
  unfold spSorted at q
  split at q
  · obtain ⟨bs, hl, q⟩ := q
    obtain ⟨v, e, rv⟩ := rds1 rd
    obtain ⟨a, vs, e2, _, h1, r1⟩ := isL_at rs hl rv
    have e3 := rd_ints r1
    subst e e2 e3
    exact cr_sortedI pins s σ H _ us Q I r ⟨a, bs, rfl, h1, fun ms p hp hs hn => up_new up rs hn (ints_rd ms) (q ms hp hs)⟩
  · exact q.elim
theorem c_abs : CallR X (.builtin "abs") (LLs (cy X E) spAbs) := by
  intro pins s σ H xs us Q I r ⟨ds, al, S, kd, xd, rs, rd, q, up, ux⟩
  unfold spAbs at q
  split at q
  · obtain ⟨v, e, rv⟩ := rds1 rd
    cases (show v = _ from rv)
    subst e
    exact call_abs pins s σ H _ us Q I r ⟨_, rfl, up_at up rs (d := .int _) rfl q⟩
  · exact q.elim
theorem c_max (hc : X.calm = true) : CallR X (.builtin "max") (LLs (cy X E) spMax) := by
  intro pins s σ H xs us Q I r ⟨ds, al, S, kd, xd, rs, rd, q, up, ux⟩
  unfold spMax at q
  split at q
  · obtain ⟨v, v', e, rv, rv'⟩ := rds2 rd
    cases (show v = _ from rv)
    cases (show v' = _ from rv')
    subst e
    exact call_max2 hc pins s σ H _ us Q I r ⟨_, _, rfl, up_at up rs (d := .int _) rfl q⟩
  · obtain ⟨bs, hl, h0, q⟩ := q
    obtain ⟨v, e, rv⟩ := rds1 rd
    obtain ⟨a, vs, e2, _, h1, r1⟩ := isL_at rs hl rv
    have e3 := rd_ints r1
    subst e e2 e3
    exact cr_max hc pins s σ H _ us Q I r ⟨a, bs, rfl, h1, h0, fun m hm hy => up_at up rs (d := .int m) rfl (q m hm hy)⟩
  · exact q.elim
theorem c_min (hc : X.calm = true) : CallR X (.builtin "min") (LLs (cy X E) spMin) := by
  intro pins s σ H xs us Q I r ⟨ds, al, S, kd, xd, rs, rd, q, up, ux⟩
  unfold spMin at q
  split at q
  · obtain ⟨v, v', e, rv, rv'⟩ := rds2 rd
    cases (show v = _ from rv)
    cases (show v' = _ from rv')
    subst e
    exact call_min2 hc pins s σ H _ us Q I r ⟨_, _, rfl, up_at up rs (d := .int _) rfl q⟩
  · obtain ⟨v, vs, e, rv, rt⟩ := rd
    obtain ⟨v', v'', e', rv', rv''⟩ := rds2 rt
    cases (show v = _ from rv)
    cases (show v' = _ from rv')
    cases (show v'' = _ from rv'')
    subst e'
    subst e
    have mi : ∀ i j : Int, nuMin2 (.int i) (.int j) = some (.int (if j < i then j else i)) := fun i j => by
      show some (if decide (j < i) = true then V.int j else V.int i) = _
      by_cases h : j < i <;> simp [h]
    exact call_min3Nu hc pins s σ H _ us Q I r ⟨_, _, _, _, rfl, by unfold nuMin3; rw [mi]; exact mi _ _, up_at up rs (d := .int _) rfl q⟩
  · obtain ⟨bs, hl, h0, q⟩ := q
    obtain ⟨v, e, rv⟩ := rds1 rd
    obtain ⟨a, vs, e2, _, h1, r1⟩ := isL_at rs hl rv
    have e3 := rd_ints r1
    subst e e2 e3
    exact cr_min hc pins s σ H _ us Q I r ⟨a, bs, rfl, h1, h0, fun m hm hy => up_at up rs (d := .int m) rfl (q m hm hy)⟩
  · exact q.elim
end

/-! ### methods of lists -/
abbrev RMD := D → List D → Sto → KD → XD → Prop
def rApp : RMD := fun d ds S k _ => match d, ds with
  | .ref n, [y] => ∃ xs, S[n]? = some (.lst xs) ∧ xs.length < sizeLine ∧ k .non (S.set n (.lst (xs ++ [y])))
  | _, _ => False
def rPop0 : RMD := fun d ds S k _ => match d, ds with
  | .ref n, [] => ∃ xs y, S[n]? = some (.lst xs) ∧ xs[xs.length - 1]? = some y ∧ k y (S.set n (.lst xs.dropLast))
  | _, _ => False
def rPop1 : RMD := fun d ds S k _ => match d, ds with
  | .ref n, [.int i] => ∃ xs j y, S[n]? = some (.lst xs) ∧ -(2 ^ 63) ≤ i ∧ i < 2 ^ 63 ∧ seqIndex? i xs.length = some j ∧ xs[j]? = some y ∧ k y (S.set n (.lst (xs.eraseIdx j)))
  | _, _ => False
def rRev : RMD := fun d ds S k _ => match d, ds with
  | .ref n, [] => ∃ xs, S[n]? = some (.lst xs) ∧ k .non (S.set n (.lst xs.reverse))
  | _, _ => False
def isLst (S : Sto) (d : D) : Prop := match d with
  | .ref n => ∃ ds, isL S n ds
  | _ => False
def kM2 (r : RMD) (k : KD) (x : XD) (d : D) : List D → Sto → Prop := fun ds S => r d ds S k x
def kM1 (r : RMD) (ta : TAD) (sg : Sl) (k : KD) (x : XD) : KD := fun d S => isLst S d ∧ ta sg S (kM2 r k x d) x
/-- a list's method -/
def dMet (r : RMD) (to : TED) (ta : TAD) : TED := fun sg S k x => to sg S (kM1 r ta sg k x) x
def LLm (Y : Cy) (r : RMD) : V → List V → Hp → VK → Prop := fun x vs H Q => ∃ d ds al S kd xd, RS Y.K H al S ∧ RD Y.K H al d x ∧ RDs Y.K H al ds vs ∧ r d ds S kd xd ∧ Up Y.K H al kd Q ∧ UpX Y H al xd
section
variable {X : Cx} {E : XK} {o e : Expr} {es : List Expr} {to : TED} {tr : TAD} {name : Str} {apos cpos : Pos} {id : String} {r : RMD}
theorem set_lst {K : PySem.W.Frag} {H : Hp} {al : List Addr} {S : Sto} {n : Nat} {p : Addr} {ds xs : List D} {vs : List V} (rs : RS K H al S) (h : S[n]? = some (.lst xs)) (hp : al[n]? = some p) (r : RDs K H al ds vs) : Fut K H al (upd H p (.lst vs)) al (S.set n (.lst ds)) := by
  obtain ⟨us, e1, r1⟩ := rs.ob n _ p h hp
  have kp : Keep H (upd H p (.lst vs)) := Keep.write e1 (.inl ⟨_, rfl⟩)
  refine Fut.set rs h rfl hp ⟨vs, upd_same, ?_⟩ rfl
  have := RDs.mono (t := []) kp _ _ r
  rwa [List.append_nil] at this
theorem m_app : MtR X "list.append" (LLm (cy X E) rApp) := by
  intro pins s σ H x vs v us Q I rx rv ⟨d, ds, al, S, kd, xd, rs, rd, rds, q, up, ux⟩
  unfold rApp at q
  split at q
  · obtain ⟨xs, h1, hz, q⟩ := q
    obtain ⟨a, us', e1, ha, hH, r1⟩ := lst_at rs h1 rd
    obtain ⟨y, e2, ry⟩ := rds1 rds
    exact mt_append pins s σ H x vs v us Q I rx rv ⟨a, us', y, e1, e2, hH, by rw [RDs.length r1]; exact hz, up .non _ al _ .non (set_lst rs h1 ha (RDs.append r1 (RDs.one ry))) rfl q⟩
  · exact q.elim
theorem rds_dropLast {K : PySem.W.Frag} {H : Hp} {al : List Addr} {ds : List D} {vs : List V} (r : RDs K H al ds vs) : RDs K H al ds.dropLast vs.dropLast := by
  rw [List.dropLast_eq_take, List.dropLast_eq_take, RDs.length r]
  exact RDs.take _ r
theorem rds_erase {K : PySem.W.Frag} {H : Hp} {al : List Addr} : ∀ (n : Nat) {ds : List D} {vs : List V}, RDs K H al ds vs → RDs K H al (ds.eraseIdx n) (vs.eraseIdx n)
  | _, [], _, h => by cases (show _ = [] from h); exact rfl
  | 0, d :: ds, _, ⟨v, r, e, h1, h2⟩ => by rw [e]; exact h2
  | n + 1, d :: ds, _, ⟨v, r, e, h1, h2⟩ => ⟨v, r.eraseIdx n, by rw [e]; rfl, h1, rds_erase n h2⟩
theorem m_pop0 : MtR X "list.pop" (LLm (cy X E) rPop0) := by
  intro pins s σ H x vs v us Q I rx rv ⟨d, ds, al, S, kd, xd, rs, rd, rds, q, up, ux⟩
  unfold rPop0 at q
  split at q
  · obtain ⟨xs, y, h1, hy, q⟩ := q
    obtain ⟨a, us', e1, ha, hH, r1⟩ := lst_at rs h1 rd
    obtain ⟨z, ez, rz⟩ := RDs.get r1 hy
    have f := set_lst rs h1 ha (rds_dropLast r1)
    exact mt_pop pins s σ H x vs v us Q I rx rv ⟨a, us', z, e1, rds, hH, by rw [RDs.length r1]; exact ez, up y _ al _ z f (f.rd rz) q⟩
  · exact q.elim
theorem m_pop1 : MtR X "list.pop" (LLm (cy X E) rPop1) := by
  intro pins s σ H x vs v us Q I rx rv ⟨d, ds, al, S, kd, xd, rs, rd, rds, q, up, ux⟩
  unfold rPop1 at q
  split at q
  · obtain ⟨xs, j, y, h1, i1, i2, hj, hy, q⟩ := q
    obtain ⟨a, us', e1, ha, hH, r1⟩ := lst_at rs h1 rd
    obtain ⟨z, ez, rz⟩ := RDs.get r1 hy
    obtain ⟨w, e2, rw'⟩ := rds1 rds
    cases (show w = _ from rw')
    have f := set_lst rs h1 ha (rds_erase j r1)
    exact mt_popAt pins s σ H x vs v us Q I rx rv ⟨a, us', _, j, z, e1, e2, hH, i1, i2, by rw [RDs.length r1]; exact hj, ez, up y _ al _ z f (f.rd rz) q⟩
  · exact q.elim
theorem m_rev : MtR X "list.reverse" (LLm (cy X E) rRev) := by
  intro pins s σ H x vs v us Q I rx rv ⟨d, ds, al, S, kd, xd, rs, rd, rds, q, up, ux⟩
  unfold rRev at q
  split at q
  · obtain ⟨xs, h1, q⟩ := q
    obtain ⟨a, us', e1, ha, hH, r1⟩ := lst_at rs h1 rd
    exact mt_reverse pins s σ H x vs v us Q I rx rv ⟨a, us', e1, rds, hH, up .non _ al _ .non (set_lst rs h1 ha (RDs.reverse r1)) rfl q⟩
  · exact q.elim
theorem isLst_ty {K : PySem.W.Frag} {H : Hp} {al : List Addr} {S : Sto} {d : D} {v : V} (rs : RS K H al S) (h : isLst S d) (r : RD K H al d v) : tyV K "list" v H := by
  cases d with
  | ref n =>
    obtain ⟨ds, hl⟩ := h
    obtain ⟨a, vs, e, _, h1, _⟩ := isL_at rs hl r
    subst e
    exact .inl ⟨rfl, vs, h1⟩
  | _ => exact h.elim
theorem q_met (slot : Slot "list" name id) (hty : typeOf (.builtin id) = pure (.type "method_descriptor")) (hm : MtR X id (LLm (cy X E) r)) (ho : QE X E o to) (ha : QA X E (e :: es) tr) (hbase : attributeBase o name X.env (eval o X.env) = eval o X.env := by rfl) (hfew : ((backTo cpos (starEach (e :: es) X.env)).all (fun x => !x.1) && (backToKw cpos (keywordEach [] X.env)).all (fun x => x.1.isSome) && decide ((e :: es).length + ([] : List Keyword).length + (if ([] : List Keyword).isEmpty then 0 else 1) < 30)) = true := by rfl)
    (hline : (apos.endLine == cpos.line) = true := by rfl) (hs : starEach (e :: es) X.env = (false, eval e X.env) :: starEach es X.env := by rfl) (hplain : (backTo cpos (starEach es X.env)).any (·.1) = false := by rfl) :
    QE X E (.Call (.Attribute o name apos) (e :: es) [] cpos) (dMet r to tr) :=
  pe_imp (pe_bm PySem.F.plainAttrs_list slot hty hm ho ha hbase hfew hline hs hplain) fun s H Q ⟨sg, al, S, kd, xd, rs, rl, q, up, ux⟩ => ⟨sg, al, S, kM1 r tr sg kd xd, xd, rs, rl, q, fun d S1 al1 H1 v f1 r1 q1 =>
    ⟨isLst_ty f1.rs q1.1 r1, sg, al1, S1, kM2 r kd xd d, xd, f1.rs, f1.rsl rl, q1.2, fun ds S2 al2 H2 vs f2 r2 q2 => ⟨d, ds, al2, S2, kd, xd, f2.rs, f2.rd r1, r2, q2, up.mono (f1.trans f2), ux.mono (f1.trans f2)⟩, ux.mono f1⟩, ux⟩
theorem q_met0 (slot : Slot "list" name id) (hty : typeOf (.builtin id) = pure (.type "method_descriptor")) (hm : MtR X id (LLm (cy X E) r)) (ho : QE X E o to)
    (hbase : attributeBase o name X.env (eval o X.env) = eval o X.env := by rfl) (hline : (apos.endLine == cpos.line) = true := by rfl) : QE X E (.Call (.Attribute o name apos) [] [] cpos) (dMet r to dNil) :=
  pe_imp (pe_bm0 PySem.F.plainAttrs_list slot hty hm ho hbase hline) fun s H Q ⟨sg, al, S, kd, xd, rs, rl, q, up, ux⟩ => ⟨sg, al, S, kM1 r dNil sg kd xd, xd, rs, rl, q, fun d S1 al1 H1 v f1 r1 q1 =>
    ⟨isLst_ty f1.rs q1.1 r1, d, [], al1, S1, kd, xd, f1.rs, r1, rfl, q1.2, up.mono f1, ux.mono f1⟩, ux⟩
end
end Q
namespace Q
open PySem
open Spec PyProof.Rows L2

/-! ### statements -/
def dNext : TSD := fun M sg S => M.nx sg S
def dSeq (t u : TSD) : TSD := fun M sg S => t { M with nx := u M } sg S
def kDrop (M : EndsD) (sg : Sl) : KD := fun _ S => M.nx sg S
def dDrop (te : TED) : TSD := fun M sg S => te sg S (kDrop M sg) M.ex
def dRet (te : TED) : TSD := fun M sg S => te sg S M.rt M.ex
def dRetN : TSD := fun M _ S => M.rt .non S
def kIf (t u : TSD) (M : EndsD) (sg : Sl) : Bool → Sto → Prop := fun b S => (b = true → t M sg S) ∧ (b = false → u M sg S)
def dIf (c : TTD) (t u : TSD) : TSD := fun M sg S => c sg S (kIf t u M sg) M.ex
def dNever : TSD := fun _ _ _ => False
def dBreak : TSD := fun M sg S => M.bk sg S
def dCont : TSD := fun M sg S => M.ct sg S
def kSet (i : Nat) (M : EndsD) (sg : Sl) : KD := fun d S => M.nx (sg.set i (some d)) S
def dSet (i : Nat) (te : TED) : TSD := fun M sg S => te sg S (kSet i M sg) M.ex
def kPar (i j : Nat) (M : EndsD) (sg : Sl) : List D → Sto → Prop := fun ds S => match ds with
  | [d, e] => M.nx ((sg.set i (some d)).set j (some e)) S
  | _ => False
def dPar (i j : Nat) (ta : TAD) : TSD := fun M sg S => ta sg S (kPar i j M sg) M.ex
def kPar3 (i j l : Nat) (M : EndsD) (sg : Sl) : List D → Sto → Prop := fun ds S => match ds with
  | [d, e, f] => M.nx (((sg.set i (some d)).set j (some e)).set l (some f)) S
  | _ => False
def dPar3 (i j l : Nat) (ta : TAD) : TSD := fun M sg S => ta sg S (kPar3 i j l M sg) M.ex
def kAug (i : Nat) (r : R2D) (M : EndsD) (sg : Sl) (x : D) : KD := fun y S => r x y S (kSet i M sg) M.ex
def dAug (i : Nat) (r : R2D) (te : TED) : TSD := fun M sg S => match sg[i]? with
  | some (some x) => te sg S (kAug i r M sg x) M.ex
  | _ => False
abbrev TGD := D → Sl → Sto → (Sl → Sto → Prop) → XD → Prop
def kAsg (g : TGD) (M : EndsD) (sg : Sl) : KD := fun d S => g d sg S M.nx M.ex
def dAsg (te : TED) (g : TGD) : TSD := fun M sg S => te sg S (kAsg g M sg) M.ex
def gNm (i : Nat) : TGD := fun d sg S q _ => q (sg.set i (some d)) S
abbrev TGDs := List D → Sl → Sto → (Sl → Sto → Prop) → XD → Prop
def gsNil : TGDs := fun ds sg S q _ => match ds with
  | [] => q sg S
  | _ => False
def gsCons (g : TGD) (u : TGDs) : TGDs := fun ds sg S q x => match ds with
  | d :: r => g d sg S (fun sg' S' => u r sg' S' q x) x
  | _ => False
def gTp (n : Nat) (u : TGDs) : TGD := fun d sg S q x => match d with
  | .tup ds => ds.length = n ∧ u ds sg S q x
  | _ => False
def rSet : D → D → D → Sto → (Sto → Prop) → Prop := fun o i v S q => match o, i with
  | .ref n, .int k => ∃ xs j, S[n]? = some (.lst xs) ∧ ixN xs.length k = some j ∧ q (S.set n (.lst (xs.set j v)))
  | _, _ => False
def kGs2 (o : D) (v : D) (sg : Sl) (q : Sl → Sto → Prop) : KD := fun i S => rSet o i v S (fun S' => q sg S')
def kGs1 (ti : TED) (v : D) (sg : Sl) (q : Sl → Sto → Prop) (x : XD) : KD := fun o S => ti sg S (kGs2 o v sg q) x
def gSb (to ti : TED) : TGD := fun v sg S q x => to sg S (kGs1 ti v sg q x) x
def dWhile (c : TTD) (tb : TSD) : TSD := fun M sg S => ∃ W : Nat → Sl → Sto → Prop, (∃ m, W m sg S) ∧ ∀ m sg S, W m sg S →
  c sg S (fun b S1 => (b = true → tb { M with nx := fun sg' S' => ∃ m', m' < m ∧ W m' sg' S', ct := fun sg' S' => ∃ m', m' < m ∧ W m' sg' S', bk := M.nx } sg S1) ∧ (b = false → M.nx sg S1)) M.ex
/-- what a loop walks -/
structure ItD where
  items : List D
  grd : Sto → Prop
abbrev TID := Sl → Sto → (ItD → Sto → Prop) → XD → Prop
def wFor (grd : Sto → Prop) (g : TGD) (tb : TSD) (M : EndsD) : List D → Sl → Sto → Prop
  | [], sg, S => grd S ∧ M.nx sg S
  | d :: r, sg, S => grd S ∧ g d sg S (fun sg1 S1 => tb { M with nx := wFor grd g tb M r, ct := wFor grd g tb M r, bk := M.nx } sg1 S1) M.ex
def kFor (g : TGD) (tb : TSD) (M : EndsD) (sg : Sl) : ItD → Sto → Prop := fun it S => wFor it.grd g tb M it.items sg S
def dFor (ti : TID) (g : TGD) (tb : TSD) : TSD := fun M sg S => ti sg S (kFor g tb M sg) M.ex
abbrev XF : XD := fun _ _ => False
def wipeD (sg : Sl) : List Nat → Sl
  | [] => sg
  | v :: vs => (wipeD sg vs).set v none
def kLc3 (n0 : Nat) (k : Sto → Prop) : KD := fun y S => ∃ acc, S[n0]? = some (.lst acc) ∧ acc.length < sizeLine ∧ k (S.set n0 (.lst (acc ++ [y])))
def wLc (grd : Sto → Prop) (g : TGD) (tt : TTD) (te : TED) (sg : Sl) (n0 : Nat) (k : Sto → Prop) : List D → Sto → Prop
  | [], S => grd S ∧ k S
  | d :: r, S => grd S ∧ g d sg S (fun sg1 S1 => tt sg1 S1 (fun b S2 => (b = true → te sg1 S2 (kLc3 n0 (wLc grd g tt te sg n0 k r)) XF) ∧ (b = false → wLc grd g tt te sg n0 k r S2)) XF) XF
def kLc (g : TGD) (tt : TTD) (te : TED) (sg : Sl) (k : KD) : ItD → Sto → Prop := fun it S => wLc it.grd g tt te sg S.length (fun S' => k (.ref S.length) S') it.items (S ++ [.lst []])
def dLc (ti : TID) (g : TGD) (tt : TTD) (te : TED) (vs : List Nat) : TED := fun sg S k x => ti sg S (kLc g tt te (wipeD sg vs) k) x
def dYes : TTD := fun _ S k _ => k true S

/-- an iterator walks these -/
structure ItOK (K : PySem.W.Frag) (J : It) (it : ItD) (H : Hp) (al : List Addr) : Prop where
  go : ∀ i H' al' S', Fut K H al H' al' S' → it.grd S' → i < it.items.length → J.go i H'
  yld : ∀ i d H' al' S' x H'', Fut K H al H' al' S' → it.grd S' → it.items[i]? = some d → J.yld i H' x H'' → Fut K H' al' H'' al' S' ∧ RD K H'' al' d x
  stop : ∀ H' al' S', Fut K H al H' al' S' → it.grd S' → J.stop it.items.length H'
def LI (Y : Cy) (t : TID) : TI := fun sv H R => ∃ sg al S kd xd, RS Y.K H al S ∧ RSl Y.K H al sg sv ∧ t sg S kd xd ∧ (∀ it S' al' H' J, Fut Y.K H al H' al' S' → ItOK Y.K J it H' al' → kd it S' → R J H') ∧ UpX Y H al xd
def LG (Y : Cy) (t : TGD) : TG := fun v sv H Q => ∃ d sg al S qd xd, RS Y.K H al S ∧ RSl Y.K H al sg sv ∧ RD Y.K H al d v ∧ t d sg S qd xd ∧ UpS Y.K H al qd Q ∧ UpX Y H al xd
def LGs (Y : Cy) (t : TGDs) : TGs := fun vs sv H Q => ∃ ds sg al S qd xd, RS Y.K H al S ∧ RSl Y.K H al sg sv ∧ RDs Y.K H al ds vs ∧ t ds sg S qd xd ∧ UpS Y.K H al qd Q ∧ UpX Y H al xd
abbrev QI (X : Cx) (E : XK) (tg iter : Expr) (t : TID) : Prop := PI X tg iter (LI (cy X E) t)
def WipeOK (vs : List Nat) (t : TG) : Prop := ∀ v s H Q Q', (∀ s2 H2, wipe s2 vs = wipe s vs → Q s2 H2 → Q' s2 H2) → t v s H Q → t v s H Q'
def WipesOK (vs : List Nat) (t : TGs) : Prop := ∀ v s H Q Q', (∀ s2 H2, wipe s2 vs = wipe s vs → Q s2 H2 → Q' s2 H2) → t v s H Q → t v s H Q'
/-- a target; is: the names it stores -/
def QG (X : Cx) (E : XK) (tg : Expr) (t : TGD) (tV : TG) (is : List Nat) : Prop := PG X tg tV ∧ (∀ v s H Q, LG (cy X E) t v s H Q → tV v s H Q) ∧ ∀ vs, (∀ i ∈ is, i ∈ vs) → WipeOK vs tV
def QGs (X : Cx) (E : XK) (tg : List Expr) (t : TGDs) (tV : TGs) (is : List Nat) : Prop := PGs X tg tV ∧ (∀ v s H Q, LGs (cy X E) t v s H Q → tV v s H Q) ∧ ∀ vs, (∀ i ∈ is, i ∈ vs) → WipesOK vs tV
abbrev QGp (X : Cx) (E : XK) (tg : Expr) (t : TGD) : Prop := PG X tg (LG (cy X E) t)
theorem pg_imp {X : Cx} {e : Expr} {t t' : TG} (h : PG X e t) (f : ∀ v s H Q, t' v s H Q → t v s H Q) : PG X e t' := ⟨fun pins s σ H v u Q I r q => h.run pins s σ H v u Q I r (f v σ H Q q)⟩
theorem QG.p {X : Cx} {E : XK} {tg : Expr} {t : TGD} {tV : TG} {is : List Nat} (h : QG X E tg t tV is) : QGp X E tg t := by
  obtain ⟨h1, h2, _⟩ := h
  exact pg_imp h1 h2
section
variable {X : Cx} {E : XK} {e : Expr} {te : TED} {pos : Pos} {st : Stmt} {rest a b : List Stmt} {t u : TSD}
theorem q_snil : QSs X E [] dNext := pss_imp pss_nil fun De s H ⟨sg, al, S, Dd, rs, rl, q, ue⟩ => ue.nx sg S al H s (.now rs) rl q
theorem q_scons (h1 : QS X E st t) (h2 : QSs X E rest u) : QSs X E (st :: rest) (dSeq t u) :=
  pss_imp (pss_cons h1 h2) fun De s H ⟨sg, al, S, Dd, rs, rl, q, ue⟩ => ⟨sg, al, S, { Dd with nx := u Dd }, rs, rl, q,
    ⟨fun sg1 S1 al1 H1 sv1 f1 r1 q1 => ⟨sg1, al1, S1, Dd, f1.rs, r1, q1, ue.mono f1⟩, ue.rt, ue.bk, ue.ct, ue.ex⟩⟩
theorem q_one1 (h1 : QS X E st t) : QSs X E [st] t := pss_one h1
theorem q_pass : QS X E (.Pass pos) dNext := ps_imp ps_pass fun De s H ⟨sg, al, S, Dd, rs, rl, q, ue⟩ => ue.nx sg S al H s (.now rs) rl q
theorem q_break : QS X E (.Break pos) dBreak := ps_imp ps_break fun De s H ⟨sg, al, S, Dd, rs, rl, q, ue⟩ => ue.bk sg S al H s (.now rs) rl q
theorem q_cont : QS X E (.Continue pos) dCont := ps_imp ps_continue fun De s H ⟨sg, al, S, Dd, rs, rl, q, ue⟩ => ue.ct sg S al H s (.now rs) rl q
theorem q_never : QS X E st dNever := ps_imp ps_never fun De s H ⟨sg, al, S, Dd, rs, rl, q, ue⟩ => q.elim
theorem q_snever : QSs X E rest dNever := pss_imp pss_never fun De s H ⟨sg, al, S, Dd, rs, rl, q, ue⟩ => q.elim
theorem q_expr (he : QE X E e te) (hs : swapsWith e none pos.line X.env = pure false := by rfl) : QS X E (.Expr e pos) (dDrop te) :=
  ps_imp (ps_expr he hs) fun De s H ⟨sg, al, S, Dd, rs, rl, q, ue⟩ => ⟨sg, al, S, kDrop Dd sg, Dd.ex, rs, rl, q, fun d S1 al1 H1 v f1 r1 q1 => ue.nx sg S1 al1 H1 s f1 (f1.rsl rl) q1, ue.ex⟩
theorem q_ret (he : QE X E e te) : QS X E (.Return (some e) pos) (dRet te) :=
  ps_imp (ps_ret he) fun De s H ⟨sg, al, S, Dd, rs, rl, q, ue⟩ => ⟨sg, al, S, Dd.rt, Dd.ex, rs, rl, q, ue.rt, ue.ex⟩
theorem q_retN : QS X E (.Return none pos) dRetN := ps_imp ps_retN fun De s H ⟨sg, al, S, Dd, rs, rl, q, ue⟩ => ue.rt .non S al H .non (.now rs) rfl q
theorem q_if {c : Expr} {tc : TTD} (hc : QT X E c tc) (ha : QSs X E a t) (hb : QSs X E b u) : QS X E (.If c a b pos) (dIf tc t u) :=
  ps_imp (ps_if hc ha hb) fun De s H ⟨sg, al, S, Dd, rs, rl, q, ue⟩ => ⟨sg, al, S, kIf t u Dd sg, Dd.ex, rs, rl, q, fun c S1 al1 H1 f1 q1 =>
    ite_of ⟨fun e => ⟨sg, al1, S1, Dd, f1.rs, f1.rsl rl, q1.1 e, ue.mono f1⟩, fun e => ⟨sg, al1, S1, Dd, f1.rs, f1.rsl rl, q1.2 e, ue.mono f1⟩⟩, ue.ex⟩
theorem rsl_set {K : PySem.W.Frag} {H : Hp} {al : List Addr} {sg : Sl} {sv : L2.St} {d : D} {v : V} (r : RSl K H al sg sv) (h : RD K H al d v) (i : Nat) : RSl K H al (sg.set i (some d)) (sv.set i (some v)) := by
  refine ⟨by simp [r.len], fun j e q => ?_⟩
  by_cases hj : i = j
  · subst hj
    by_cases hi : i < sg.length
    · rw [List.getElem?_set_self hi] at q
      have q' : some d = some e := Option.some.inj q
      cases q'
      exact ⟨v, by rw [List.getElem?_set_self (by rw [← r.len]; exact hi)], h⟩
    · rw [List.getElem?_eq_none (by simpa using hi)] at q
      cases q
  · rw [List.getElem?_set_ne hj] at q
    obtain ⟨w, e1, e2⟩ := r.at_ j e q
    exact ⟨w, by rw [List.getElem?_set_ne hj]; exact e1, e2⟩
theorem q_set {i : Nat} {x : Str} {pos' : Pos} (hN : X.N.Nodup) (he : QE X E e te) (hi : X.N[i]? = some x := by rfl) (hx : Loc X.env.scope x := by first | exact Or.inl rfl | exact Or.inr rfl) (hs : swapsWith e (some (.Name x pos')) pos.line X.env = pure false := by rfl)
    (hf : X.fn x = true ∨ X.env.scope.names.lookup x = some .local := by first | exact .inl rfl | exact .inr rfl) : QS X E (.Assign [.Name x pos'] e pos) (dSet i te) :=
  ps_imp (ps_set hN hi hx he hs hf) fun De s H ⟨sg, al, S, Dd, rs, rl, q, ue⟩ => ⟨sg, al, S, kSet i Dd sg, Dd.ex, rs, rl, q, fun d S1 al1 H1 v f1 r1 q1 => ue.nx _ S1 al1 H1 _ f1 (rsl_set (f1.rsl rl) r1 i) q1, ue.ex⟩
theorem q_par {i j : Nat} {x y : Str} {ea eb : Expr} {ta : TAD} {px py pt : Pos} {kt k2 : Nat} {pt2 : Pos} (hc : X.calm = true) (hN : X.N.Nodup) (ha : QA X E [ea, eb] ta)
    (hi : X.N[i]? = some x := by rfl) (hj : X.N[j]? = some y := by rfl) (hij : i ≠ j := by decide) (hx : X.env.scope.names.lookup x = some .local := by rfl) (hy : X.env.scope.names.lookup y = some .local := by rfl)
    (hw : swappedStores [.Tuple [.Name x px, .Name y py] kt pt] (.Tuple [ea, eb] k2 pt2) X.env = pure (some [x, y]) := by rfl)
    (hs : swapsWithSole [.Tuple [.Name x px, .Name y py] kt pt] (.Tuple [ea, eb] k2 pt2) pos.line X.env = pure false := by rfl) :
    QS X E (.Assign [.Tuple [.Name x px, .Name y py] kt pt] (.Tuple [ea, eb] k2 pt2) pos) (dPar i j ta) :=
  ps_imp (ps_par hc hN hi hj hij hx hy ha hw hs) fun De s H ⟨sg, al, S, Dd, rs, rl, q, ue⟩ => ⟨sg, al, S, kPar i j Dd sg, Dd.ex, rs, rl, q, fun ds S1 al1 H1 vs f1 r1 q1 => by
    unfold kPar at q1
    split at q1
    · obtain ⟨v, w, e, r2, r3⟩ := rds2 r1
      exact ⟨v, w, e, ue.nx _ S1 al1 H1 _ f1 (rsl_set (rsl_set (f1.rsl rl) r2 i) r3 j) q1⟩
    · exact q1.elim, ue.ex⟩
theorem rds3 {K : PySem.W.Frag} {H : Hp} {al : List Addr} {d d' d'' : D} {vs : List V} (r : RDs K H al [d, d', d''] vs) : ∃ v v' v'', vs = [v, v', v''] ∧ RD K H al d v ∧ RD K H al d' v' ∧ RD K H al d'' v'' := by
  obtain ⟨v, u, e, h1, h2⟩ := r
  obtain ⟨v', v'', e', h3, h4⟩ := rds2 h2
  subst e'
  exact ⟨v, v', v'', e, h1, h3, h4⟩
theorem q_par3 {i j l : Nat} {x y z : Str} {ea eb ec : Expr} {ta : TAD} {px py pz pt : Pos} {kt k2 : Nat} {pt2 : Pos} (hc : X.calm = true) (hN : X.N.Nodup) (ha : QA X E [ea, eb, ec] ta)
    (hi : X.N[i]? = some x := by rfl) (hj : X.N[j]? = some y := by rfl) (hl : X.N[l]? = some z := by rfl) (hij : i ≠ j := by decide) (hil : i ≠ l := by decide) (hjl : j ≠ l := by decide) (hx : X.env.scope.names.lookup x = some .local := by rfl) (hy : X.env.scope.names.lookup y = some .local := by rfl) (hz : X.env.scope.names.lookup z = some .local := by rfl)
    (hw : swappedStores [.Tuple [.Name x px, .Name y py, .Name z pz] kt pt] (.Tuple [ea, eb, ec] k2 pt2) X.env = pure (some [x, y, z]) := by rfl)
    (hs : swapsWithSole [.Tuple [.Name x px, .Name y py, .Name z pz] kt pt] (.Tuple [ea, eb, ec] k2 pt2) pos.line X.env = pure false := by rfl) :
    QS X E (.Assign [.Tuple [.Name x px, .Name y py, .Name z pz] kt pt] (.Tuple [ea, eb, ec] k2 pt2) pos) (dPar3 i j l ta) :=
  ps_imp (ps_par3 hc hN hi hj hl hij hil hjl hx hy hz ha hw hs) fun De s H ⟨sg, al, S, Dd, rs, rl, q, ue⟩ => ⟨sg, al, S, kPar3 i j l Dd sg, Dd.ex, rs, rl, q, fun ds S1 al1 H1 vs f1 r1 q1 => by
    unfold kPar3 at q1
    split at q1
    · obtain ⟨v, w, z, e, r2, r3, r4⟩ := rds3 r1
      exact ⟨v, w, z, e, ue.nx _ S1 al1 H1 _ f1 (rsl_set (rsl_set (rsl_set (f1.rsl rl) r2 i) r3 j) r4 l) q1⟩
    · exact q1.elim, ue.ex⟩
theorem q_aug {i : Nat} {x : Str} {op : Operator} {r : R2D} {pos' : Pos} (hN : X.N.Nodup) (ho : OpR X (inplaceOp op) (LL2 (cy X E) r)) (he : QE X E e te) (hi : X.N[i]? = some x := by rfl) (hx : Loc X.env.scope x := by first | exact Or.inl rfl | exact Or.inr rfl)
    (hf : X.fn x = true ∨ X.env.scope.names.lookup x = some .local := by first | exact .inl rfl | exact .inr rfl) : QS X E (.AugAssign (.Name x pos') op e pos) (dAug i r te) := by
  have hp : PIp X op (LL2 (cy X E) r) := fun pins s σ H x y v u Q I r1 r2 h => ho pins s σ H x y v u Q I r1 r2 h
  refine ps_imp (ps_aug hN hi hx he hp hf) fun De s H ⟨sg, al, S, Dd, rs, rl, q, ue⟩ => ?_
  unfold dAug at q
  split at q
  · rename_i d hd
    obtain ⟨v, e1, r1⟩ := rl.at_ i d hd
    exact ⟨v, e1, sg, al, S, kAug i r Dd sg d, Dd.ex, rs, rl, q, fun d2 S2 al2 H2 v2 f2 r2 q2 => ⟨d, d2, al2, S2, kSet i Dd sg, Dd.ex, f2.rs, f2.rd r1, r2, q2,
      fun d3 S3 al3 H3 v3 f3 r3 q3 => ue.nx _ S3 al3 H3 _ (f2.trans f3) (rsl_set ((f2.trans f3).rsl rl) r3 i) q3, ue.ex.mono f2⟩, ue.ex⟩
  · exact q.elim

/-! ### targets -/
theorem wipe_set_in {s : L2.St} {i : Nat} {v : Option V} : ∀ {vs : List Nat}, i ∈ vs → wipe (s.set i v) vs = wipe s vs := by
  have key : ∀ (vs : List Nat) (j : Nat), (wipe (s.set i v) vs)[j]? = if j = i ∧ i ∉ vs then (s.set i v)[j]? else (wipe s vs)[j]? := by
    intro vs
    induction vs with
    | nil =>
      intro j
      show (s.set i v)[j]? = _
      by_cases hj : j = i
      · rw [if_pos ⟨hj, by simp⟩]
      · rw [if_neg (fun z => hj z.1)]
        show (s.set i v)[j]? = s[j]?
        rw [List.getElem?_set_ne (Ne.symm hj)]
    | cons w vs ih =>
      intro j
      show ((wipe (s.set i v) vs).set w none)[j]? = if j = i ∧ i ∉ w :: vs then (s.set i v)[j]? else ((wipe s vs).set w none)[j]?
      have hl : (wipe (s.set i v) vs).length = (wipe s vs).length := by rw [wipe_length, wipe_length, List.length_set]
      by_cases hw : w = j
      · subst hw
        rw [if_neg (fun z => z.2 (by rw [z.1]; exact List.mem_cons_self))]
        by_cases hb : w < (wipe s vs).length
        · rw [List.getElem?_set_self hb, List.getElem?_set_self (by rw [hl]; exact hb)]
        · rw [List.getElem?_eq_none (by rw [List.length_set]; omega), List.getElem?_eq_none (by rw [List.length_set]; omega)]
      · rw [List.getElem?_set_ne hw, List.getElem?_set_ne hw, ih j]
        by_cases hj : j = i
        · subst hj
          by_cases hm : j ∈ vs
          · rw [if_neg (fun z => z.2 hm), if_neg (fun z => z.2 (List.mem_cons_of_mem _ hm))]
          · rw [if_pos ⟨rfl, hm⟩, if_pos ⟨rfl, fun z => (List.mem_cons.mp z).elim (fun e => hw e.symm) hm⟩]
        · rw [if_neg (fun z => hj z.1), if_neg (fun z => hj z.1)]
  intro vs hi
  refine List.ext_getElem? fun j => ?_
  rw [key vs j, if_neg (fun z => z.2 hi)]
theorem wipe_get (s : L2.St) : ∀ (vs : List Nat) (j : Nat), (wipe s vs)[j]? = if j ∈ vs then (s[j]?).map (fun _ => none) else s[j]?
  | [], j => by rw [if_neg (by simp)]; rfl
  | w :: vs, j => by
    show ((wipe s vs).set w none)[j]? = _
    by_cases hw : w = j
    · subst hw
      rw [if_pos List.mem_cons_self]
      by_cases hb : w < s.length
      · rw [List.getElem?_set_self (by rw [wipe_length]; exact hb), List.getElem?_eq_getElem hb]
        rfl
      · rw [List.getElem?_eq_none (by rw [List.length_set, wipe_length]; omega), List.getElem?_eq_none (by omega)]
        rfl
    · rw [List.getElem?_set_ne hw, wipe_get s vs j]
      by_cases hm : j ∈ vs
      · rw [if_pos hm, if_pos (List.mem_cons_of_mem _ hm)]
      · rw [if_neg hm, if_neg (fun z => (List.mem_cons.mp z).elim (fun e => hw e.symm) hm)]
theorem wipe_wipe (s : L2.St) (vs : List Nat) : wipe (wipe s vs) vs = wipe s vs := by
  refine List.ext_getElem? fun j => ?_
  rw [wipe_get, wipe_get]
  by_cases hm : j ∈ vs
  · rw [if_pos hm, if_pos hm]
    cases s[j]? <;> rfl
  · rw [if_neg hm, if_neg hm]
theorem q_gnm {i : Nat} {x : Str} (hN : X.N.Nodup) (hi : X.N[i]? = some x := by rfl) (hx : Loc X.env.scope x := by first | exact Or.inl rfl | exact Or.inr rfl) (hf : X.fn x = true ∨ X.env.scope.names.lookup x = some .local := by first | exact .inl rfl | exact .inr rfl) :
    QG X E (.Name x pos) (gNm i) (gName i) [i] :=
  ⟨pg_name hN hi hx hf, fun v s H Q ⟨d, sg, al, S, qd, xd, rs, rl, rd, q, up, ux⟩ => up _ S al H _ (.now rs) (rsl_set rl rd i) q, fun vs hv v s H Q Q' f q => f _ _ (wipe_set_in (hv i (by simp))) q⟩
variable {es : List Expr} {tg : Expr} {g : TGD} {gs : TGDs} {is js : List Nat} {tV : TG} {tVs : TGs}
theorem q_gsnil : QGs X E [] gsNil gNil [] :=
  ⟨pgs_nil, fun vs s H Q ⟨d, sg, al, S, qd, xd, rs, rl, rd, q, up, ux⟩ => by
    cases d with
    | nil => exact ⟨rd, up sg S al H s (.now rs) rl q⟩
    | cons _ _ => exact q.elim, fun vs hv v s H Q Q' f q => ⟨q.1, f _ _ rfl q.2⟩⟩
theorem q_gscons (h1 : QG X E tg g tV is) (h2 : QGs X E es gs tVs js) (hs : (assignEach (tg :: es) X.env).map (·.2) = assign tg X.env :: (assignEach es X.env).map (·.2) := by rfl) : QGs X E (tg :: es) (gsCons g gs) (gCons tV tVs) (is ++ js) := by
  obtain ⟨p1, l1, w1⟩ := h1
  obtain ⟨p2, l2, w2⟩ := h2
  refine ⟨pgs_cons p1 p2 hs, fun vs s H Q ⟨d, sg, al, S, qd, xd, rs, rl, rd, q, up, ux⟩ => ?_, fun vs hv v s H Q Q' f q => ?_⟩
  · cases d with
    | nil => exact q.elim
    | cons d r =>
      obtain ⟨v, u, e, r1, r2⟩ := rd
      exact ⟨v, u, e, l1 _ _ _ _ ⟨d, sg, al, S, _, xd, rs, rl, r1, q, fun sg1 S1 al1 H1 sv1 f1 rl1 q1 => l2 _ _ _ _ ⟨r, sg1, al1, S1, qd, xd, f1.rs, rl1, f1.rds r2, q1, up.mono f1, ux.mono f1⟩, ux⟩⟩
  · obtain ⟨a, r, e, q⟩ := q
    refine ⟨a, r, e, w1 vs (fun i hi => hv i (List.mem_append_left _ hi)) _ _ _ _ _ (fun s2 H2 e2 q2 => ?_) q⟩
    exact w2 vs (fun i hi => hv i (List.mem_append_right _ hi)) _ _ _ _ _ (fun s3 H3 e3 q3 => f s3 H3 (e3.trans e2) q3) q2
theorem q_gtp {k n : Nat} (hc : X.calm = true) (h : QGs X E es gs tVs is) (hn : (assignEach es X.env).length = n := by rfl) (hst : (assignEach es X.env).findIdx? (·.1) = none := by rfl) : QG X E (.Tuple es k pos) (gTp n gs) (gTup X.K n tVs) is := by
  obtain ⟨p1, l1, w1⟩ := h
  refine ⟨pg_tup hc p1 hn hst, fun v s H Q ⟨d, sg, al, S, qd, xd, rs, rl, rd, q, up, ux⟩ => ?_, fun vs hv v s H Q Q' f q => ?_⟩
  · cases d <;> try exact q.elim
    case tup ds =>
      obtain ⟨a, vs, e, h1, r1⟩ := rd
      exact ⟨a, vs, e, h1, by rw [RDs.length r1]; exact q.1, l1 _ _ _ _ ⟨ds, sg, al, S, qd, xd, rs, rl, r1, q.2, up, ux⟩⟩
  · obtain ⟨a, xs, e, h1, h2, q⟩ := q
    exact ⟨a, xs, e, h1, h2, w1 vs hv _ _ _ _ _ f q⟩
theorem q_gsb {o i : Expr} {to ti : TED} (ho : QE X E o to) (hi : QE X E i ti) (ha : ∀ v, assign (.Subscript o i pos) X.env v = (do
      let b ← holding [v] (eval o X.env)
      let c ← holding [v, b] (eval i X.env)
      standAt pos; holding [v, b, c] (setItem b c v); release [v, b, c] []) := by intro _; rfl) : QGp X E (.Subscript o i pos) (gSb to ti) := by
  refine pg_imp (pg_sub ho hi set_list ha) fun v s H Q ⟨d, sg, al, S, qd, xd, rs, rl, rd, q, up, ux⟩ => ?_
  refine ⟨sg, al, S, _, xd, rs, rl, q, fun d1 S1 al1 H1 v1 f1 r1 q1 => ⟨sg, al1, S1, _, xd, f1.rs, f1.rsl rl, q1, fun d2 S2 al2 H2 v2 f2 r2 q2 => ?_, ux.mono f1⟩, ux⟩
  have q2 : rSet d1 d2 d S2 (fun S' => qd sg S') := q2
  unfold rSet at q2
  split at q2
  · obtain ⟨xs, j, h1, hj, q2⟩ := q2
    obtain ⟨a, vs, e1, ha1, e2, r3⟩ := lst_at f2.rs h1 (f2.rd r1)
    have f3 := set_lst f2.rs h1 ha1 (RDs.set j r3 ((f1.trans f2).rd rd))
    exact ⟨a, vs, _, j, e1, r2, e2, by rw [RDs.length r3]; exact hj, up sg _ al2 _ s ((f1.trans f2).trans f3) (((f1.trans f2).trans f3).rsl rl) q2⟩
  · exact q2.elim
theorem q_asg (he : QE X E e te) (hg : QGp X E tg g) (hs : swapsWithSole [tg] e pos.line X.env = pure false := by rfl) (hw : swappedStores [tg] e X.env = pure none := by rfl)
    (h1 : (assignEach [tg] X.env).map (·.2) = [assign tg X.env] := by rfl) : QS X E (.Assign [tg] e pos) (dAsg te g) :=
  ps_imp (ps_asg he hg hs hw h1) fun De s H ⟨sg, al, S, Dd, rs, rl, q, ue⟩ => ⟨sg, al, S, kAsg g Dd sg, Dd.ex, rs, rl, q, fun d S1 al1 H1 v f1 r1 q1 =>
    ⟨d, sg, al1, S1, Dd.nx, Dd.ex, f1.rs, f1.rsl rl, r1, q1, ue.nx.mono f1, ue.ex.mono f1⟩, ue.ex⟩

/-! ### loops -/
theorem q_while {c : Expr} {body : List Stmt} {tc : TTD} {tb : TSD} (hp : PassesOwn (model X.prog X.w) X.A X.env X.xe) (hc : QT X E c tc) (hb : QSs X E body tb) : QS X E (.While c body [] pos) (dWhile tc tb) := by
  refine ps_imp (ps_while hp hc hb) fun De s H ⟨sg, al, S, Dd, rs, rl, q, ue⟩ => ?_
  obtain ⟨W, ⟨m0, w0⟩, turn⟩ := q
  refine ⟨fun m sv H' => ∃ sg' al' S', Fut X.K H al H' al' S' ∧ RSl X.K H' al' sg' sv ∧ W m sg' S', ⟨m0, sg, al, S, .now rs, rl, w0⟩, ?_⟩
  rintro m sv H1 ⟨sg1, al1, S1, f1, rl1, w1⟩
  refine ⟨sg1, al1, S1, _, Dd.ex, f1.rs, rl1, turn m sg1 S1 w1, fun b S2 al2 H2 f2 q2 => ite_of ⟨fun e => ?_, fun e => ?_⟩, ue.ex.mono f1⟩
  · refine ⟨fun sv' H' => ∃ m', m' < m ∧ ∃ sg' al' S', Fut X.K H al H' al' S' ∧ RSl X.K H' al' sg' sv' ∧ W m' sg' S', fun sv' H' h => h, ?_⟩
    have up : UpS X.K H2 al2 (fun sg' S' => ∃ m', m' < m ∧ W m' sg' S') (fun sv' H' => ∃ m', m' < m ∧ ∃ sg' al' S', Fut X.K H al H' al' S' ∧ RSl X.K H' al' sg' sv' ∧ W m' sg' S') :=
      fun sg3 S3 al3 H3 sv3 f3 r3 ⟨m', hm, w3⟩ => ⟨m', hm, sg3, al3, S3, (f1.trans f2).trans f3, r3, w3⟩
    exact ⟨sg1, al2, S2, _, f2.rs, f2.rsl rl1, q2.1 e, ⟨up, ue.rt.mono (f1.trans f2), ue.nx.mono (f1.trans f2), up, ue.ex.mono (f1.trans f2)⟩⟩
  · exact ue.nx sg1 S2 al2 H2 sv (f1.trans f2) (f2.rsl rl1) (q2.2 e)
theorem q_for {iter : Expr} {body : List Stmt} {ti : TID} {tb : TSD} (hp : PassesOwn (model X.prog X.w) X.A X.env X.xe) (hc : X.calm = true) (hi : QI X E tg iter ti) (hg : QG X E tg g tV is) (hb : QSs X E body tb)
    (hs : ∀ x, foldedSetIterable iter X.env x = pure x := by intro _; rfl) : QS X E (.For tg iter body [] pos) (dFor ti g tb) := by
  refine ps_imp (ps_for hp hc hi hg.p hb hs) fun De s H ⟨sg, al, S, Dd, rs, rl, q, ue⟩ => ?_
  refine ⟨sg, al, S, kFor g tb Dd sg, Dd.ex, rs, rl, q, fun it S1 al1 H1 J f1 iok q1 => ?_, ue.ex⟩
  have q1 : wFor it.grd g tb Dd it.items sg S1 := q1
  refine ⟨fun i m sv H' => ∃ sg' al' S', Fut X.K H1 al1 H' al' S' ∧ RSl X.K H' al' sg' sv ∧ wFor it.grd g tb Dd (it.items.drop i) sg' S' ∧ m = it.items.length - i ∧ i ≤ it.items.length, ⟨it.items.length, sg, al1, S1, .now f1.rs, f1.rsl rl, q1, by simp, Nat.zero_le _⟩, ?_⟩
  rintro i m sv H2 ⟨sg2, al2, S2, f2, rl2, w2, rfl, hi⟩
  by_cases hlt : i < it.items.length
  · rw [List.drop_eq_getElem_cons hlt] at w2
    obtain ⟨gr, w2⟩ := w2
    refine .inr ⟨iok.go i H2 al2 S2 f2 gr hlt, fun sv' H' => ∃ m', m' < it.items.length - i ∧ ∃ sg' al' S', Fut X.K H1 al1 H' al' S' ∧ RSl X.K H' al' sg' sv' ∧ wFor it.grd g tb Dd (it.items.drop (i + 1)) sg' S' ∧ m' = it.items.length - (i + 1) ∧ i + 1 ≤ it.items.length, fun sv' H' h => h, fun x H' hy => ?_⟩
    obtain ⟨f3, r3⟩ := iok.yld i _ H2 al2 S2 x H' f2 gr (List.getElem?_eq_getElem hlt) hy
    refine ⟨_, sg2, al2, S2, _, Dd.ex, f3.rs, f3.rsl rl2, r3, w2, fun sg4 S4 al4 H4 sv4 f4 rl4 q4 => ?_, ue.ex.mono ((f1.trans f2).trans f3)⟩
    have f := (f2.trans f3).trans f4
    have up : UpS X.K H4 al4 (wFor it.grd g tb Dd (it.items.drop (i + 1))) (fun sv' H' => ∃ m', m' < it.items.length - i ∧ ∃ sg' al' S', Fut X.K H1 al1 H' al' S' ∧ RSl X.K H' al' sg' sv' ∧ wFor it.grd g tb Dd (it.items.drop (i + 1)) sg' S' ∧ m' = it.items.length - (i + 1) ∧ i + 1 ≤ it.items.length) :=
      fun sg5 S5 al5 H5 sv5 f5 r5 q5 => ⟨it.items.length - (i + 1), by omega, sg5, al5, S5, f.trans f5, r5, q5, rfl, hlt⟩
    exact ⟨sg4, al4, S4, _, f4.rs, rl4, q4, ⟨up, ue.rt.mono (f1.trans f), ue.nx.mono (f1.trans f), up, ue.ex.mono (f1.trans f)⟩⟩
  · have e : i = it.items.length := by omega
    subst e
    rw [List.drop_length] at w2
    obtain ⟨gr, w2⟩ := w2
    exact .inl ⟨iok.stop H2 al2 S2 f2 gr, ue.nx sg2 S2 al2 H2 sv (f1.trans f2) rl2 w2⟩

/-! ### what is walked -/
def iSq (te : TED) : TID := fun sg S k x => te sg S (fun d S' => match d with
  | .tup ds => k ⟨ds, fun _ => True⟩ S'
  | .ref n => ∃ ds, isL S' n ds ∧ k ⟨ds, fun S => isL S n ds⟩ S'
  | .str z => k ⟨z.cps.toList.map fun c => D.str ⟨#[c]⟩, fun _ => True⟩ S'
  | _ => False) x
def iSeqV (K : PySem.W.Frag) (tl : TE) : TI := fun σ H R => tl σ H fun x H1 => (∃ a, x = .ref a ∧ (∃ xs, SqL K H1 a xs) ∧ R (Itl K a) H1) ∨ (∃ a, x = .ref a ∧ (∃ xs, SqT K H1 a xs) ∧ R (Itt K a) H1) ∨ (∃ z, x = .str z ∧ R (Its z) H1)
theorem pi_seqV {l : Expr} {tl : TE} (hl : PE X l tl) : PI X tg l (iSeqV X.K tl) := by
  constructor
  intro pins s σ H R I h
  refine thn (hl.run pins s σ H _ I h) ?_
  rintro v s1 ⟨x, H1, I1, r1, q1⟩
  have fresh : ∀ b, b ∈ [s1.heap.objs.size] → _ := fun b hb => (show b = s1.heap.objs.size by simpa using hb) ▸ I1.fpOk (Nat.le_refl _) (I1.hok.fresh (Nat.le_refl _))
  have kept := fun (o : Obj) => I1.kept (t' := s1.toks) fun b u (e : s1.heap.get? b = some u) => Heap.get?_push_of_some o e
  obtain ⟨a, rfl, ⟨xs, hq⟩, q⟩ | ⟨a, rfl, ⟨xs, hq⟩, q⟩ | ⟨z, rfl, q⟩ := q1
  · cases r1
    obtain ⟨its, _, p, _⟩ := I1.list hq
    exact wpAny_pyIter_list p.isList ⟨_, [_], _, _, H1, rfl, kept _, turn_list a _, ⟨_, Heap.get?_push_size _ rfl, rfl, rfl⟩, fresh, q⟩
  · cases r1
    obtain ⟨its, _, p, _⟩ := I1.tuple hq
    exact wpAny_pyIter_tuple (show s1.heap.IsTuple a its.toArray from p) ⟨_, [_], _, _, H1, rfl, kept _, turn_tuple a _, ⟨_, Heap.get?_push_size _ rfl, rfl, rfl⟩, fresh, q⟩
  · obtain ⟨t, rfl⟩ := r1
    cases hz : z.cps.all (· < 128) with
    | false => exact wpAny_pyIter_wide hz (pi_one (tk := s1.toks) I1 _ (turn_str _ z t "str_iterator" (.inr rfl)) ⟨_, Heap.get?_push_size _ rfl, rfl, rfl⟩ q)
    | true => exact wpAny_pyIter_ascii hz (pi_one (tk := s1.toks) I1 _ (turn_str _ z t "str_ascii_iterator" (.inl rfl)) ⟨_, Heap.get?_push_size _ rfl, rfl, rfl⟩ q)
theorem fut_same {K : PySem.W.Frag} {H H' H'' : Hp} {al al' : List Addr} {S' : Sto} (f : Fut K H al H' al' S') (e : H'' = H') : Fut K H' al' H'' al' S' := by
  subst e
  exact .now f.rs
theorem pi_imp {l : Expr} {t t' : TI} (h : PI X tg l t) (f : ∀ s H R, t' s H R → t s H R) : PI X tg l t' := ⟨fun pins s σ H R I q => h.run pins s σ H R I (f σ H R q)⟩
theorem isL_sq {K : PySem.W.Frag} {H : Hp} {al : List Addr} {S : Sto} {n : Nat} {ds : List D} {a : Addr} (rs : RS K H al S) (h : isL S n ds) (ha : al[n]? = some a) : ∃ vs, SqL K H a vs ∧ RDs K H al ds vs := by
  obtain ⟨b, vs, e, hb, h1, r1⟩ := isL_at rs h (v := .ref a) ⟨a, rfl, ha⟩
  cases e
  exact ⟨vs, h1, r1⟩
theorem getExt {al al' : List Addr} {K : PySem.W.Frag} {H H' : Hp} {S' : Sto} (f : Fut K H al H' al' S') {n : Nat} {a : Addr} (h : al[n]? = some a) : al'[n]? = some a := by
  obtain ⟨t, e⟩ := f.ext
  subst e
  exact getE h
theorem it_tup {K : PySem.W.Frag} {H : Hp} {al : List Addr} {a : Addr} {ds : List D} {vs : List V} (h : SqT K H a vs) (r : RDs K H al ds vs) : ItOK K (Itt K a) ⟨ds, fun _ => True⟩ H al where
  go := fun i H' al' S' f _ hi => by
    have r' := f.rds r
    have hl : i < vs.length := by rw [RDs.length r]; exact hi
    exact ⟨vs, vs[i], sqt_keep f.keep h, List.getElem?_eq_getElem hl⟩
  yld := fun i d H' al' S' x H'' f _ hd hy => by
    obtain ⟨e, hy⟩ := hy
    refine ⟨fut_same f e, ?_⟩
    subst e
    obtain ⟨v, hv, rv⟩ := RDs.get (f.rds r) hd
    have := hy vs (sqt_keep f.keep h)
    rw [hv] at this
    cases this
    exact rv
  stop := fun H' al' S' f _ => ⟨vs, sqt_keep f.keep h, by rw [RDs.length r]; exact Nat.le_refl _⟩
theorem it_lst {K : PySem.W.Frag} {H : Hp} {al : List Addr} {a : Addr} {n : Nat} {ds : List D} (ha : al[n]? = some a) : ItOK K (Itl K a) ⟨ds, fun S => isL S n ds⟩ H al where
  go := fun i H' al' S' f g hi => by
    obtain ⟨vs, h1, r1⟩ := isL_sq f.rs g (getExt f ha)
    have hl : i < vs.length := by rw [RDs.length r1]; exact hi
    exact ⟨vs, vs[i], h1, List.getElem?_eq_getElem hl⟩
  yld := fun i d H' al' S' x H'' f g hd hy => by
    obtain ⟨e, hy⟩ := hy
    refine ⟨fut_same f e, ?_⟩
    subst e
    obtain ⟨vs, h1, r1⟩ := isL_sq f.rs g (getExt f ha)
    obtain ⟨v, hv, rv⟩ := RDs.get r1 hd
    have := hy vs h1
    rw [hv] at this
    cases this
    exact rv
  stop := fun H' al' S' f g => by
    obtain ⟨vs, h1, r1⟩ := isL_sq f.rs g (getExt f ha)
    exact ⟨vs, h1, by rw [RDs.length r1]; exact Nat.le_refl _⟩
theorem it_str {K : PySem.W.Frag} {H : Hp} {al : List Addr} {z : Str} : ItOK K (Its z) ⟨z.cps.toList.map fun c => D.str ⟨#[c]⟩, fun _ => True⟩ H al where
  go := fun i H' al' S' f g hi => by
    have hi : i < (z.cps.toList.map fun c => D.str ⟨#[c]⟩).length := hi
    rw [List.length_map] at hi
    exact hi
  yld := fun i d H' al' S' x H'' f g hd hy => by
    obtain ⟨e, c, hc, hy⟩ := hy
    refine ⟨fut_same f e, ?_⟩
    have hd : (z.cps.toList.map fun c => D.str ⟨#[c]⟩)[i]? = some d := hd
    rw [List.getElem?_map, Array.getElem?_toList, hc] at hd
    cases hd
    exact hy
  stop := fun H' al' S' f g => by
    show z.cps.size ≤ (z.cps.toList.map fun c => D.str ⟨#[c]⟩).length
    rw [List.length_map]
    exact Nat.le_refl _
theorem it_rng {K : PySem.W.Frag} {H : Hp} {al : List Addr} {lo : Int} {n : Nat} : ItOK K (Itr lo n) ⟨(List.range n).map fun i => D.int (lo + (i : Nat)), fun _ => True⟩ H al where
  go := fun i H' al' S' f g hi => by
    have hi : i < ((List.range n).map fun i => D.int (lo + (i : Nat))).length := hi
    rw [List.length_map, List.length_range] at hi
    exact hi
  yld := fun i d H' al' S' x H'' f g hd hy => by
    obtain ⟨e, hy⟩ := hy
    refine ⟨fut_same f e, ?_⟩
    have hd : ((List.range n).map fun i => D.int (lo + (i : Nat)))[i]? = some d := hd
    have hl := (List.getElem?_eq_some_iff.mp hd).1
    rw [List.length_map, List.length_range] at hl
    rw [List.getElem?_map, List.getElem?_range hl] at hd
    cases hd
    exact hy
  stop := fun H' al' S' f g => by
    show n ≤ ((List.range n).map fun i => D.int (lo + (i : Nat))).length
    rw [List.length_map, List.length_range]
    exact Nat.le_refl _
theorem q_iSq (he : QE X E e te) : QI X E tg e (iSq te) :=
  pi_imp (pi_seqV he) fun s H R ⟨sg, al, S, kd, xd, rs, rl, q, up, ux⟩ => ⟨sg, al, S, _, xd, rs, rl, q, fun d S1 al1 H1 v f1 r1 q1 => by
    cases d <;> try exact q1.elim
    case tup ds =>
      obtain ⟨a, vs, e, h1, r1⟩ := r1
      exact .inr (.inl ⟨a, e, ⟨vs, h1⟩, up _ S1 al1 H1 _ f1 (it_tup h1 r1) q1⟩)
    case ref n =>
      obtain ⟨ds, hl, q1⟩ := q1
      obtain ⟨a, vs, e, ha, h1, r2⟩ := isL_at f1.rs hl r1
      exact .inl ⟨a, e, ⟨vs, h1⟩, up _ S1 al1 H1 _ f1 (it_lst ha) q1⟩
    case str z =>
      exact .inr (.inr ⟨z, r1, up _ S1 al1 H1 _ f1 it_str q1⟩), ux⟩
def kRg1 (k : ItD → Sto → Prop) : List D → Sto → Prop := fun ds S => match ds with
  | [.int j] => -(2 ^ 62) ≤ j ∧ j < 2 ^ 62 ∧ k ⟨(List.range j.toNat).map fun i => D.int (0 + (i : Nat)), fun _ => True⟩ S
  | _ => False
def iRg1 (ta : TAD) : TID := fun sg S k x => ta sg S (kRg1 k) x
def kRg2 (k : ItD → Sto → Prop) : List D → Sto → Prop := fun ds S => match ds with
  | [.int i, .int j] => (-(2 ^ 62) ≤ i ∧ i < 2 ^ 62 ∧ -(2 ^ 62) ≤ j ∧ j < 2 ^ 62) ∧ k ⟨(List.range (j - i).toNat).map fun n => D.int (i + (n : Nat)), fun _ => True⟩ S
  | _ => False
def iRg2 (ta : TAD) : TID := fun sg S k x => ta sg S (kRg2 k) x
theorem q_rg1 {a : Expr} {ta : TAD} {p : Pos} (hg : Gl X "range") (hm : X.mg "range" = none) (ha : QA X E [a] ta) (hs : starEach [a] X.env = [(false, eval a X.env)] := by rfl) : QI X E tg (.Call (.Name "range" p) [a] [] pos) (iRg1 ta) :=
  pi_imp (pi_range1 hg hm ha hs) fun s H R ⟨sg, al, S, kd, xd, rs, rl, q, up, ux⟩ => ⟨sg, al, S, kRg1 kd, xd, rs, rl, q, fun ds S1 al1 H1 vs f1 r1 q1 => by
    unfold kRg1 at q1
    split at q1
    · obtain ⟨v, e, rv⟩ := rds1 r1
      cases (show v = _ from rv)
      exact ⟨_, e, q1.1, q1.2.1, up _ S1 al1 H1 _ f1 it_rng q1.2.2⟩
    · exact q1.elim, ux⟩
theorem q_rg2 {a b : Expr} {ta : TAD} {p : Pos} (hg : Gl X "range") (hm : X.mg "range" = none) (ha : QA X E [a, b] ta) (hs : starEach [a, b] X.env = [(false, eval a X.env), (false, eval b X.env)] := by rfl) (hs2 : starEach [b] X.env = [(false, eval b X.env)] := by rfl) : QI X E tg (.Call (.Name "range" p) [a, b] [] pos) (iRg2 ta) :=
  pi_imp (pi_range2 hg hm ha hs hs2) fun s H R ⟨sg, al, S, kd, xd, rs, rl, q, up, ux⟩ => ⟨sg, al, S, kRg2 kd, xd, rs, rl, q, fun ds S1 al1 H1 vs f1 r1 q1 => by
    unfold kRg2 at q1
    split at q1
    · obtain ⟨v, v', e, rv, rv'⟩ := rds2 r1
      cases (show v = _ from rv)
      cases (show v' = _ from rv')
      exact ⟨_, _, e, q1.1, up _ S1 al1 H1 _ f1 it_rng q1.2⟩
    · exact q1.elim, ux⟩

/-! ### comprehensions -/
theorem rsl_wipe {K : PySem.W.Frag} {H : Hp} {al : List Addr} {sg : Sl} {sv : L2.St} (r : RSl K H al sg sv) : ∀ vs : List Nat, RSl K H al (wipeD sg vs) (wipe sv vs)
  | [] => r
  | v :: vs => by
    have ih := rsl_wipe r vs
    refine ⟨by show ((wipeD sg vs).set v none).length = ((wipe sv vs).set v none).length; rw [List.length_set, List.length_set, ih.len], fun i d h => ?_⟩
    have h : ((wipeD sg vs).set v none)[i]? = some (some d) := h
    by_cases hv : v = i
    · subst hv
      by_cases hl : v < (wipeD sg vs).length
      · rw [List.getElem?_set_self hl] at h
        cases h
      · rw [List.getElem?_eq_none (by rw [List.length_set]; omega)] at h
        cases h
    · rw [List.getElem?_set_ne hv] at h
      obtain ⟨w, e, rw'⟩ := ih.at_ i d h
      exact ⟨w, by show ((wipe sv vs).set v none)[i]? = _; rw [List.getElem?_set_ne hv]; exact e, rw'⟩
abbrev QTs (X : Cx) (E : XK) (e : List Expr) (t : TTD) : Prop := PTs X e (LT (cy X E) t)
theorem q_tnil : QTs X E [] dYes := ⟨fun pins s σ H Q I ⟨sg, al, S, kd, xd, rs, rl, q, up, ux⟩ => pts_nil.run pins s σ H Q I (up true S al H (.now rs) q)⟩
theorem q_tone {c : Expr} {t : TTD} (h : QT X E c t) : QTs X E [c] t := pts_one h
theorem ux0 {K : PySem.W.Frag} {mg : Str → Option Value} {H : Hp} {al : List Addr} {E : XK} : UpX ⟨K, mg, E⟩ H al XF := fun ex S' al' H' cls d f r h => h.elim
/-- the reading of a comprehension: from data to the layer's -/
theorem lc_red {K : PySem.W.Frag} {mg : Str → Option Value} {ti : TID} {g : TGD} {tt : TTD} {te : TED} {vs : List Nat} {tV : TG} {s : L2.St} {H : Hp} {Q : VK} {E : XK}
    (hl : ∀ v s H Q, LG ⟨K, mg, E0⟩ g v s H Q → tV v s H Q) (hw : WipeOK vs tV) (h : LE ⟨K, mg, E⟩ (dLc ti g tt te vs) s H Q) : tLc (LI ⟨K, mg, E⟩ ti) tV (LT ⟨K, mg, E0⟩ tt) (LE ⟨K, mg, E0⟩ te) vs s H Q := by
  obtain ⟨sg, al, S, kd, xd, rs, rl, q, up, ux⟩ := h
  refine ⟨sg, al, S, kLc g tt te (wipeD sg vs) kd, xd, rs, rl, q, fun it S1 al1 H1 J f1 iok q1 => ?_, ux⟩
  intro D hD
  have q1 : wLc it.grd g tt te (wipeD sg vs) S1.length (fun S' => kd (.ref S1.length) S') it.items (S1 ++ [.lst []]) := q1
  have fN : Fut K H1 al1 (upd H1 D (.lst [])) (al1 ++ [D]) (S1 ++ [.lst []]) := new_lst f1.rs hD rfl
  have aN : (al1 ++ [D])[S1.length]? = some D := by rw [← f1.rs.len]; simp
  refine ⟨fun i m H' => ∃ al' S', Fut K (upd H1 D (.lst [])) (al1 ++ [D]) H' al' S' ∧ wLc it.grd g tt te (wipeD sg vs) S1.length (fun S' => kd (.ref S1.length) S') (it.items.drop i) S' ∧ m = it.items.length - i ∧ i ≤ it.items.length, ⟨it.items.length, _, _, .now fN.rs, q1, by simp, Nat.zero_le _⟩, ?_⟩
  rintro i m H2 ⟨al2, S2, f2, w2, rfl, hi⟩
  by_cases hlt : i < it.items.length
  · rw [List.drop_eq_getElem_cons hlt] at w2
    obtain ⟨gr, w2⟩ := w2
    refine .inr ⟨iok.go i H2 al2 S2 (fN.trans f2) gr hlt, fun H' => ∃ m', m' < it.items.length - i ∧ ∃ al' S', Fut K (upd H1 D (.lst [])) (al1 ++ [D]) H' al' S' ∧ wLc it.grd g tt te (wipeD sg vs) S1.length (fun S' => kd (.ref S1.length) S') (it.items.drop (i + 1)) S' ∧ m' = it.items.length - (i + 1) ∧ i + 1 ≤ it.items.length, fun H' h => h, fun x H' hy => ?_⟩
    obtain ⟨f3, r3⟩ := iok.yld i _ H2 al2 S2 x H' (fN.trans f2) gr (List.getElem?_eq_getElem hlt) hy
    have fA := (f1.trans fN).trans (f2.trans f3)
    refine hw _ _ _ _ _ (fun s2 H2 e q => ⟨e.trans (wipe_wipe _ _), q⟩) (hl _ _ _ _ ⟨_, wipeD sg vs, al2, S2, _, XF, f3.rs, rsl_wipe (fA.rsl rl) vs, r3, w2, fun sg4 S4 al4 H4 sv4 f4 rl4 q4 => ?_, ux0⟩)
    refine ⟨sg4, al4, S4, _, XF, f4.rs, rl4, q4, fun b S5 al5 H5 f5 q5 => ite_of ⟨fun e => ?_, fun e => ?_⟩, ux0⟩
    · refine ⟨sg4, al5, S5, _, XF, f5.rs, f5.rsl rl4, q5.1 e, fun y S6 al6 H6 v6 f6 r6 q6 => ?_, ux0⟩
      obtain ⟨acc, ha, hz, q6⟩ := q6
      have fB := ((f2.trans f3).trans f4).trans (f5.trans f6)
      have a6 := getExt fB aN
      obtain ⟨us, e6, ru⟩ := f6.rs.ob _ _ _ ha a6
      refine ⟨us, e6, by rw [RDs.length ru]; exact hz, it.items.length - (i + 1), by omega, al6, _, fB.trans (set_lst f6.rs ha a6 (RDs.append ru (RDs.one r6))), q6, rfl, hlt⟩
    · exact ⟨it.items.length - (i + 1), by omega, al5, S5, ((f2.trans f3).trans f4).trans f5, q5.2 e, rfl, hlt⟩
  · have e : i = it.items.length := by omega
    subst e
    rw [List.drop_length] at w2
    obtain ⟨gr, w2⟩ := w2
    exact .inl ⟨iok.stop H2 al2 S2 (fN.trans f2) gr, up (.ref S1.length) S2 al2 H2 (.ref D) ((f1.trans fN).trans f2) ⟨D, rfl, getExt f2 aN⟩ w2⟩
theorem q_lc {elt iter : Expr} {ifs : List Expr} {scope : Scope} {own : List (Str × Nat)} {ti : TID} {tt : TTD} (hc : X.calm = true) (hN : X.N.Nodup) (hi : QI X E tg iter ti) (ok : BlkOk X.N X.env.scope scope own)
    (hg : ∀ (s : Shared) (H : Hp) (C : Addr) (cl : List (Str × Addr)) (fp : List Addr), QG (X.blk s H scope (compEnvC scope cl C X.env) fp) E0 tg g tV is) (ht : ∀ (s : Shared) (H : Hp) (C : Addr) (cl : List (Str × Addr)) (fp : List Addr), QTs (X.blk s H scope (compEnvC scope cl C X.env) fp) E0 ifs tt)
    (he : ∀ (s : Shared) (H : Hp) (C : Addr) (cl : List (Str × Addr)) (fp : List Addr), QE (X.blk s H scope (compEnvC scope cl C X.env) fp) E0 elt te) (his : is.all (own.map (·.2)).contains = true := by rfl) (hs : ∀ x, foldedSetIterable iter X.env x = pure x := by intro _; rfl) :
    QE X E (.ListComp elt [⟨tg, iter, ifs, 0⟩] scope pos) (dLc ti g tt te (own.map (·.2))) := by
  have hv : ∀ i ∈ is, i ∈ own.map (·.2) := fun i hi => by
    have q := List.all_eq_true.mp his i hi
    simpa using q
  refine pe_imp (pe_lc (te := LE ⟨X.K, X.mg, E0⟩ te) (tt := LT ⟨X.K, X.mg, E0⟩ tt) hc hN hi ok (fun s H C cl fp => (hg s H C cl fp).1) ht he hs) fun s H Q q => ?_
  have h0 := hg X.s_0 H 0 [] []
  exact lc_red (mg := X.mg) h0.2.1 (h0.2.2 _ hv) q
theorem q_setLc {i : Nat} {y : Str} {py : Pos} {spos : Pos} {elt iter : Expr} {ifs : List Expr} {scope : Scope} {own : List (Str × Nat)} {ti : TID} {tt : TTD} (hc : X.calm = true) (hN : X.N.Nodup) (hi : QI X E tg iter ti) (ok : BlkOk X.N X.env.scope scope own)
    (hg : ∀ (s : Shared) (H : Hp) (C : Addr) (cl : List (Str × Addr)) (fp : List Addr), QG (X.blk s H scope (compEnvC scope cl C X.env) fp) E0 tg g tV is) (ht : ∀ (s : Shared) (H : Hp) (C : Addr) (cl : List (Str × Addr)) (fp : List Addr), QTs (X.blk s H scope (compEnvC scope cl C X.env) fp) E0 ifs tt)
    (he : ∀ (s : Shared) (H : Hp) (C : Addr) (cl : List (Str × Addr)) (fp : List Addr), QE (X.blk s H scope (compEnvC scope cl C X.env) fp) E0 elt te) (hsw : swapsWith (.ListComp elt [⟨tg, iter, ifs, 0⟩] scope pos) (some (.Name y py)) spos.line X.env = pure true) (his : is.all (own.map (·.2)).contains = true := by rfl)
    (hy : X.N[i]? = some y := by rfl) (hyl : X.env.scope.names.lookup y = some .local := by rfl) (hs : ∀ x, foldedSetIterable iter X.env x = pure x := by intro _; rfl) :
    QS X E (.Assign [.Name y py] (.ListComp elt [⟨tg, iter, ifs, 0⟩] scope pos) spos) (dSet i (dLc ti g tt te (own.map (·.2)))) := by
  have hv : ∀ i ∈ is, i ∈ own.map (·.2) := fun i hi => by
    have q := List.all_eq_true.mp his i hi
    simpa using q
  refine ps_imp (ps_setLc (te := LE ⟨X.K, X.mg, E0⟩ te) (tt := LT ⟨X.K, X.mg, E0⟩ tt) hc hN hy hyl hsw hi ok (fun s H C cl fp => (hg s H C cl fp).1) ht he hs) fun De s H ⟨sg, al, S, Dd, rs, rl, q, ue⟩ => ?_
  have h0 := hg X.s_0 H 0 [] []
  exact lc_red (mg := X.mg) (E := E) h0.2.1 (h0.2.2 _ hv) ⟨sg, al, S, kSet i Dd sg, Dd.ex, rs, rl, q, fun d S1 al1 H1 v f1 r1 q1 => ue.nx _ S1 al1 H1 _ f1 (rsl_set (f1.rsl rl) r1 i) q1, ue.ex⟩
end

/-! ### what a call gives back: garbage dropped -/
mutual
def mapR (f : Nat → Nat) : D → D
  | .non => .non
  | .bl b => .bl b
  | .int i => .int i
  | .str x => .str x
  | .tup ds => .tup (mapRs f ds)
  | .ref n => .ref (f n)
def mapRs (f : Nat → Nat) : List D → List D
  | [] => []
  | d :: ds => mapR f d :: mapRs f ds
end
mutual
def clD (m : Nat) : D → Prop
  | .tup ds => clDs m ds
  | .ref n => n < m
  | _ => True
def clDs (m : Nat) : List D → Prop
  | [] => True
  | d :: ds => clD m d ∧ clDs m ds
end
def clKs (m : Nat) : List (Key × D) → Prop
  | [] => True
  | d :: ds => clD m d.2 ∧ clKs m ds
def mapO (f : Nat → Nat) : O → O
  | .lst ds => .lst (mapRs f ds)
  | .ro ds => .ro (mapRs f ds)
  | .dic kvs => .dic (kvs.map fun p => (p.1, mapR f p.2))
  | .exo x d => .exo x (mapR f d)
  | .oth => .oth
def clO (m : Nat) : O → Prop
  | .lst ds => clDs m ds
  | .ro ds => clDs m ds
  | .dic kvs => clKs m kvs
  | .exo _ d => clD m d
  | .oth => True
def clS (S : Sto) : Prop := ∀ (k : Nat) (o : O), S[k]? = some o → clO S.length o
structure Wk (n : Nat) (f : Nat → Nat) (d : D) (S' : Sto) (d' : D) (S'' : Sto) : Prop where
  low : ∀ k, k < n → f k = k
  le : n ≤ S''.length
  inj : ∀ i j, i < S''.length → j < S''.length → f i = f j → i = j
  ob : ∀ (k : Nat) (o : O), S''[k]? = some o → clO S''.length o ∧ S'[f k]? = some (mapO f o)
  d : d = mapR f d'
  cl : clD S''.length d'
/-- what a def's caller gets: the store without what is new and out of reach -/
def wk (n : Nat) (kd : KD) : KD := fun d S' => kd d S' ∨ ∃ f d' S'', Wk n f d S' d' S'' ∧ kd d' S''
def wkX (n : Nat) (xd : XD) : XD := fun ex S' => xd ex S' ∨ ∃ f d' S'', Wk n f ex.2 S' d' S'' ∧ xd (ex.1, d') S''
section
variable {K : PySem.W.Frag} {H : Hp} {al ae : List Addr} {f : Nat → Nat} {m : Nat}
mutual
theorem rd_map (h : ∀ k, k < m → ae[k]? = al[f k]?) : ∀ (d : D) (v : V), RD K H al (mapR f d) v → clD m d → RD K H ae d v
  | .non, _, r, _ => r
  | .bl _, _, r, _ => r
  | .int _, _, r, _ => r
  | .str _, _, r, _ => r
  | .tup ds, _, ⟨a, vs, e, hs, r⟩, c => ⟨a, vs, e, hs, rds_map h ds vs r c⟩
  | .ref n, _, ⟨a, e, r⟩, c => ⟨a, e, (h n c).trans r⟩
theorem rds_map (h : ∀ k, k < m → ae[k]? = al[f k]?) : ∀ (ds : List D) (vs : List V), RDs K H al (mapRs f ds) vs → clDs m ds → RDs K H ae ds vs
  | [], _, r, _ => r
  | d :: ds, _, ⟨v, u, e, r1, r2⟩, c => ⟨v, u, e, rd_map h d v r1 c.1, rds_map h ds u r2 c.2⟩
end
theorem rks_map (h : ∀ k, k < m → ae[k]? = al[f k]?) : ∀ (ds : List (Key × D)) (vs : List (Key × V)), RKs K H al (ds.map fun p => (p.1, mapR f p.2)) vs → clKs m ds → RKs K H ae ds vs
  | [], _, r, _ => r
  | d :: ds, _, ⟨v, u, e, r1, r2⟩, c => ⟨v, u, e, rd_map h d.2 v r1 c.1, rks_map h ds u r2 c.2⟩
theorem ro_map (h : ∀ k, k < m → ae[k]? = al[f k]?) {o : O} {a : Addr} (r : RO K H al (mapO f o) a) (c : clO m o) : RO K H ae o a := by
  cases o with
  | lst ds => obtain ⟨vs, e, r⟩ := r; exact ⟨vs, e, rds_map h ds vs r c⟩
  | ro ds => obtain ⟨vs, e, r⟩ := r; exact ⟨vs, e, rds_map h ds vs r c⟩
  | dic ds => obtain ⟨vs, e, r⟩ := r; exact ⟨vs, e, rks_map h ds vs r c⟩
  | exo x d => obtain ⟨b, dx, v, e, e2, r⟩ := r; exact ⟨b, dx, v, e, e2, rd_map h d v r c⟩
  | oth => trivial
mutual
theorem rd_cl : ∀ (d : D) (v : V), RD K H al d v → clD al.length d
  | .non, _, _ => trivial
  | .bl _, _, _ => trivial
  | .int _, _, _ => trivial
  | .str _, _, _ => trivial
  | .tup ds, _, ⟨a, vs, e, hs, r⟩ => rds_cl ds vs r
  | .ref n, _, ⟨a, e, r⟩ => (List.getElem?_eq_some_iff.mp r).1
theorem rds_cl : ∀ (ds : List D) (vs : List V), RDs K H al ds vs → clDs al.length ds
  | [], _, _ => trivial
  | d :: ds, _, ⟨v, u, e, r1, r2⟩ => ⟨rd_cl d v r1, rds_cl ds u r2⟩
end
theorem rks_cl : ∀ (ds : List (Key × D)) (vs : List (Key × V)), RKs K H al ds vs → clKs al.length ds
  | [], _, _ => trivial
  | d :: ds, _, ⟨v, u, e, r1, r2⟩ => ⟨rd_cl d.2 v r1, rks_cl ds u r2⟩
theorem rs_cl {S : Sto} (r : RS K H al S) : clS S := fun k o e => by
  have hk : k < al.length := by rw [r.len]; exact (List.getElem?_eq_some_iff.mp e).1
  have q := r.ob k o _ e (List.getElem?_eq_getElem hk)
  rw [← r.len]
  cases o with
  | lst ds => obtain ⟨vs, _, r1⟩ := q; exact rds_cl ds vs r1
  | ro ds => obtain ⟨vs, _, r1⟩ := q; exact rds_cl ds vs r1
  | dic ds => obtain ⟨vs, _, r1⟩ := q; exact rks_cl ds vs r1
  | exo x d => obtain ⟨_, dx, v, _, _, r1⟩ := q; exact rd_cl d v r1
  | oth => trivial
theorem mapO_mu (f : Nat → Nat) (o : O) : (mapO f o).mu = o.mu := by cases o <;> rfl
/-- the store weakened -/
theorem fut_wk {H0 : Hp} {al0 : List Addr} {S' S'' : Sto} {d d' : D} (w : Wk al0.length f d S' d' S'') (fu : Fut K H0 al0 H al S') : ∃ ae, Fut K H0 al0 H ae S'' ∧ (∀ k, k < S''.length → ae[k]? = al[f k]?) := by
  obtain ⟨t, et⟩ := fu.ext
  have hlt : ∀ k, k < S''.length → f k < al.length := fun k hk => by
    rw [fu.rs.len]
    exact (List.getElem?_eq_some_iff.mp (w.ob k _ (List.getElem?_eq_getElem hk)).2).1
  refine ⟨(List.range S''.length).map fun k => al.getD (f k) 0, ?_, ?_⟩
  case refine_2 =>
    intro k hk
    rw [List.getElem?_map, List.getElem?_range hk, List.getElem?_eq_getElem (hlt k hk)]
    simp [List.getD, List.getElem?_eq_getElem (hlt k hk)]
  have hget : ∀ k, k < S''.length → ((List.range S''.length).map fun k => al.getD (f k) 0)[k]? = al[f k]? := by
    intro k hk
    rw [List.getElem?_map, List.getElem?_range hk, List.getElem?_eq_getElem (hlt k hk)]
    simp [List.getD, List.getElem?_eq_getElem (hlt k hk)]
  have hlen : ((List.range S''.length).map fun k => al.getD (f k) 0).length = S''.length := by simp
  refine ⟨⟨((List.range S''.length).map fun k => al.getD (f k) 0).drop al0.length, ?_⟩, fu.keep, hlen, fun n k o u a e1 e2 m1 m2 a1 a2 => ?_, fun k o a e1 a1 => ?_⟩
  · refine List.ext_getElem? fun k => ?_
    by_cases hk : k < al0.length
    · rw [List.getElem?_append_left hk, hget k (Nat.lt_of_lt_of_le hk w.le), w.low k hk, et, List.getElem?_append_left hk]
    · rw [List.getElem?_append_right (by omega), List.getElem?_drop]
      congr 1
      omega
  · have hn : n < S''.length := (List.getElem?_eq_some_iff.mp e1).1
    have hk : k < S''.length := (List.getElem?_eq_some_iff.mp e2).1
    rw [hget n hn] at a1
    rw [hget k hk] at a2
    exact w.inj n k hn hk (fu.rs.nd (f n) (f k) _ _ a (w.ob n o e1).2 (w.ob k u e2).2 ((mapO_mu f o).trans m1) ((mapO_mu f u).trans m2) a1 a2)
  · have hk : k < S''.length := (List.getElem?_eq_some_iff.mp e1).1
    have a1' := a1
    rw [hget k hk] at a1'
    obtain ⟨c, e2⟩ := w.ob k o e1
    exact ro_map hget (fu.rs.ob (f k) _ a e2 a1') c
theorem up_wk {H0 : Hp} {al0 : List Addr} {kd : KD} {Q : VK} (up : Up K H0 al0 kd Q) : Up K H0 al0 (wk al0.length kd) Q := fun d S' al' H' v fu r h => by
  rcases h with h | ⟨f, d', S'', w, h⟩
  · exact up d S' al' H' v fu r h
  · obtain ⟨ae, f2, hg⟩ := fut_wk w fu
    refine up d' S'' ae H' v f2 (rd_map hg d' v ?_ w.cl) h
    rw [← w.d]
    exact r
theorem ux_wk {Y : Cy} {H0 : Hp} {al0 : List Addr} {xd : XD} (ux : UpX Y H0 al0 xd) : UpX Y H0 al0 (wkX al0.length xd) := fun ex S' al' H' cls d fu r h => by
  rcases h with h | ⟨f, d', S'', w, h⟩
  · exact ux ex S' al' H' cls d fu r h
  · obtain ⟨ae, f2, hg⟩ := fut_wk w fu
    obtain ⟨b, dx, v, e1, e3, e4, r⟩ := r
    refine ux (ex.1, d') S'' ae H' cls d f2 ⟨b, dx, v, e1, e3, e4, rd_map hg d' v ?_ w.cl⟩ h
    rw [← w.d]
    exact r
end

/-! ### THE RULE for a def -/
def startD (n : Nat) (ds : List D) : Sl := ds.map some ++ List.replicate (n - ds.length) none
theorem rsl_start {K : PySem.W.Frag} {H : Hp} {al : List Addr} {N : List Str} {ds : List D} {vs : List V} (r : RDs K H al ds vs) : RSl K H al (startD N.length ds) (L2.start N vs) := by
  refine ⟨by unfold startD L2.start; simp [RDs.length r], fun i d e => ?_⟩
  unfold startD at e
  by_cases hi : i < ds.length
  · rw [List.getElem?_append_left (by simpa using hi), List.getElem?_map] at e
    cases q : ds[i]? with
    | none => rw [q] at e; cases e
    | some d' =>
      rw [q] at e
      have e' : some d' = some d := Option.some.inj e
      cases e'
      obtain ⟨v, hv, rv⟩ := RDs.get r q
      refine ⟨v, ?_, rv⟩
      unfold L2.start
      rw [List.getElem?_append_left (by rw [List.length_map, RDs.length r]; exact hi), List.getElem?_map, hv]
      rfl
  · rw [List.getElem?_append_right (by simpa using hi), List.getElem?_replicate] at e
    split at e <;> cases e
/-- the end of a def's body -/
def endsD (n : Nat) (kd : KD) (xd : XD) : EndsD := ⟨fun _ S' => wk n kd .non S', wk n kd, fun _ _ => False, fun _ _ => False, wkX n xd⟩
section
variable {P : Program} {w : World} {K : PySem.W.Frag} {mg : Str → Option Value} {base : Heap} {x qual : Str} {params : Arguments} {body : List Stmt} {scope : Scope} {f : Addr} {fd : FuncData} {N ps : List Str} {k : Nat} {sp : SpD} {t : TSD}
/-- a body's reading keeps a promise -/
def Keeps (m : Nat) (N : Nat) (t : TSD) (sp : SpD) : Prop := ∀ ds S kd xd, ds.length = m → clS S → clDs S.length ds → sp ds S kd xd → t (endsD S.length kd xd) (startD N ds) S
theorem def_ok (F : FunD K x qual params body scope [] [] f fd) (S : FnScope N ps scope)
    (hbody : ∀ (cdv : Value) (A : Around) (outer : List Env) (s : Shared) (H : Hp) (E : XK), Room k (A.deeper (envOfC qual scope s.heap.objs.size f cdv)) → QSs (cxOf (L2.CX P w) P w K mg base N qual scope f cdv A outer s H E) E body t)
    (hsp : Keeps ps.length N.length t sp) : FnOk P w K mg base (L2.CX P w) (k + 1) f fd ps (LP K mg ps.length sp) := by
  refine F.ok S (fun vs H Q E h => h.1) fun cdv A outer s H vs Q E hr h => ?_
  obtain ⟨hl, ds, al, S0, kd, xd, rs, rd, q, up, ux⟩ := h
  refine ⟨_, hbody cdv A outer s H E hr, startD N.length ds, al, S0, endsD S0.length kd xd, rs, rsl_start rd, hsp ds S0 kd xd (by rw [← RDs.length rd]; exact hl) (rs_cl rs) (by rw [← rs.len]; exact rds_cl ds vs rd) q, ?_⟩
  rw [← rs.len]
  exact ⟨fun sg S' al' H' sv f1 r1 q1 => up_wk up .non S' al' H' .non f1 rfl q1, up_wk up, fun sg S' al' H' sv f1 r1 q1 => q1.elim, fun sg S' al' H' sv f1 r1 q1 => q1.elim, ux_wk ux⟩
end
/-! ### the law's end -/
theorem rol_only {K : PySem.W.Frag} {H : Hp} {a : Addr} {vs : List V} (o : Only H) (h : SqL K H a vs) : RoL K H a vs := by
  rcases h with (h | h) | h
  · rcases o a with z | ⟨ob, xs, z⟩
    · rw [z] at h; cases h
    · rw [z] at h; cases h
  · exact .inl h
  · exact .inr h
theorem law_sp {K : PySem.W.Frag} {mg : Str → Option Value} {sp : SpD} {H : Hp} {a : Addr} {ns : List Int} (o : Only H) (h : SqL K H a (ns.map V.int)) (q : sp [.ref 0] [.ro (ns.map D.int)] (fun d _ => d = .bl true) XF) :
    LP K mg 1 sp [.ref a] H (fun v _ => v = .bl true) (fun _ _ _ => False) := by
  refine ⟨rfl, [.ref 0], [a], [.ro (ns.map D.int)], _, XF, ⟨rfl, fun n m o u b e1 e2 m1 m2 a1 a2 => ?_, fun n ob b e1 e2 => ?_⟩, ⟨.ref a, [], rfl, ⟨a, rfl, rfl⟩, rfl⟩, q, fun d S' al' H' v f r e => ?_, fun ex S' al' H' cls d f r e => e.elim⟩
  · match n with
    | 0 => cases e1; cases m1
    | n + 1 => simp at e1
  · match n with
    | 0 =>
      cases e1
      cases e2
      exact ⟨_, rol_only o h, ints_rd ns⟩
    | n + 1 => simp at e1
  · cases (show d = .bl true from e)
    exact r
end Q
namespace Q
open PySem
open Spec PyProof.Rows L2

/-! ### calls with keywords, without arguments -/
def pick {α : Type} (idx : List Nat) (ws : List α) : List α := idx.filterMap fun j => ws[j]?
theorem pick_vals {idx : List Nat} {zs : List V} {ws : List Value} (r : Vals zs ws) : Vals (pick idx zs) (pick idx ws) := by
  unfold pick
  induction idx with
  | nil => exact .nil
  | cons j idx ih =>
    rw [List.filterMap_cons, List.filterMap_cons]
    cases e : zs[j]? with
    | none =>
      have e2 := r.none_of e
      rw [e2]
      exact ih
    | some v =>
      obtain ⟨u, e2, rv⟩ := r.get e
      rw [e2]
      exact .cons rv ih
theorem pick_rds {K : PySem.W.Frag} {H : Hp} {al : List Addr} {idx : List Nat} {ds : List D} {vs : List V} (r : RDs K H al ds vs) : RDs K H al (pick idx ds) (pick idx vs) := by
  unfold pick
  induction idx with
  | nil => exact rfl
  | cons j idx ih =>
    rw [List.filterMap_cons, List.filterMap_cons]
    cases e : ds[j]? with
    | none =>
      have e2 : vs[j]? = none := by
        rw [List.getElem?_eq_none_iff] at e ⊢
        rw [RDs.length r]
        exact e
      rw [e2]
      exact ih
    | some d =>
      obtain ⟨v, e2, rv⟩ := RDs.get r e
      rw [e2]
      exact ⟨v, _, rfl, rv, ih⟩
/-- how a call with keywords binds -/
structure KB (K : PySem.W.Frag) (fd : FuncData) (ps : List Str) (n : Nat) (ks : List Str) (idx : List Nat) : Prop where
  to : ∀ (s : Shared) (us ws : List Value), us.length = n → ws.length = ks.length → BindsTo s fd ⟨us, ks.zip ws⟩ (ps.zip (us ++ pick idx ws))
theorem kb_of {K : PySem.W.Frag} {x qual : Str} {params : Arguments} {body : List Stmt} {scope : Scope} {f : Addr} {fd : FuncData} {ps : List Str} (F : FunD K x qual params body scope [] [] f fd) (n : Nat) (ks : List Str) (idx : List Nat)
    (h : ∀ (kV doc pm : Value) (an : Option Addr) (cdv ct : Value) (us ws : List Value), us.length = n → ws.length = ks.length → bindArgs (PySem.W.fnOf x qual params body scope .none kV doc pm an cdv ct) ⟨us, ks.zip ws⟩ = pure (ps.zip (us ++ pick idx ws))) : KB K fd ps n ks idx := by
  obtain ⟨_, _, dV, kV, doc, pm, an, cdv, ct, _, rfl, _, _, ⟨_, rfl⟩ | ⟨e, _⟩, _⟩ := F.ex
  · exact ⟨fun s us ws l1 l2 => .of_eq (h kV doc pm an cdv ct us ws l1 l2)⟩
  · exact (e rfl).elim
def kCK2 (r : SpD) (n m : Nat) (idx : List Nat) (k : KD) (x : XD) (ds : List D) : List D → Sto → Prop := fun zs S => ds.length = n ∧ zs.length = m ∧ r (ds ++ pick idx zs) S k x
def kCK1 (r : SpD) (n m : Nat) (idx : List Nat) (tk : TAD) (sg : Sl) (k : KD) (x : XD) : List D → Sto → Prop := fun ds S => tk sg S (kCK2 r n m idx k x ds) x
def dCallK (r : SpD) (n m : Nat) (idx : List Nat) (t tk : TAD) : TED := fun sg S k x => t sg S (kCK1 r n m idx tk sg k x) x
section
variable {X : Cx} {E : XK} {e : Expr} {es : List Expr} {te : TED} {tr tk : TAD} {pos p kpos : Pos} {kws : List Keyword} {nm : Option Str}
abbrev QK (X : Cx) (E : XK) (kws : List Keyword) (t : TAD) : Prop := PK X kws (LA (cy X E) t)
theorem pk_imp {t t' : TA} (h : PK X kws t) (f : ∀ s H Q, t' s H Q → t s H Q) : PK X kws t' := ⟨fun pos pins s σ H Q I q => h.run pos pins s σ H Q I (f σ H Q q)⟩
theorem q_knil : QK X E [] dNil := pk_imp pk_nil fun s H Q ⟨sg, al, S, kd, xd, rs, rl, q, up, ux⟩ => up [] S al H [] (.now rs) rfl q
theorem q_kcons (ha : QE X E e te) (hr : QK X E kws tr) : QK X E (⟨nm, e, kpos⟩ :: kws) (dCons te tr) :=
  pk_imp (pk_cons ha hr) fun s H Q ⟨sg, al, S, kd, xd, rs, rl, q, up, ux⟩ => ⟨sg, al, S, kCons1 tr sg kd xd, xd, rs, rl, q, fun d S1 al1 H1 v f1 r1 q1 =>
    ⟨sg, al1, S1, kCons2 kd d, xd, f1.rs, f1.rsl rl, q1, fun ds S2 al2 H2 vs f2 r2 q2 => up (d :: ds) S2 al2 H2 (v :: vs) (f1.trans f2) ⟨v, vs, rfl, f2.rd r1, r2⟩ q2, ux.mono f1⟩, ux⟩
variable {k n : Nat} {f : Addr} {fd : FuncData} {ps ks : List Str} {sp : SpD} {x : Str} {idx : List Nat}
theorem runK {pins : List (Addr × Obj)} {σ : L2.St} {H : Hp} {s : Shared} {Q : VK} {us ws : List Value} {vs zs : List V} (F : FnOk X.prog X.w X.K X.mg X.base (L2.CX X.prog X.w) k f fd ps (LP X.K X.mg ps.length sp)) (hr : Room k X.A) (hb : KB X.K fd ps n ks idx) (hx : Passes (L2.CX X.prog X.w) X E)
    (I : Inv X pins σ H s) (r : Vals vs us) (rz : Vals zs ws) (l1 : vs.length = n) (l2 : zs.length = ks.length) (h : LP X.K X.mg ps.length sp (vs ++ pick idx zs) H Q E) : wpAny (model X.prog X.w) X.A (call (.ref f) us (ks.zip ws)) (EP X pins σ Q) X.xe s := by
  have r2 := r.append (pick_vals (idx := idx) rz)
  refine wpAny_call (codeAny_mono (F.run X.A X.stack s H ⟨us, ks.zip ws⟩ (us ++ pick idx ws) (vs ++ pick idx zs) Q E hr I.env0 (hb.to s us ws (r.length.symm.trans l1) (rz.length.symm.trans l2)) r2 h) ?_)
  intro r s' hq
  match r, hq with
  | .error e, hq => exact hx pins σ H s e s' I hq
  | .ok (.ret u), hq => exact I.after hq
  | .ok .next, hq => exact hq.elim
  | .ok .brk, hq => exact hq.elim
  | .ok .cont, hq => exact hq.elim
theorem q_callK (F : FnOk X.prog X.w X.K X.mg X.base (L2.CX X.prog X.w) k f fd ps (LP X.K X.mg ps.length sp)) (hr : Room k X.A) (hg : Gl X x) (hm : X.mg x = some (.ref f)) (hk : PySem.W.keepIn X.K (.ref f) = true) (hb : KB X.K fd ps n ks idx) (hx : Passes (L2.CX X.prog X.w) X E)
    (ha : QA X E (e :: es) tr) (hkw : QK X E kws tk) (hall : (backToKw pos (keywordEach kws X.env)).all (·.1.isSome) = true := by rfl) (hks : (backToKw pos (keywordEach kws X.env)).filterMap (·.1) = ks := by rfl) (hdb : (x == ("__debug__" : Str)) = false := by decide) (he : starEach (e :: es) X.env = (false, eval e X.env) :: starEach es X.env := by rfl) (hpl : ((backTo pos (starEach (e :: es) X.env)).any (·.1) || (backToKw pos (keywordEach kws X.env)).any (·.1.isNone)) = false := by rfl) :
    QE X E (.Call (.Name x p) (e :: es) kws pos) (dCallK (spN ps.length sp) n ks.length idx tr tk) := by
  constructor
  rintro pins s σ H Q I ⟨sg, al, S, kd, xd, rs, rl, q, up, ux⟩
  refine wpAny_Call_Name_kw <| ld_glob I hg hm (PySem.W.callWith_KW (h₀ := X.base) I.ok.mod.kin hk hall (thn (ha.run pos pins s σ H (fun vs H1 => ∃ ds al1 S1, Fut X.K H al H1 al1 S1 ∧ RDs X.K H1 al1 ds vs ∧ kCK1 (spN ps.length sp) n ks.length idx tk sg kd xd ds S1) I
    ⟨sg, al, S, _, xd, rs, rl, q, fun ds S1 al1 H1 vs f1 r1 q1 => ⟨ds, al1, S1, f1, r1, q1⟩, ux⟩) fun us s1 ⟨vs, H1, I1, r, ds, al1, S1, f1, r1, q1⟩ => ?_) hpl he) hdb
  refine thn (hkw.run pos pins s1 σ H1 (fun zs H2 => ∃ es al2 S2, Fut X.K H1 al1 H2 al2 S2 ∧ RDs X.K H2 al2 es zs ∧ kCK2 (spN ps.length sp) n ks.length idx kd xd ds es S2) I1
    ⟨sg, al1, S1, _, xd, f1.rs, f1.rsl rl, q1, fun es S2 al2 H2 vs f2 r2 q2 => ⟨es, al2, S2, f2, r2, q2⟩, ux.mono f1⟩) fun ws s2 ⟨zs, H2, I2, rz, es, al2, S2, f2, r2, l1, l2, q2⟩ => ⟨I2.kIn, ?_⟩
  rw [hks]
  exact runK F hr hb hx I2 r rz (by rw [RDs.length r1]; exact l1) (by rw [RDs.length r2]; exact l2)
    ⟨by rw [RDs.length (RDs.append (f2.rds r1) (pick_rds r2))]; exact q2.1, ds ++ pick idx es, al2, S2, kd, xd, f2.rs, RDs.append (f2.rds r1) (pick_rds r2), q2.2, up.mono (f1.trans f2), ux.mono (f1.trans f2)⟩
theorem q_callK0 (F : FnOk X.prog X.w X.K X.mg X.base (L2.CX X.prog X.w) k f fd ps (LP X.K X.mg ps.length sp)) (hr : Room k X.A) (hg : Gl X x) (hm : X.mg x = some (.ref f)) (hk : PySem.W.keepIn X.K (.ref f) = true) (hb : KB X.K fd ps 0 ks idx) (hx : Passes (L2.CX X.prog X.w) X E)
    (hkw : QK X E kws tk) (hall : (backToKw pos (keywordEach kws X.env)).all (·.1.isSome) = true := by rfl) (hks : (backToKw pos (keywordEach kws X.env)).filterMap (·.1) = ks := by rfl) (hdb : (x == ("__debug__" : Str)) = false := by decide) (hpl : ((backTo pos (starEach [] X.env)).any (·.1) || (backToKw pos (keywordEach kws X.env)).any (·.1.isNone)) = false := by rfl) :
    QE X E (.Call (.Name x p) [] kws pos) (dCallK (spN ps.length sp) 0 ks.length idx dNil tk) := by
  constructor
  rintro pins s σ H Q I ⟨sg, al, S, kd, xd, rs, rl, q, up, ux⟩
  refine wpAny_Call_Name_kw <| ld_glob I hg hm (PySem.W.callWith_KW0 (h₀ := X.base) I.ok.mod.kin hk hall ?_ hpl) hdb
  refine thn (hkw.run pos pins s σ H (fun zs H2 => ∃ es al2 S2, Fut X.K H al H2 al2 S2 ∧ RDs X.K H2 al2 es zs ∧ kCK2 (spN ps.length sp) 0 ks.length idx kd xd [] es S2) I
    ⟨sg, al, S, _, xd, rs, rl, q, fun es S2 al2 H2 vs f2 r2 q2 => ⟨es, al2, S2, f2, r2, q2⟩, ux⟩) fun ws s2 ⟨zs, H2, I2, rz, es, al2, S2, f2, r2, l1, l2, q2⟩ => ⟨I2.kIn, ?_⟩
  rw [hks]
  exact runK F hr hb hx I2 (vs := []) .nil rz rfl (by rw [RDs.length r2]; exact l2)
    ⟨by have := RDs.length (pick_rds (idx := idx) r2); rw [List.nil_append, this]; exact q2.1, [] ++ pick idx es, al2, S2, kd, xd, f2.rs, pick_rds r2, q2.2, up.mono f2, ux.mono f2⟩
theorem q_call0 (F : FnOk X.prog X.w X.K X.mg X.base (L2.CX X.prog X.w) k f fd ps (LP X.K X.mg n sp)) (hr : Room k X.A) (hg : Gl X x) (hm : X.mg x = some (.ref f)) (hk : PySem.W.keepIn X.K (.ref f) = true) (hb : Binds X.K fd ps []) (hx : Passes (L2.CX X.prog X.w) X E)
    (hdb : (x == ("__debug__" : Str)) = false := by decide) :
    QE X E (.Call (.Name x p) [] [] pos) (dCall (spN n sp) dNil) :=
  pe_imp (pe_call0 (dvs := []) F hr hg hm hk hb .nil hx hdb) fun s H Q ⟨sg, al, S, kd, xd, rs, rl, q, up, ux⟩ =>
    ⟨q.1, [], al, S, kd, xd, rs, rfl, q.2, up, ux⟩
/-- no exception is wished for: inside a comprehension -/
theorem passE0 : Passes (L2.CX X.prog X.w) X E0 := passL
end
end Q
namespace Q
open PySem
open Spec PyProof.Rows L2

/-- a def of the text, known to a caller -/
structure FT (P : Program) (w : World) (K : PySem.W.Frag) (mg : Str → Option Value) (base : Heap) (x : Str) (k : Nat) (ps : List Str) (sp : SpD) (f : Addr) (fd : FuncData) : Prop where
  ok : FnOk P w K mg base (L2.CX P w) k f fd ps (LP K mg ps.length sp)
  hm : mg x = some (.ref f)
  hk : PySem.W.keepIn K (.ref f) = true
  hb : Binds K fd ps []
section
variable {P : Program} {w : World} {K : PySem.W.Frag} {mg : Str → Option Value} {base : Heap} {N : List Str} {qual : Str} {scope : Scope} {f : Addr} {cd : Value} {A : Around} {outer : List Env} {s : Shared} {H : Hp} {E : XK}
theorem takes_cx : Takes (cxOf (L2.CX P w) P w K mg base N qual scope f cd A outer s H E) (fun c d _ H => E c d H) := takes_of rfl rfl rfl rfl
theorem pass_cx : Passes (L2.CX P w) (cxOf (L2.CX P w) P w K mg base N qual scope f cd A outer s H E) E := passes_call takes_cx fun _ _ _ _ h => h
theorem own_cx : PassesOwn (model P w) (cxOf (L2.CX P w) P w K mg base N qual scope f cd A outer s H E).A (cxOf (L2.CX P w) P w K mg base N qual scope f cd A outer s H E).env (cxOf (L2.CX P w) P w K mg base N qual scope f cd A outer s H E).xe := passes_of rfl
end
def GlOk (mg : Str → Option Value) (x : Str) (u : Value) (d : D) : Prop := mg x = some u ∧ ((∃ i, d = .int i ∧ RelV (.int i) u) ∨ ∃ z, d = .str z ∧ RelV (.str z) u)
theorem gl_int {mg : Str → Option Value} {x : Str} {i : Int} (h : ∃ t, mg x = some (.int i t)) : ∃ u, GlOk mg x u (.int i) := by
  obtain ⟨t, e⟩ := h
  exact ⟨_, e, .inl ⟨i, rfl, t, rfl⟩⟩
theorem gl_str {mg : Str → Option Value} {x z : Str} (h : ∃ t, mg x = some (.str z t)) : ∃ u, GlOk mg x u (.str z) := by
  obtain ⟨t, e⟩ := h
  exact ⟨_, e, .inr ⟨z, rfl, t, rfl⟩⟩
/-- a module's name for a built-in function -/
theorem q_callBf {X : Cx} {E : XK} {e : Expr} {es : List Expr} {tr : TAD} {pos p : Pos} {x : Str} {id : String} {r : SpD} (hc : CallR X (.builtin id) (LLs (cy X E) r)) (hm : X.mg x = some (.builtin id)) (ha : QA X E (e :: es) tr) (hg : Gl X x := by rfl) (hdb : (x == ("__debug__" : Str)) = false := by decide)
    (h1 : starEach (e :: es) X.env = (false, eval e X.env) :: starEach es X.env := by rfl) (h2 : (backTo pos (starEach es X.env)).any (·.1) = false := by rfl) : QE X E (.Call (.Name x p) (e :: es) [] pos) (dCall r tr) :=
  pe_imp (pe_callBfun hc hg hm ha hdb h1 h2) fun s H Q q => lls q
def spGcd : SpD := fun ds S k _ => match ds with
  | [.int i, .int j] => k (.int ((Nat.gcd i.natAbs j.natAbs : Nat) : Int)) S
  | _ => False
theorem c_gcd {X : Cx} {E : XK} : CallR X (.builtin "math.gcd") (LLs (cy X E) spGcd) := by
  intro pins s σ H xs us Q I r ⟨ds, al, S, kd, xd, rs, rd, q, up, ux⟩
  unfold spGcd at q
  split at q
  · obtain ⟨v, v', e, rv, rv'⟩ := rds2 rd
    cases (show v = _ from rv)
    cases (show v' = _ from rv')
    subst e
    exact cr_gcd pins s σ H _ us Q I r ⟨_, _, rfl, up_at up rs (d := .int _) rfl q⟩
  · exact q.elim
/-! ### the hook: what stands at the head, with the module's names of built-in things -/
def bfB (K : PySem.W.Frag) (p : Str × Value) : Bool := He.eqO (PySem.W.nsIn K mainGlobals p.1) (some (some p.2))
theorem bf_ok {K : PySem.W.Frag} {h : Heap} {mg : Str → Option Value} (X : K.In h) (G : h.Ns mainGlobals mg) {x : Str} {u : Value} (c : bfB K (x, u) = true) : mg x = some u := PySem.W.mg_of X G (He.eqO_ok c)
abbrev AlB : Type := Bool × He.AlD
def obsB (bf : List (Str × Value)) (fa : List He.Fa) (fn : List He.DefD) (K : PySem.W.Frag) : AlB := (bf.all (bfB K), He.obsD fa fn K)
def SaysB (bf : List (Str × Value)) (fa : List He.Fa) (fn : List He.DefD) (K : PySem.W.Frag) : Prop := bf.all (bfB K) = true ∧ He.SaysD fa fn K
def obsBG (n : Nat) (bf : List (Str × Value)) (fa : List He.Fa) (fn : List He.DefD) (g : Addr → Option Obj) : AlB := obsB bf fa fn (He.frG g (He.asD g n))
def hookB (n : Nat) (bf : List (Str × Value)) (fa : List He.Fa) (fn : List He.DefD) : PySem.W.Hook where
  α := AlB
  obs s := obsBG n bf fa fn s.heap.get?
  val _ := (true, He.valD fn)
  says _ h := ∃ K : PySem.W.Frag, K.In h ∧ SaysB bf fa fn K
  of _ _ e := ⟨_, He.frG_in, congrArg (fun z : AlB => z.1) e, congrArg (fun z : AlB => z.2) e⟩
  keeps _ _ _ := fun ⟨K, hK, c⟩ k => ⟨K, PySem.W.Frag.In.keeps hK k, c⟩
theorem obsBG_eq {n : Nat} {bf : List (Str × Value)} {fa : List He.Fa} {fn : List He.DefD} {g : Addr → Option Obj} {s : Shared} (h : ∀ a, g a = s.heap.get? a) : obsBG n bf fa fn g = (hookB n bf fa fn).obs s :=
  (congrArg (obsBG n bf fa fn) (funext h : g = s.heap.get?)).trans rfl
theorem SaysB.bf {bf : List (Str × Value)} {fa : List He.Fa} {fn : List He.DefD} {K : PySem.W.Frag} (c : SaysB bf fa fn K) (i : Nat) {p : Str × Value} (h : bf[i]? = some p := by rfl) : bfB K p = true := List.all_eq_true.mp c.1 p (List.mem_of_getElem? h)
theorem q_glb {X : Cx} {E : XK} {x : Str} {u : Value} {d : D} {pos : Pos} (g : GlOk X.mg x u d) (hg : Gl X x := by rfl) (hd : (x == ("__debug__" : Str)) = false := by decide) : QE X E (.Name x pos) (dC d) := by
  obtain ⟨hm, ⟨i, e, r⟩ | ⟨z, e, r⟩⟩ := g
  · subst e
    exact q_val (pe_glob hg hm r hd) fun _ _ => rfl
  · subst e
    exact q_val (pe_glob hg hm r hd) fun _ _ => rfl
def rIAdd : R2D := fun d e S k _ => match d, e with
  | .int i, .int j => k (.int (i + j)) S
  | _, _ => False
theorem io_add {X : Cx} {E : XK} : OpR X (inplaceOp .Add) (LL2 (cy X E) rIAdd) := o_int0 iop_add fun _ _ _ _ => rfl
theorem io_sub {X : Cx} {E : XK} : OpR X (inplaceOp .Sub) (LL2 (cy X E) rSub) := o_int0 iop_sub fun _ _ _ _ => rfl
theorem io_xor {X : Cx} {E : XK} : OpR X (inplaceOp .BitXor) (LL2 (cy X E) rXor) := o_int0 iop_xor fun _ _ _ _ => rfl
/-- what the law's text owes: its world's facts, its binding, its end, its walk -/
structure Owes (Pg : Program) (n k : Nat) (x : Str) (w : World) (mg : Str → Option Value) (fa : Addr) (h : Heap) : Prop where
  ex : ∃ (K : PySem.W.Frag) (fd : FuncData) (sp : Sp), (K.In h ∧ ∀ (s : Shared) (u : Value), BindsTo s fd ⟨[u], []⟩ [(x, u)]) ∧
    (∀ (H : Hp) (a : Addr) (ns : List Int), ns.length ≤ n → Only H → SqL K H a (ns.map V.int) → sp [.ref a] H (fun v _ => v = .bl true) fun _ _ _ => False) ∧ ∀ B : Heap, K.In B → B.Ns mainGlobals mg → FnOk Pg w K mg B (L2.CX Pg w) k fa fd [x] sp
/-- the law's end, what it lets out by the world -/
theorem walk_ofW {l : PySem.W.OpenLaw} {n k : Nat} {q : Program} {loose : List Str} {XP : (Str → Option Value) → Heap → Prop} {YP : World → Heap → Prop} {d : DefRec} {x : Str} (hn : l.most = some n) (hn2 : n ≤ sizeLine) (hdf : d.params.defaults = []) (hr : Room k callerA)
    (F : ∀ (w : World) (mg : Str → Option Value) (fa : Addr) (h : Heap), YP w h → h.Ns mainGlobals mg → mg d.name = some (.ref fa) → Owes l.prog n k x w mg fa h) : PySem.W.WalkO q loose XP YP l.row.toRowW d [] (fun f vs => PySem.call f vs) := by
  refine Att.attach_call hn hdf ?_
  intro w s₀ s₁ mg mb fa o pm cd doc a vs ns G Y ho hd hcd hmg hobj hints hlen hg
  obtain ⟨K, fd, sp, ⟨KX, hb⟩, hsp, hF⟩ := (F w mg fa _ Y G.T.g hmg).ex
  refine law_call KX G.T.g G.T.b G.T.builtins G.T.nolimit hg hobj hints (Nat.le_trans hlen hn2) hr hF hb (fun H hO hS => hsp H a ns hlen hO hS) ?_
  rintro H e s' ⟨_, _, _, _, _, _, _, _, _, _, _, _, z⟩
  exact z.elim
end Q
namespace Q
open PySem
open Spec PyProof.Rows L2

/-! ### the store, read -/
def lget (S : Sto) (n : Nat) : Option (List D) := match S[n]? with
  | some (.lst ds) => some ds
  | some (.ro ds) => some ds
  | _ => none
theorem isL_iff {S : Sto} {n : Nat} {ds : List D} : isL S n ds ↔ lget S n = some ds := by
  unfold isL lget
  cases e : S[n]? with
  | none => simp
  | some o => cases o <;> simp
theorem lget_lst {S : Sto} {n : Nat} {ds : List D} (h : S[n]? = some (.lst ds)) : lget S n = some ds := by unfold lget; rw [h]
theorem lget_lt {S : Sto} {n : Nat} {ds : List D} (h : lget S n = some ds) : n < S.length := by
  unfold lget at h
  cases e : S[n]? with
  | none => rw [e] at h; cases h
  | some o => exact (List.getElem?_eq_some_iff.mp e).1
theorem tyR_of {S : Sto} {n : Nat} {ds : List D} (h : lget S n = some ds) : tyR S n = some .list := by
  unfold lget at h
  unfold tyR
  cases e : S[n]? with
  | none => rw [e] at h; cases h
  | some o => rw [e] at h; cases o <;> first | rfl | cases h
theorem get_lt {S : Sto} {n : Nat} {o : O} (h : S[n]? = some o) : n < S.length := (List.getElem?_eq_some_iff.mp h).1
theorem get_app {S G : Sto} {n : Nat} {o : O} (h : S[n]? = some o) : (S ++ G)[n]? = some o := by rw [List.getElem?_append_left (get_lt h)]; exact h
theorem lget_app {S G : Sto} {n : Nat} {ds : List D} (h : lget S n = some ds) : lget (S ++ G) n = some ds := by
  have hl := lget_lt h
  unfold lget at h ⊢
  rw [List.getElem?_append_left hl]
  exact h
theorem get_at0 {S G : Sto} {o : O} : (S ++ o :: G)[S.length]? = some o := by simp
theorem get_at {S G : Sto} {k : Nat} : (S ++ G)[S.length + k]? = G[k]? := by rw [List.getElem?_append_right (by omega)]; congr 1; omega
theorem lget_at0 {S G : Sto} {ds : List D} : lget (S ++ .lst ds :: G) S.length = some ds := lget_lst (by simp)
theorem lget_at {S G : Sto} {k : Nat} : lget (S ++ G) (S.length + k) = lget G k := by unfold lget; rw [get_at]
theorem lget_hd {ds : List D} {G : Sto} : lget (.lst ds :: G) 0 = some ds := rfl
theorem lget_tl {o : O} {k : Nat} {G : Sto} : lget (o :: G) (k + 1) = lget G k := rfl
theorem lget_end {A G : Sto} {ds : List D} {m : Nat} (h : A.length = m) : lget (A ++ .lst ds :: G) m = some ds := by subst h; exact lget_at0
theorem lget_end1 {A G : Sto} {o : O} {ds : List D} {m : Nat} (h : A.length + 1 = m) : lget (A ++ o :: .lst ds :: G) m = some ds := by subst h; rw [lget_at]; rfl
theorem lget_end2 {A G : Sto} {o u : O} {ds : List D} {m : Nat} (h : A.length + 2 = m) : lget (A ++ o :: u :: .lst ds :: G) m = some ds := by subst h; rw [lget_at]; rfl
theorem get_k {A G : Sto} {o : O} {m : Nat} (k : Nat) (h : A.length + k = m) (e : G[k]? = some o) : (A ++ G)[m]? = some o := by subst h; rw [get_at]; exact e
theorem lget_k {A G : Sto} {ds : List D} {m : Nat} (k : Nat) (h : A.length + k = m) (e : lget G k = some ds) : lget (A ++ G) m = some ds := by subst h; rw [lget_at]; exact e
theorem set_at0 {S G : Sto} {o u : O} : (S ++ o :: G).set S.length u = S ++ u :: G := by
  rw [List.set_append_right (h := by omega)]
  simp
theorem set_at {S G : Sto} {k : Nat} {u : O} : (S ++ G).set (S.length + k) u = S ++ G.set k u := by
  rw [List.set_append_right (h := by omega)]
  congr 2
  omega
theorem set_app {S G : Sto} {n : Nat} {u : O} (h : n < S.length) : (S ++ G).set n u = S.set n u ++ G := List.set_append_left _ _ h
theorem app1 {S G : Sto} {o : O} : S ++ G ++ [o] = S ++ (G ++ [o]) := by simp
theorem ex_some {α β : Type} {x : α} {P : α → Prop} : (∃ y, some x = some y ∧ P y) ↔ P x := by simp
/-! ### weakening -/
mutual
theorem mapR_id {f : Nat → Nat} {m : Nat} (h : ∀ k, k < m → f k = k) : ∀ (d : D), clD m d → mapR f d = d
  | .non, _ => rfl
  | .bl _, _ => rfl
  | .int _, _ => rfl
  | .str _, _ => rfl
  | .tup ds, c => by rw [mapR, mapRs_id h ds c]
  | .ref n, c => by rw [mapR, h n c]
theorem mapRs_id {f : Nat → Nat} {m : Nat} (h : ∀ k, k < m → f k = k) : ∀ (ds : List D), clDs m ds → mapRs f ds = ds
  | [], _ => rfl
  | d :: ds, c => by rw [mapRs, mapR_id h d c.1, mapRs_id h ds c.2]
end
theorem mapKs_id {f : Nat → Nat} {m : Nat} (h : ∀ k, k < m → f k = k) : ∀ (ds : List (Key × D)), clKs m ds → (ds.map fun p => (p.1, mapR f p.2)) = ds
  | [], _ => rfl
  | d :: ds, c => by rw [List.map_cons, mapR_id h d.2 c.1, mapKs_id h ds c.2]
theorem mapO_id {f : Nat → Nat} {m : Nat} (h : ∀ k, k < m → f k = k) (o : O) (c : clO m o) : mapO f o = o := by
  cases o with
  | lst ds => rw [mapO, mapRs_id h ds c]
  | ro ds => rw [mapO, mapRs_id h ds c]
  | dic ds => rw [mapO, mapKs_id h ds c]
  | exo x d => rw [mapO, mapR_id h d c]
  | oth => rfl
mutual
theorem clD_le {m n : Nat} (h : m ≤ n) : ∀ (d : D), clD m d → clD n d
  | .non, _ => trivial
  | .bl _, _ => trivial
  | .int _, _ => trivial
  | .str _, _ => trivial
  | .tup ds, c => clDs_le h ds c
  | .ref k, c => Nat.lt_of_lt_of_le c h
theorem clDs_le {m n : Nat} (h : m ≤ n) : ∀ (ds : List D), clDs m ds → clDs n ds
  | [], _ => trivial
  | d :: ds, c => ⟨clD_le h d c.1, clDs_le h ds c.2⟩
end
theorem clKs_le {m n : Nat} (h : m ≤ n) : ∀ (ds : List (Key × D)), clKs m ds → clKs n ds
  | [], _ => trivial
  | d :: ds, c => ⟨clD_le h d.2 c.1, clKs_le h ds c.2⟩
theorem clO_le {m n : Nat} (h : m ≤ n) (o : O) (c : clO m o) : clO n o := by
  cases o with
  | lst ds => exact clDs_le h ds c
  | ro ds => exact clDs_le h ds c
  | dic ds => exact clKs_le h ds c
  | exo x d => exact clD_le h d c
  | oth => trivial
/-- a store with one object more or written -/
theorem clS_set {S : Sto} {n : Nat} {o : O} (c : clS S) (h : clO S.length o) : clS (S.set n o) := fun k u e => by
  rw [List.length_set]
  by_cases hk : n = k
  · subst hk
    by_cases hn : n < S.length
    · rw [List.getElem?_set_self hn] at e
      cases e
      exact h
    · rw [List.getElem?_eq_none (by rw [List.length_set]; omega)] at e
      cases e
  · rw [List.getElem?_set_ne hk] at e
    exact c k u e
theorem clS_push {S : Sto} {o : O} (c : clS S) (h : clO (S.length + 1) o) : clS (S ++ [o]) := fun k u e => by
  rw [List.length_append, List.length_singleton]
  rcases get_push_cases e with e | ⟨_, rfl⟩
  · exact clO_le (by omega) u (c k u e)
  · exact h
/-- garbage dropped -/
theorem wk_drop {S G : Sto} {n : Nat} {kd : KD} {d : D} (hn : S.length = n) (cS : clS S) (cd : clD S.length d) (h : kd d S) : wk n kd d (S ++ G) := by
  refine .inr ⟨fun k => k, d, S, ⟨fun _ _ => rfl, by omega, fun _ _ _ _ e => e, fun k o e => ⟨cS k o e, ?_⟩, (mapR_id (fun _ _ => rfl) d cd).symm, cd⟩, h⟩
  rw [mapO_id (fun _ _ => rfl) o (cS k o e)]
  exact get_app e
theorem wk_now {S : Sto} {n : Nat} {kd : KD} {d : D} (h : kd d S) : wk n kd d S := .inl h
/-- a new object at j is given back -/
theorem wk_new {S G : Sto} {n j : Nat} {kd : KD} {o : O} (hn : S.length = n) (cS : clS S) (hj : n ≤ j) (hg : (S ++ G)[j]? = some o) (co : clO n o) (h : kd (.ref n) (S ++ [o])) : wk n kd (.ref j) (S ++ G) := by
  subst hn
  have low : ∀ k, k < S.length → (if k < S.length then k else j) = k := fun k hk => if_pos hk
  refine .inr ⟨fun k => if k < S.length then k else j, .ref S.length, S ++ [o], ⟨low, by simp, fun a b ha hb e => ?_, fun k u e => ?_, ?_, ?_⟩, h⟩
  · simp only [List.length_append, List.length_singleton] at ha hb
    by_cases h1 : a < S.length
    · by_cases h2 : b < S.length
      · simpa [h1, h2] using e
      · simp [h1, h2] at e; omega
    · by_cases h2 : b < S.length
      · simp [h1, h2] at e; omega
      · omega
  · rw [List.length_append, List.length_singleton]
    rcases get_push_cases e with e | ⟨rfl, rfl⟩
    · have hk := get_lt e
      refine ⟨clO_le (by omega) u (cS k u e), ?_⟩
      rw [low k hk, mapO_id low u (cS k u e)]
      exact get_app e
    · refine ⟨clO_le (by omega) u co, ?_⟩
      rw [if_neg (Nat.lt_irrefl _), mapO_id low u co]
      exact hg
  · simp [mapR]
  · simp [clD]
/-! ### loops over data -/
def rng (lo : Int) (i n : Nat) : List D := (List.range' i n).map fun j => D.int (lo + (j : Nat))
theorem rng_zero (lo : Int) (i : Nat) : rng lo i 0 = [] := rfl
theorem rng_succ (lo : Int) (i n : Nat) : rng lo i (n + 1) = D.int (lo + (i : Nat)) :: rng lo (i + 1) n := by unfold rng; rw [List.range'_succ, List.map_cons]
theorem rng_eq (lo : Int) (n : Nat) : ((List.range n).map fun i => D.int (lo + (i : Nat))) = rng lo 0 n := by unfold rng; rw [List.range_eq_range']
/-- a loop by a word over what is left -/
theorem wFor_ind {grd : Sto → Prop} {g : TGD} {tb : TSD} {M : EndsD} (I : List D → Sl → Sto → Prop) (hend : ∀ sg S, I [] sg S → grd S ∧ M.nx sg S)
    (hstep : ∀ d r sg S (nx : Sl → Sto → Prop), I (d :: r) sg S → (∀ sg' S', I r sg' S' → nx sg' S') → grd S ∧ g d sg S (fun sg1 S1 => tb { M with nx := nx, ct := nx, bk := M.nx } sg1 S1) M.ex) :
    ∀ (items : List D) (sg : Sl) (S : Sto), I items sg S → wFor grd g tb M items sg S
  | [], sg, S, h => hend sg S h
  | d :: r, sg, S, h => hstep d r sg S _ h fun sg' S' h' => wFor_ind I hend hstep r sg' S' h'
/-- .. over a range -/
theorem wFor_rng {grd : Sto → Prop} {g : TGD} {tb : TSD} {M : EndsD} {lo : Int} (n : Nat) (I : Nat → Sl → Sto → Prop) {sg : Sl} {S : Sto} (h0 : I 0 sg S) (hend : ∀ sg S, I n sg S → grd S ∧ M.nx sg S)
    (hstep : ∀ i sg S (nx : Sl → Sto → Prop), i < n → I i sg S → (∀ sg' S', I (i + 1) sg' S' → nx sg' S') → grd S ∧ g (.int (lo + (i : Nat))) sg S (fun sg1 S1 => tb { M with nx := nx, ct := nx, bk := M.nx } sg1 S1) M.ex) :
    wFor grd g tb M ((List.range n).map fun i => D.int (lo + (i : Nat))) sg S := by
  rw [rng_eq]
  have key : ∀ (r i : Nat) (sg : Sl) (S : Sto), i + r = n → I i sg S → wFor grd g tb M (rng lo i r) sg S := by
    intro r
    induction r with
    | zero =>
      intro i sg S e h
      have : i = n := by omega
      subst this
      exact hend sg S h
    | succ r ih =>
      intro i sg S e h
      rw [rng_succ]
      exact hstep i sg S _ (by omega) h fun sg' S' h' => ih (i + 1) sg' S' (by omega) h'
  exact key n 0 sg S (by omega) h0
/-- a while by a word and a measure -/
theorem dWhile_by {c : TTD} {tb : TSD} {M : EndsD} {sg : Sl} {S : Sto} (I : Nat → Sl → Sto → Prop) (m0 : Nat) (h0 : I m0 sg S)
    (hs : ∀ m sg S (nx : Sl → Sto → Prop), I m sg S → (∀ m' sg' S', m' < m → I m' sg' S' → nx sg' S') → c sg S (fun b S1 => (b = true → tb { M with nx := nx, ct := nx, bk := M.nx } sg S1) ∧ (b = false → M.nx sg S1)) M.ex) : dWhile c tb M sg S :=
  ⟨I, ⟨m0, h0⟩, fun m sg S h => hs m sg S _ h fun m' sg' S' hm h' => ⟨m', hm, h'⟩⟩
/-- a comprehension whose element is reckoned purely -/
theorem wLc_map {grd : Sto → Prop} {i : Nat} {te : TED} {sg : Sl} {n0 : Nat} {k : Sto → Prop} {f : D → D} : ∀ (items : List D) (S : Sto) (acc : List D),
    (∀ d ∈ items, ∀ (acc : List D) (kk : KD), grd (S.set n0 (.lst acc)) ∧ (kk (f d) (S.set n0 (.lst acc)) → te (sg.set i (some d)) (S.set n0 (.lst acc)) kk XF)) → (∀ acc, grd (S.set n0 (.lst acc))) → n0 < S.length → acc.length + items.length ≤ sizeLine →
    k (S.set n0 (.lst (acc ++ items.map f))) → wLc grd (gNm i) dYes te sg n0 k items (S.set n0 (.lst acc))
  | [], S, acc, _, hg, _, _, hk => ⟨hg acc, by simpa using hk⟩
  | d :: r, S, acc, he, hg, hn, hl, hk => by
    refine ⟨hg acc, ⟨fun _ => ?_, fun z => nomatch z⟩⟩
    refine (he d List.mem_cons_self acc _).2 ?_
    refine ⟨acc, by rw [List.getElem?_set_self hn], by rw [List.length_cons] at hl; omega, ?_⟩
    rw [List.set_set]
    refine wLc_map r S (acc ++ [f d]) (fun d hd => he d (List.mem_cons_of_mem _ hd)) hg hn (by rw [List.length_append, List.length_singleton]; rw [List.length_cons] at hl; omega) ?_
    rw [List.append_assoc]
    exact hk
/-- .. with a test -/
theorem wLc_filter {grd : Sto → Prop} {i : Nat} {tt : TTD} {te : TED} {sg : Sl} {n0 : Nat} {k : Sto → Prop} {p : D → Bool} {f : D → D} : ∀ (items : List D) (S : Sto) (acc : List D),
    (∀ d ∈ items, ∀ (acc : List D) (kk : Bool → Sto → Prop), kk (p d) (S.set n0 (.lst acc)) → tt (sg.set i (some d)) (S.set n0 (.lst acc)) kk XF) →
    (∀ d ∈ items, p d = true → ∀ (acc : List D) (kk : KD), kk (f d) (S.set n0 (.lst acc)) → te (sg.set i (some d)) (S.set n0 (.lst acc)) kk XF) → (∀ acc, grd (S.set n0 (.lst acc))) → n0 < S.length → acc.length + items.length ≤ sizeLine →
    k (S.set n0 (.lst (acc ++ (items.filter p).map f))) → wLc grd (gNm i) tt te sg n0 k items (S.set n0 (.lst acc))
  | [], S, acc, _, _, hg, _, _, hk => ⟨hg acc, by simpa using hk⟩
  | d :: r, S, acc, ht, he, hg, hn, hl, hk => by
    refine ⟨hg acc, ht d List.mem_cons_self acc _ ⟨fun hp => ?_, fun hp => ?_⟩⟩
    · refine he d List.mem_cons_self hp acc _ ?_
      refine ⟨acc, by rw [List.getElem?_set_self hn], by rw [List.length_cons] at hl; omega, ?_⟩
      rw [List.set_set]
      refine wLc_filter r S (acc ++ [f d]) (fun d hd => ht d (List.mem_cons_of_mem _ hd)) (fun d hd => he d (List.mem_cons_of_mem _ hd)) hg hn (by rw [List.length_append, List.length_singleton]; rw [List.length_cons] at hl; omega) ?_
      rw [List.append_assoc]
      rw [List.filter_cons_of_pos hp] at hk
      exact hk
    · refine wLc_filter r S acc (fun d hd => ht d (List.mem_cons_of_mem _ hd)) (fun d hd => he d (List.mem_cons_of_mem _ hd)) hg hn (by rw [List.length_cons] at hl; omega) ?_
      rw [List.filter_cons_of_neg (by rw [hp]; decide)] at hk
      exact hk
/-- the reading of [.. for name in ..] from a fresh list -/
theorem lc_map {it : ItD} {i : Nat} {te : TED} {sg : Sl} {k : KD} {S : Sto} (f : D → D)
    (he : ∀ d ∈ it.items, ∀ (acc : List D) (kk : KD), kk (f d) (S ++ [.lst acc]) → te (sg.set i (some d)) (S ++ [.lst acc]) kk XF) (hg : ∀ acc, it.grd (S ++ [.lst acc])) (hl : it.items.length ≤ sizeLine)
    (hk : k (.ref S.length) (S ++ [.lst (it.items.map f)])) : kLc (gNm i) dYes te sg k it S := by
  unfold kLc
  have e : ∀ acc, (S ++ [O.lst []]).set S.length (.lst acc) = S ++ [.lst acc] := fun acc => set_at0
  have q := wLc_map (grd := it.grd) (i := i) (te := te) (sg := sg) (n0 := S.length) (k := fun S' => k (.ref S.length) S') (f := f) it.items (S ++ [.lst []]) []
    (fun d hd acc kk => ⟨by rw [e]; exact hg acc, by rw [e]; exact he d hd acc kk⟩) (fun acc => by rw [e]; exact hg acc) (by simp) (by simpa using hl) (by rw [e]; exact hk)
  rw [e] at q
  exact q
theorem lc_filter {it : ItD} {i : Nat} {tt : TTD} {te : TED} {sg : Sl} {k : KD} {S : Sto} (p : D → Bool) (f : D → D)
    (ht : ∀ d ∈ it.items, ∀ (acc : List D) (kk : Bool → Sto → Prop), kk (p d) (S ++ [.lst acc]) → tt (sg.set i (some d)) (S ++ [.lst acc]) kk XF)
    (he : ∀ d ∈ it.items, p d = true → ∀ (acc : List D) (kk : KD), kk (f d) (S ++ [.lst acc]) → te (sg.set i (some d)) (S ++ [.lst acc]) kk XF) (hg : ∀ acc, it.grd (S ++ [.lst acc])) (hl : it.items.length ≤ sizeLine)
    (hk : k (.ref S.length) (S ++ [.lst ((it.items.filter p).map f)])) : kLc (gNm i) tt te sg k it S := by
  unfold kLc
  have e : ∀ acc, (S ++ [O.lst []]).set S.length (.lst acc) = S ++ [.lst acc] := fun acc => set_at0
  have q := wLc_filter (grd := it.grd) (i := i) (tt := tt) (te := te) (sg := sg) (n0 := S.length) (k := fun S' => k (.ref S.length) S') (p := p) (f := f) it.items (S ++ [.lst []]) []
    (fun d hd acc kk => by rw [e]; exact ht d hd acc kk) (fun d hd hp acc kk => by rw [e]; exact he d hd hp acc kk) (fun acc => by rw [e]; exact hg acc) (by simp) (by simpa using hl) (by rw [e]; exact hk)
  rw [e] at q
  exact q
/-! ### == of data without objects -/
mutual
def pyD : D → PyData
  | .non => .none
  | .bl b => .bool b
  | .int i => .int i
  | .str x => .str x
  | .tup ds => .tuple (pyDs ds)
  | .ref _ => .none
def pyDs : List D → List PyData
  | [] => []
  | d :: ds => pyD d :: pyDs ds
end
mutual
/-- without objects, of at most this depth -/
def pd : Nat → D → Bool
  | _, .non => true
  | _, .bl _ => true
  | _, .int _ => true
  | _, .str x => (PyData.str x).canLay0
  | 0, .tup _ => false
  | n + 1, .tup ds => pds n ds
  | _, .ref _ => false
def pds : Nat → List D → Bool
  | _, [] => true
  | n, d :: ds => pd n d && pds n ds
end
def eqD (d e : D) : Bool := PyData.eqv (pyD d) (pyD e)
def eqDs (d e : List D) : Bool := PyData.eqvAll (pyDs d) (pyDs e)
mutual
theorem pd_py {S : Sto} : ∀ (d : D) (n : Nat), pd n d = true → DPy S d (pyD d) ∧ (pyD d).canLay0 = true ∧ (pyD d).depth ≤ n
  | .non, n, _ => ⟨.non, rfl, Nat.zero_le _⟩
  | .bl b, n, _ => ⟨.bl b, rfl, Nat.zero_le _⟩
  | .int i, n, _ => ⟨.int i, rfl, Nat.zero_le _⟩
  | .str x, n, h => ⟨.str x, by cases n <;> exact h, Nat.zero_le _⟩
  | .tup ds, 0, h => by cases h
  | .tup ds, n + 1, h => by
    obtain ⟨h1, h2, h3⟩ := pds_py (S := S) ds n h
    exact ⟨.tup h1, h2, by show PyData.depthAll (pyDs ds) + 1 ≤ n + 1; omega⟩
  | .ref _, n, h => by cases n <;> cases h
theorem pds_py {S : Sto} : ∀ (ds : List D) (n : Nat), pds n ds = true → DPys S ds (pyDs ds) ∧ PyData.canLayAll0 (pyDs ds) = true ∧ PyData.depthAll (pyDs ds) ≤ n
  | [], n, _ => ⟨.nil, rfl, Nat.zero_le _⟩
  | d :: ds, n, h => by
    have h' : pd n d = true ∧ pds n ds = true := by simpa [pds] using h
    obtain ⟨a1, a2, a3⟩ := pd_py (S := S) d n h'.1
    obtain ⟨b1, b2, b3⟩ := pds_py (S := S) ds n h'.2
    exact ⟨.cons a1 b1, by show ((pyD d).canLay0 && PyData.canLayAll0 (pyDs ds)) = true; rw [a2, b2]; rfl, by show max (pyD d).depth (PyData.depthAll (pyDs ds)) ≤ n; omega⟩
end
theorem shaped_of {p : PyData} {n : Nat} (h : p.canLay0 = true) (h2 : p.depth ≤ n) (hn : n ≤ 64) : SeqAt.shaped p = true := by
  unfold SeqAt.shaped
  rw [h, decide_eq_true (by omega : p.depth ≤ 64)]
  rfl
theorem eqG_pure {d e : D} {S : Sto} {k : Bool → Prop} (n m : Nat) (hd : pd n d = true) (he : pd m e = true) (h : k (eqD d e)) (hn : n ≤ 64 := by decide) (hm : m ≤ 64 := by decide) : eqG d e S k := by
  obtain ⟨a1, a2, a3⟩ := pd_py (S := S) d n hd
  obtain ⟨b1, b2, b3⟩ := pd_py (S := S) e m he
  exact ⟨_, _, a1, b1, shaped_of a2 a3 hn, shaped_of b2 b3 hm, h⟩
/-- two lists of data without objects -/
theorem eqG_lst {a b : Nat} {xs ys : List D} {S : Sto} {k : Bool → Prop} (n m : Nat) (ha : lget S a = some xs) (hb : lget S b = some ys) (hd : pds n xs = true) (he : pds m ys = true) (h : k (eqDs xs ys)) (hn : n ≤ 60 := by decide) (hm : m ≤ 60 := by decide) : eqG (.ref a) (.ref b) S k := by
  obtain ⟨a1, a2, a3⟩ := pds_py (S := S) xs n hd
  obtain ⟨b1, b2, b3⟩ := pds_py (S := S) ys m he
  exact ⟨_, _, .ref (isL_iff.mpr ha) a1, .ref (isL_iff.mpr hb) b1, shaped_of (n := n + 1) a2 (by show PyData.depthAll _ + 1 ≤ n + 1; omega) (by omega), shaped_of (n := m + 1) b2 (by show PyData.depthAll _ + 1 ≤ m + 1; omega) (by omega), h⟩
theorem eqDs_nil (ds : List D) : eqDs ds [] = ds.isEmpty := by cases ds <;> rfl
theorem eqD_tup (ds es : List D) : eqD (.tup ds) (.tup es) = eqDs ds es := by
  unfold eqD eqDs
  rw [pyD, pyD, PyData.eqv]
theorem eqDs_cons (d e : D) (ds es : List D) : eqDs (d :: ds) (e :: es) = (eqD d e && eqDs ds es) := by
  unfold eqDs eqD
  rw [pyDs, pyDs, PyData.eqvAll]
theorem eqD_int (i j : Int) : eqD (.int i) (.int j) = decide (i = j) := by
  show (i == j) = decide (i = j)
  rw [Bool.beq_eq_decide_eq]
theorem atI0 {α : Type} (a : α) (l : List α) : atI (a :: l) (0 : Int) = some a := atI_nat (j := 0) rfl
theorem atI1 {α : Type} (a b : α) (l : List α) : atI (a :: b :: l) (1 : Int) = some b := atI_nat (j := 1) rfl
theorem atI2 {α : Type} (a b c : α) (l : List α) : atI (a :: b :: c :: l) (2 : Int) = some c := atI_nat (j := 2) rfl
theorem atI3 {α : Type} (a b c d : α) (l : List α) : atI (a :: b :: c :: d :: l) (3 : Int) = some d := atI_nat (j := 3) rfl
theorem atI_in {α : Type} (l : List α) (r : Nat) (h : r < l.length) : ∃ d, atI l (r : Int) = some d ∧ d ∈ l := ⟨l[r], atI_nat (List.getElem?_eq_getElem h), List.getElem_mem h⟩
theorem ixN_nat {n j : Nat} (h : j < n) : ixN n (j : Int) = some j := by
  unfold ixN
  rw [if_pos (by omega), if_pos (by omega)]
  simp
theorem get_set_self {S : Sto} {n : Nat} {o u : O} (h : S[n]? = some o) : (S.set n u)[n]? = some u := List.getElem?_set_self (get_lt h)
theorem lget_set_self {S : Sto} {n : Nat} {o : O} {ds : List D} (h : S[n]? = some o) : lget (S.set n (.lst ds)) n = some ds := lget_lst (get_set_self h)
theorem paired_len {α β : Type} {R : α → β → Prop} : ∀ {l : List α} {m : List β}, Paired R l m → l.length = m.length
  | _, _, .nil => rfl
  | _, _, .cons _ t => by rw [List.length_cons, List.length_cons, paired_len t]
theorem paired_get {α β : Type} {R : α → β → Prop} : ∀ {l : List α} {m : List β} {i : Nat} {a : α} {b : β}, Paired R l m → l[i]? = some a → m[i]? = some b → R a b
  | _, _, 0, _, _, .cons r _, h1, h2 => by
    simp at h1 h2
    subst h1 h2
    exact r
  | _, _, i + 1, _, _, .cons _ t, h1, h2 => paired_get (i := i) t (by simpa using h1) (by simpa using h2)
/-- the same data, of the same kinds -/
def sameD (S : Sto) : Nat → D → D → Prop
  | 0, d, e => flatD d = true ∧ d = e
  | n + 1, d, e => (flatD d = true ∧ d = e) ∨ (∃ xs ys, d = .tup xs ∧ e = .tup ys ∧ ys.length ≤ sizeLine ∧ Paired (sameD S n) xs ys) ∨
      ∃ a b xs ys, d = .ref a ∧ e = .ref b ∧ lget S a = some xs ∧ lget S b = some ys ∧ ys.length ≤ sizeLine ∧ Paired (sameD S n) xs ys
theorem sameD_mono {S G : Sto} : ∀ (n : Nat) (d e : D), sameD S n d e → sameD (S ++ G) n d e
  | 0, d, e, h => h
  | n + 1, d, e, h => by
    rcases h with h | ⟨xs, ys, h1, h2, hl, h3⟩ | ⟨a, b, xs, ys, h1, h2, h3, h4, hl, h5⟩
    · exact .inl h
    · exact .inr (.inl ⟨xs, ys, h1, h2, hl, Paired.mapP h3 fun a b q => sameD_mono n a b q⟩)
    · exact .inr (.inr ⟨a, b, xs, ys, h1, h2, lget_app h3, lget_app h4, hl, Paired.mapP h5 fun a b q => sameD_mono n a b q⟩)
theorem sameD_flat {S : Sto} {d : D} (h : flatD d = true) : ∀ n, sameD S n d d
  | 0 => ⟨h, rfl⟩
  | n + 1 => .inl ⟨h, rfl⟩
theorem sameD_lst {S : Sto} {n a b : Nat} {xs ys : List D} (h1 : lget S a = some xs) (h2 : lget S b = some ys) (hl : ys.length ≤ sizeLine) (h : Paired (sameD S n) xs ys) : sameD S (n + 1) (.ref a) (.ref b) := .inr (.inr ⟨a, b, xs, ys, rfl, rfl, h1, h2, hl, h⟩)
theorem sameD_tup {S : Sto} {n : Nat} {xs ys : List D} (hl : ys.length ≤ sizeLine) (h : Paired (sameD S n) xs ys) : sameD S (n + 1) (.tup xs) (.tup ys) := .inr (.inl ⟨xs, ys, rfl, rfl, hl, h⟩)
theorem paired_same {S : Sto} {n : Nat} {f : D → Prop} : ∀ (xs : List D), (∀ d ∈ xs, sameD S n d d) → Paired (sameD S n) xs xs
  | [], _ => .nil
  | d :: ds, h => .cons (h d List.mem_cons_self) (paired_same (f := f) ds fun e he => h e (List.mem_cons_of_mem _ he))
theorem len1 {α : Type} {l : List α} (h : l.length = 1) : ∃ a, l = [a] := match l, h with | [a], _ => ⟨a, rfl⟩
theorem len2 {α : Type} {l : List α} (h : l.length = 2) : ∃ a b, l = [a, b] := match l, h with | [a, b], _ => ⟨a, b, rfl⟩
theorem len3 {α : Type} {l : List α} (h : l.length = 3) : ∃ a b c, l = [a, b, c] := match l, h with | [a, b, c], _ => ⟨a, b, c, rfl⟩
theorem sl16 : (sizeLine : Nat) = 16777216 := sizeLine_eq
/-- a cut between two statements -/
theorem dSeq_cut {t u : TSD} {M : EndsD} {sg : Sl} {S : Sto} (P : Sl → Sto → Prop) (h : ∀ nx : Sl → Sto → Prop, (∀ sg S, P sg S → nx sg S) → t { M with nx := nx } sg S) (h2 : ∀ sg S, P sg S → u M sg S) : dSeq t u M sg S := h (u M) h2
theorem dSeq_go {t u : TSD} {M : EndsD} {sg : Sl} {S : Sto} (h : t { M with nx := u M } sg S) : dSeq t u M sg S := h
theorem sorted_at {S : Sto} {w : Nat} {ns : List Int} {k : KD} {x : XD} (hw : lget S w = some (ns.map D.int)) (h : ∀ ms : List Int, ms.Perm ns → ms.Pairwise (· ≤ ·) → k (.ref S.length) (S ++ [.lst (ms.map D.int)])) : spSorted [.ref w] S k x := ⟨ns, isL_iff.mpr hw, h⟩
theorem map_natint (l : List Nat) : (l.map fun c : Nat => (c : Int)).map D.int = l.map fun c : Nat => D.int (c : Int) := by rw [List.map_map]; rfl
theorem inF_nats {c : Nat} : ∀ {l : List Nat}, inF (.int (c : Int)) (l.map fun c : Nat => D.int (c : Int)) = decide (c ∈ l) := by
  intro l
  induction l with
  | nil => rfl
  | cons a l ih =>
    show ((decide ((a : Int) = (c : Int))) || inF (.int (c : Int)) (l.map fun c : Nat => D.int (c : Int))) = _
    rw [ih, Bool.eq_iff_iff]
    simp only [Bool.or_eq_true, decide_eq_true_eq, List.mem_cons]
    exact ⟨fun h => h.imp (fun h => by omega) id, fun h => h.imp (fun h => by omega) id⟩
theorem flat_nats (l : List Nat) : (l.map fun c : Nat => D.int (c : Int)).all flatD = true := by
  rw [List.all_map]
  exact List.all_eq_true.mpr fun _ _ => rfl
theorem sl_ok (n : Nat) (h : n ≤ 1000000) : n ≤ sizeLine := Nat.le_trans h (by decide)
/-- data that is the same as itself -/
def sdB : Nat → D → Bool
  | _, .non => true
  | _, .bl _ => true
  | _, .int _ => true
  | _, .str _ => true
  | n + 1, .tup ds => decide (ds.length ≤ 1000000) && ds.all (sdB n)
  | _, _ => false
theorem sameD_self {S : Sto} : ∀ (n : Nat) (d : D), sdB n d = true → sameD S n d d
  | n, .non, _ => sameD_flat rfl n
  | n, .bl _, _ => sameD_flat rfl n
  | n, .int _, _ => sameD_flat rfl n
  | n, .str _, _ => sameD_flat rfl n
  | n + 1, .tup ds, h => by
    have h : (decide (ds.length ≤ 1000000) && ds.all (sdB n)) = true := h
    rw [Bool.and_eq_true, List.all_eq_true] at h
    exact sameD_tup (sl_ok _ (of_decide_eq_true h.1)) (paired_same (f := fun _ => True) ds fun d hd => sameD_self n d (h.2 d hd))
  | 0, .tup _, h => nomatch h
  | 0, .ref _, h => nomatch h
  | _ + 1, .ref _, h => nomatch h
theorem paired_self {S : Sto} {n : Nat} (xs : List D) (h : xs.all (sdB n) = true) : Paired (sameD S n) xs xs := paired_same (f := fun _ => True) xs fun d hd => sameD_self n d (List.all_eq_true.mp h d hd)
/-! ### slices whose ends are natural -/
theorem cut_take (ds : List D) (k : Nat) : cutD ds none (some (k : Int)) = ds.take k := by
  unfold cutD
  rw [HT.sIx_nat]
  show (ds.drop 0).take (min k ds.length - 0) = _
  rw [List.drop_zero, Nat.sub_zero, ← List.take_take, List.take_length]
theorem cut_drop (ds : List D) (k : Nat) : cutD ds (some (k : Int)) none = ds.drop k := by
  unfold cutD
  rw [HT.sIx_nat]
  show (ds.drop (min k ds.length)).take (ds.length - min k ds.length) = _
  by_cases h : k ≤ ds.length
  · rw [Nat.min_eq_left h]
    exact List.take_of_length_le (by rw [List.length_drop]; exact Nat.le_refl _)
  · rw [Nat.min_eq_right (by omega), List.drop_of_length_le (Nat.le_refl _), List.drop_of_length_le (by omega)]
    simp
end Q
namespace Q
open PySem
open Spec PyProof.Rows L2

/-! ### dicts: a comprehension, sorted keys -/
def keyD : Key → D
  | .inl i => .int i
  | .inr x => .str x
theorem key_rd {K : PySem.W.Frag} {H : Hp} {al : List Addr} {k : Key} {v : V} (r : RD K H al (keyD k) v) : v = kV k := by
  cases k with
  | inl i => exact r
  | inr x => exact r
def putD (kvs : List (Key × D)) (k : Key) (v : D) : List (Key × D) := match kvs.any fun p => decide (p.1 = k) with
  | true => kvs.map fun p => if p.1 = k then (p.1, v) else p
  | false => kvs ++ [(k, v)]
theorem rks_any {K : PySem.W.Frag} {H : Hp} {al : List Addr} {k : Key} : ∀ {ds : List (Key × D)} {vs : List (Key × V)}, RKs K H al ds vs → (vs.any fun p => decide (p.1 = k)) = ds.any fun p => decide (p.1 = k)
  | [], _, h => by rw [show _ = [] from h]; rfl
  | d :: ds, _, ⟨v, r, e, _, h2⟩ => by
    subst e
    rw [List.any_cons, List.any_cons, rks_any h2]
theorem rks_app {K : PySem.W.Frag} {H : Hp} {al : List Addr} {k : Key} {d : D} {v : V} (rd : RD K H al d v) : ∀ {ds : List (Key × D)} {vs : List (Key × V)}, RKs K H al ds vs → RKs K H al (ds ++ [(k, d)]) (vs ++ [(k, v)])
  | [], _, h => by rw [show _ = [] from h]; exact ⟨v, [], rfl, rd, rfl⟩
  | p :: ds, _, ⟨w, r, e, h1, h2⟩ => by
    subst e
    exact ⟨w, _, rfl, h1, rks_app rd h2⟩
theorem rks_map1 {K : PySem.W.Frag} {H : Hp} {al : List Addr} {k : Key} {d : D} {v : V} (rd : RD K H al d v) : ∀ {ds : List (Key × D)} {vs : List (Key × V)}, RKs K H al ds vs → RKs K H al (ds.map fun p => if p.1 = k then (p.1, d) else p) (vs.map fun p => if p.1 = k then (p.1, v) else p)
  | [], _, h => by rw [show _ = [] from h]; exact rfl
  | p :: ds, _, ⟨w, r, e, h1, h2⟩ => by
    subst e
    rw [List.map_cons, List.map_cons]
    by_cases q : p.1 = k
    · rw [if_pos q, if_pos q]
      exact ⟨v, _, rfl, rd, rks_map1 rd h2⟩
    · rw [if_neg q, if_neg q]
      exact ⟨w, _, rfl, h1, rks_map1 rd h2⟩
theorem rks_put {K : PySem.W.Frag} {H : Hp} {al : List Addr} {k : Key} {d : D} {v : V} {ds : List (Key × D)} {vs : List (Key × V)} (rd : RD K H al d v) (r : RKs K H al ds vs) : RKs K H al (putD ds k d) (putK vs k v) := by
  unfold putD putK
  rw [rks_any r]
  cases ds.any fun p => decide (p.1 = k) with
  | true => exact rks_map1 rd r
  | false => exact rks_app rd r
theorem rks_len {K : PySem.W.Frag} {H : Hp} {al : List Addr} : ∀ {ds : List (Key × D)} {vs : List (Key × V)}, RKs K H al ds vs → vs.length = ds.length
  | [], _, h => by rw [show _ = [] from h]; rfl
  | d :: ds, _, ⟨v, r, e, _, h2⟩ => by
    subst e
    rw [List.length_cons, List.length_cons, rks_len h2]
theorem rks_keys {K : PySem.W.Frag} {H : Hp} {al : List Addr} : ∀ {ds : List (Key × D)} {vs : List (Key × V)}, RKs K H al ds vs → vs.map (·.1) = ds.map (·.1)
  | [], _, h => by rw [show _ = [] from h]; rfl
  | d :: ds, _, ⟨v, r, e, _, h2⟩ => by
    subst e
    rw [List.map_cons, List.map_cons, rks_keys h2]
theorem new_dic {K : PySem.W.Frag} {H : Hp} {al : List Addr} {S : Sto} {p : Addr} {ds : List (Key × D)} {vs : List (Key × V)} (r : RS K H al S) (hp : H p = none) (rd : RKs K H al ds vs) : Fut K H al (upd H p (.dK vs)) (al ++ [p]) (S ++ [.dic ds]) :=
  Fut.push r hp ⟨vs, upd_same, RKs.mono (Keep.laid hp) _ _ rd⟩
theorem set_dic {K : PySem.W.Frag} {H : Hp} {al : List Addr} {S : Sto} {n : Nat} {p : Addr} {ds xs : List (Key × D)} {vs : List (Key × V)} (rs : RS K H al S) (h : S[n]? = some (.dic xs)) (hp : al[n]? = some p) (r : RKs K H al ds vs) : Fut K H al (upd H p (.dK vs)) al (S.set n (.dic ds)) := by
  obtain ⟨us, e1, _⟩ := rs.ob n _ p h hp
  have kp : Keep H (upd H p (.dK vs)) := Keep.write e1 (.inr ⟨_, rfl⟩)
  refine Fut.set rs h rfl hp ⟨vs, upd_same, ?_⟩ rfl
  have := RKs.mono (t := []) kp _ _ r
  rwa [List.append_nil] at this
def kDc4 (n0 : Nat) (k : Sto → Prop) (y : D) : KD := fun z S => ∃ kvs key, y = keyD key ∧ S[n0]? = some (.dic kvs) ∧ kvs.length < sizeLine ∧ k (S.set n0 (.dic (putD kvs key z)))
def kDc3 (tv : TED) (sg : Sl) (n0 : Nat) (k : Sto → Prop) : KD := fun y S => tv sg S (kDc4 n0 k y) XF
def wDc (grd : Sto → Prop) (g : TGD) (tt : TTD) (tk tv : TED) (sg : Sl) (n0 : Nat) (k : Sto → Prop) : List D → Sto → Prop
  | [], S => grd S ∧ k S
  | d :: r, S => grd S ∧ g d sg S (fun sg1 S1 => tt sg1 S1 (fun b S2 => (b = true → tk sg1 S2 (kDc3 tv sg1 n0 (wDc grd g tt tk tv sg n0 k r)) XF) ∧ (b = false → wDc grd g tt tk tv sg n0 k r S2)) XF) XF
def kDc (g : TGD) (tt : TTD) (tk tv : TED) (sg : Sl) (k : KD) : ItD → Sto → Prop := fun it S => wDc it.grd g tt tk tv sg S.length (fun S' => k (.ref S.length) S') it.items (S ++ [.dic []])
def dDc (ti : TID) (g : TGD) (tt : TTD) (tk tv : TED) (vs : List Nat) : TED := fun sg S k x => ti sg S (kDc g tt tk tv (wipeD sg vs) k) x
theorem dc_red {K : PySem.W.Frag} {mg : Str → Option Value} {ti : TID} {g : TGD} {tt : TTD} {tk tv : TED} {vs : List Nat} {tV : TG} {s : L2.St} {H : Hp} {Q : VK} {E : XK}
    (hl : ∀ v s H Q, LG ⟨K, mg, E0⟩ g v s H Q → tV v s H Q) (hw : WipeOK vs tV) (h : LE ⟨K, mg, E⟩ (dDc ti g tt tk tv vs) s H Q) : tDc (LI ⟨K, mg, E⟩ ti) tV (LT ⟨K, mg, E0⟩ tt) (LE ⟨K, mg, E0⟩ tk) (LE ⟨K, mg, E0⟩ tv) vs s H Q := by
  obtain ⟨sg, al, S, kd, xd, rs, rl, q, up, ux⟩ := h
  refine ⟨sg, al, S, kDc g tt tk tv (wipeD sg vs) kd, xd, rs, rl, q, fun it S1 al1 H1 J f1 iok q1 => ?_, ux⟩
  intro D hD
  have q1 : wDc it.grd g tt tk tv (wipeD sg vs) S1.length (fun S' => kd (.ref S1.length) S') it.items (S1 ++ [.dic []]) := q1
  have fN : Fut K H1 al1 (upd H1 D (.dK [])) (al1 ++ [D]) (S1 ++ [.dic []]) := new_dic f1.rs hD rfl
  have aN : (al1 ++ [D])[S1.length]? = some D := by rw [← f1.rs.len]; simp
  refine ⟨fun i m H' => ∃ al' S', Fut K (upd H1 D (.dK [])) (al1 ++ [D]) H' al' S' ∧ wDc it.grd g tt tk tv (wipeD sg vs) S1.length (fun S' => kd (.ref S1.length) S') (it.items.drop i) S' ∧ m = it.items.length - i ∧ i ≤ it.items.length, ⟨it.items.length, _, _, .now fN.rs, q1, by simp, Nat.zero_le _⟩, ?_⟩
  rintro i m H2 ⟨al2, S2, f2, w2, rfl, hi⟩
  by_cases hlt : i < it.items.length
  · rw [List.drop_eq_getElem_cons hlt] at w2
    obtain ⟨gr, w2⟩ := w2
    refine .inr ⟨iok.go i H2 al2 S2 (fN.trans f2) gr hlt, fun H' => ∃ m', m' < it.items.length - i ∧ ∃ al' S', Fut K (upd H1 D (.dK [])) (al1 ++ [D]) H' al' S' ∧ wDc it.grd g tt tk tv (wipeD sg vs) S1.length (fun S' => kd (.ref S1.length) S') (it.items.drop (i + 1)) S' ∧ m' = it.items.length - (i + 1) ∧ i + 1 ≤ it.items.length, fun H' h => h, fun x H' hy => ?_⟩
    obtain ⟨f3, r3⟩ := iok.yld i _ H2 al2 S2 x H' (fN.trans f2) gr (List.getElem?_eq_getElem hlt) hy
    have fA := (f1.trans fN).trans (f2.trans f3)
    refine hw _ _ _ _ _ (fun s2 H2 e q => ⟨e.trans (wipe_wipe _ _), q⟩) (hl _ _ _ _ ⟨_, wipeD sg vs, al2, S2, _, XF, f3.rs, rsl_wipe (fA.rsl rl) vs, r3, w2, fun sg4 S4 al4 H4 sv4 f4 rl4 q4 => ?_, ux0⟩)
    refine ⟨sg4, al4, S4, _, XF, f4.rs, rl4, q4, fun b S5 al5 H5 f5 q5 => ite_of ⟨fun e => ?_, fun e => ?_⟩, ux0⟩
    · refine ⟨sg4, al5, S5, _, XF, f5.rs, f5.rsl rl4, q5.1 e, fun y S6 al6 H6 v6 f6 r6 q6 => ?_, ux0⟩
      refine ⟨sg4, al6, S6, _, XF, f6.rs, f6.rsl (f5.rsl rl4), q6, fun z S7 al7 H7 v7 f7 r7 q7 => ?_, ux0⟩
      obtain ⟨acc, key, ek, ha, hz, q7⟩ := q7
      subst ek
      have fB := ((f2.trans f3).trans f4).trans ((f5.trans f6).trans f7)
      have a7 := getExt fB aN
      obtain ⟨us, e7, ru⟩ := f7.rs.ob _ _ _ ha a7
      exact ⟨us, key, key_rd r6, e7, by rw [rks_len ru]; exact hz, it.items.length - (i + 1), by omega, al7, _, fB.trans (set_dic f7.rs ha a7 (rks_put r7 ru)), q7, rfl, hlt⟩
    · exact ⟨it.items.length - (i + 1), by omega, al5, S5, ((f2.trans f3).trans f4).trans f5, q5.2 e, rfl, hlt⟩
  · have e : i = it.items.length := by omega
    subst e
    rw [List.drop_length] at w2
    obtain ⟨gr, w2⟩ := w2
    exact .inl ⟨iok.stop H2 al2 S2 (fN.trans f2) gr, up (.ref S1.length) S2 al2 H2 (.ref D) ((f1.trans fN).trans f2) ⟨D, rfl, getExt f2 aN⟩ w2⟩
section
variable {X : Cx} {E : XK} {tg iter : Expr} {g : TGD} {tV : TG} {is : List Nat}
theorem q_dc {kx vx : Expr} {ifs : List Expr} {scope : Scope} {own : List (Str × Nat)} {pos : Pos} {ti : TID} {tt : TTD} {tk tv : TED} (hc : X.calm = true) (hN : X.N.Nodup) (hi : QI X E tg iter ti) (ok : BlkOk X.N X.env.scope scope own)
    (hg : ∀ (s : Shared) (H : Hp) (C : Addr) (cl : List (Str × Addr)) (fp : List Addr), QG (X.blk s H scope (compEnvC scope cl C X.env) fp) E0 tg g tV is) (ht : ∀ (s : Shared) (H : Hp) (C : Addr) (cl : List (Str × Addr)) (fp : List Addr), QTs (X.blk s H scope (compEnvC scope cl C X.env) fp) E0 ifs tt)
    (hk : ∀ (s : Shared) (H : Hp) (C : Addr) (cl : List (Str × Addr)) (fp : List Addr), QE (X.blk s H scope (compEnvC scope cl C X.env) fp) E0 kx tk)
    (he : ∀ (s : Shared) (H : Hp) (C : Addr) (cl : List (Str × Addr)) (fp : List Addr), QE (X.blk s H scope (compEnvC scope cl C X.env) fp) E0 vx tv) (his : is.all (own.map (·.2)).contains = true := by rfl) (hs : ∀ x, foldedSetIterable iter X.env x = pure x := by intro _; rfl) :
    QE X E (.DictComp kx vx [⟨tg, iter, ifs, 0⟩] scope pos) (dDc ti g tt tk tv (own.map (·.2))) := by
  have hv : ∀ i ∈ is, i ∈ own.map (·.2) := fun i hi => by
    have q := List.all_eq_true.mp his i hi
    simpa using q
  refine pe_imp (pe_dc (tk := LE ⟨X.K, X.mg, E0⟩ tk) (tv := LE ⟨X.K, X.mg, E0⟩ tv) (tt := LT ⟨X.K, X.mg, E0⟩ tt) hc hN hi ok (fun s H C cl fp => (hg s H C cl fp).1) ht hk he hs) fun s H Q q => ?_
  have h0 := hg X.s_0 H 0 [] []
  exact dc_red (mg := X.mg) h0.2.1 (h0.2.2 _ hv) q
end
/-- sorted of a dict's keys, ints -/
def spSortedD : SpD := fun ds S k _ => match ds with
  | [.ref n] => ∃ (kvs : List (Key × D)) (ks : List Int), S[n]? = some (.dic kvs) ∧ kvs.map (·.1) = ks.map Sum.inl ∧ ks.length < 64 ∧ ∀ ms : List Int, ms.Perm ks → ms.Pairwise (· ≤ ·) → k (.ref S.length) (S ++ [.lst (ms.map D.int)])
  | _ => False
theorem c_sortedD {X : Cx} {E : XK} (hc : X.calm = true) : CallR X (.builtin "sorted") (LLs (cy X E) spSortedD) := by
  intro pins s σ H xs us Q I r ⟨ds, al, S, kd, xd, rs, rd, q, up, ux⟩
  unfold spSortedD at q
  split at q
  · obtain ⟨kvs, ks, hS, hk, hz, q⟩ := q
    obtain ⟨v, e, a, e2, ha⟩ := rds1 rd
    subst e e2
    obtain ⟨vs, e1, rk⟩ := rs.ob _ _ _ hS ha
    exact call_sortedDI hc pins s σ H _ us Q I r ⟨a, vs, ks, rfl, .of e1, (rks_keys rk).trans hk, hz, fun ms p hp hs hn => up_new up rs hn (ints_rd ms) (q ms hp hs)⟩
  · exact q.elim
end Q
namespace Q
open PySem
open Spec PyProof.Rows L2

/-! ### defs that are called where no repr is under way; repr -/
structure FnG (P : Program) (w : World) (K : PySem.W.Frag) (mg : Str → Option Value) (base : Heap) (k : Nat) (f : Addr) (fd : FuncData) (ps : List Str) (sp : Sp) : Prop where
  len : ∀ vs H Q E, sp vs H Q E → vs.length = ps.length
  go : ∀ (A : Around) (outer : List Env) (s : Shared) (H : Hp) (args : Args) (us : List Value) (vs : List V) (Q : VK) (E : XK), A.guards = some [] → Room k A → Env0 P w K mg base A outer s H → BindsTo s fd args (ps.zip us) → Vals vs us → sp vs H Q E →
    codeAny (model P w) A (.call (.ref f) args) (CR (L2.CX P w) outer P w H s Q E) s
theorem FnG.of {P : Program} {w : World} {K : PySem.W.Frag} {mg : Str → Option Value} {base : Heap} {k : Nat} {f : Addr} {fd : FuncData} {ps : List Str} {sp : Sp} (F : FnOk P w K mg base (L2.CX P w) k f fd ps sp) : FnG P w K mg base k f fd ps sp :=
  ⟨F.len, fun A outer s H args us vs Q E _ => F.run A outer s H args us vs Q E⟩
section
variable {P : Program} {w : World} {K : PySem.W.Frag} {mg : Str → Option Value} {base : Heap} {x qual : Str} {params : Arguments} {body : List Stmt} {scope : Scope} {f : Addr} {fd : FuncData} {ps N : List Str} {k : Nat} {t : TSD} {sp : SpD}
theorem def_okG (F : FunD K x qual params body scope [] [] f fd) (S : FnScope N ps scope)
    (hbody : ∀ (cdv : Value) (A : Around) (outer : List Env) (s : Shared) (H : Hp) (E : XK), A.guards = some [] → Room k (A.deeper (envOfC qual scope s.heap.objs.size f cdv)) → QSs (cxOf (L2.CX P w) P w K mg base N qual scope f cdv A outer s H E) E body t)
    (hsp : Keeps ps.length N.length t sp) : FnG P w K mg base (k + 1) f fd ps (LP K mg ps.length sp) := by
  obtain ⟨_, _, _, _, doc, pm, an, cdv, ct, _, rfl, lk, hcd, _, _⟩ := F.ex
  constructor
  · exact fun vs H Q E h => h.1
  intro A outer s H args us vs Q E hG hr e0 hb r h
  obtain ⟨hl, ds, al, S0, kd, xd, rs, rd, q, up, ux⟩ := h
  have hlu := hl
  have keep : ∀ b o, base.get? b = some o → s.heap.get? b = some o := fun b o e => (e0.bs b o e).1
  have par : ∀ y ∈ ps.zip us, scope.names.lookup y.1 = some .local ∨ (scope.names.lookup y.1 = some .cell ∧ ((cellsFrom (s.heap.objs.size + 1) scope.names []).lookup y.1).isSome = true) := by
    rintro ⟨n, v⟩ hy
    exact (S.par n (List.of_mem_zip hy).1).imp id fun q => ⟨q, PySem.W.cellsFrom_some _ _ _ (.inl q)⟩
  refine codeAny_call_function hr.depth (e0.mod.kin.keeps keep _ _ lk) rfl S.co S.gen rfl (PySem.W.codeRec_of (e0.mod.kin.keeps keep) hcd) (hb _ _ _ _ (wpAny_newFunctionEnv_cells S.kind par ?_))
  rintro env rfl s1 nw
  refine ⟨(e0.mod.nolimit.keeps keep).keeps nw.toInCall.keep, codeAny_func ?_⟩
  have J := inv_start (CX := L2.CX P w) (E := E) S hr.hd e0 hl r nw
  have T := hbody cdv A outer s H E hG (hr.deeper _)
  refine wpAny_mono (T.run [] s1 (start N vs) H { nx := fun _ H' => Q .non H', rt := Q } J ⟨startD N.length ds, al, S0, endsD S0.length kd xd, rs, rsl_start rd, hsp ds S0 kd xd (by rw [← RDs.length rd]; exact hl) (rs_cl rs) (by rw [← rs.len]; exact rds_cl ds vs rd) q, ?_⟩) ?_ fun _ _ z => z
  · rw [← rs.len]
    exact ⟨fun sg S' al' H' sv f1 r1 q1 => up_wk up .non S' al' H' .non f1 rfl q1, up_wk up, fun sg S' al' H' sv f1 r1 q1 => q1.elim, fun sg S' al' H' sv f1 r1 q1 => q1.elim, ux_wk ux⟩
  · intro fl s' hs
    match fl, hs with
    | .ret u, ⟨v, σ', H', J, rv, q⟩ => exact ⟨v, H', J.os, J.bare, J.base, J.hok, rv, q⟩
    | .next, ⟨σ', H', J, q⟩ => exact ⟨.non, H', J.os, J.bare, J.base, J.hok, rfl, q⟩
    | .brk, ⟨_, _, _, q⟩ => exact q.elim
    | .cont, ⟨_, _, _, q⟩ => exact q.elim
end
section
variable {X : Cx} {E : XK} {e : Expr} {es : List Expr} {tr : TAD} {pos p : Pos} {k n : Nat} {f : Addr} {fd : FuncData} {ps : List Str} {sp : SpD} {x : Str}
theorem q_callG (hG : X.A.guards = some []) (F : FnG X.prog X.w X.K X.mg X.base k f fd ps (LP X.K X.mg n sp)) (hr : Room k X.A) (hg : Gl X x) (hm : X.mg x = some (.ref f)) (hk : PySem.W.keepIn X.K (.ref f) = true) (hb : Binds X.K fd ps []) (hx : Passes (L2.CX X.prog X.w) X E)
    (ha : QA X E (e :: es) tr) (hdb : (x == ("__debug__" : Str)) = false := by decide) (he : starEach (e :: es) X.env = (false, eval e X.env) :: starEach es X.env := by rfl) (hpl : (backTo pos (starEach es X.env)).any (·.1) = false := by rfl) :
    QE X E (.Call (.Name x p) (e :: es) [] pos) (dCall (spN n sp) tr) := by
  constructor
  rintro pins s σ H Q I ⟨sg, al, S, kd, xd, rs, rl, q, up, ux⟩
  refine wpAny_Call_Name_kw (ld_glob I hg hm (PySem.W.callWith_K (h₀ := X.base) I.ok.mod.kin hk (thn (ha.run pos pins s σ H (fun vs H1 => ∃ ds al1 S1, Fut X.K H al H1 al1 S1 ∧ RDs X.K H1 al1 ds vs ∧ kCall (spN n sp) kd xd ds S1) I
    ⟨sg, al, S, _, xd, rs, rl, q, fun ds S1 al1 H1 vs f1 r1 q1 => ⟨ds, al1, S1, f1, r1, q1⟩, ux⟩) ?_) he hpl) hdb)
  rintro us s1 ⟨vs, H1, I1, r, ds, al1, S1, f1, r1, l1, q1⟩
  refine ⟨I1.kIn, ?_⟩
  have h : LP X.K X.mg n sp vs H1 Q E := ⟨by rw [RDs.length r1]; exact l1, ds, al1, S1, kd, xd, f1.rs, r1, q1, up.mono f1, ux.mono f1⟩
  have l2 : (us ++ []).length = ps.length := by rw [List.append_nil, ← r.length]; exact F.len _ _ _ _ h
  have b := hb s1 us I1.kIn l2
  rw [List.append_nil] at b
  refine wpAny_call (codeAny_mono (F.go X.A X.stack s1 H1 ⟨us, []⟩ us vs Q E hG hr I1.env0 b r h) ?_)
  intro r' s' hq
  match r', hq with
  | .error e, hq => exact hx pins σ H1 s1 e s' I1 hq
  | .ok (.ret u), hq => exact I1.after hq
  | .ok .next, hq => exact hq.elim
  | .ok .brk, hq => exact hq.elim
  | .ok .cont, hq => exact hq.elim
/-- repr of a tuple, of a list -/
def spRepr : SpD := fun ds S k _ => ∃ d q, ds = [d] ∧ DPy S d q ∧ flatD d = false ∧ q.showable = true ∧ q.hasDict = false ∧ q.depth ≤ 60 ∧ q.shown.length ≤ sizeLine ∧ k (.str q.shown) S
theorem c_repr (hG : X.A.guards = some []) (hr : Room k X.A) : CallR X (.builtin "repr") (LLs (cy X E) spRepr) := by
  intro pins s σ H xs us Q I r ⟨ds, al, S, kd, xd, rs, rd, ⟨d, q, ed, hd, hf, h1, h2, h3, h4, hk⟩, up, ux⟩
  subst ed
  obtain ⟨v, e, rv⟩ := rds1 rd
  subst e
  obtain ⟨u, eu, ru⟩ := vals1 r
  subst eu
  obtain ⟨as, R⟩ := Dp.reads I q v u (DPy.dp rs q d v hd rv) ru
  have un := hr.un
  obtain ⟨a, ea⟩ : ∃ a, u = .ref a := by
    cases d with
    | tup ds =>
      obtain ⟨a, vs, e, _⟩ := rv
      subst e
      exact ⟨a, ru⟩
    | ref n =>
      obtain ⟨a, e, _⟩ := rv
      subst e
      exact ⟨a, ru⟩
    | _ => exact nomatch hf
  subst ea
  refine repr_of_reads' R h1 (fun z => by rw [h2] at z; cases z) hG (by omega) (fun _ _ e => e) (fun h' u tk kp => ⟨.str q.shown, H, I.kept kp, ⟨u, rfl⟩, up_at up rs (d := .str q.shown) rfl hk⟩) h4
end
end Q
namespace Q
open PySem
open Spec PyProof.Rows L2

/-! ### the law's call, where no repr is under way -/
section
variable {P : Program} {w : World} {K : PySem.W.Frag} {mg mb : Str → Option Value} {k : Nat} {fa a : Addr} {fd : FuncData} {x : Str} {sp : Sp} {st : Shared} {vs : List Value} {ns : List Int} {H : Hp}
/-- the caller's side, where the script alone may be tracked -/
theorem lone_env (KX : K.In st.heap) (hns : st.heap.Ns mainGlobals mg) (hb : st.heap.Ns builtinsNs mb) (hbb : ∀ x : Str, x ≠ "__name__" → mb x = bootBuiltins x) (hlim : st.heap.NoLimit) (hg : st.gens = #[])
    (ha : st.heap.get? a = some { cls := .type "list", data := .seq vs.toArray }) (hok : HOk P w H st.heap) (hA : ∀ b, H b ≠ none → b = a) (hK : H a ≠ none → K.lookup a = none) :
    K.In (hidT st.heap H) ∧ (hidT st.heap H).Ns mainGlobals mg ∧ Env0 P w K mg (hidT st.heap H) callerA [] st H := by
  have free : ∀ {b : Addr}, (H b = none) ∨ (b = a ∧ H b ≠ none) := fun {b} => by
    by_cases q : H b = none
    · exact .inl q
    · exact .inr ⟨hA b q, q⟩
  have nsIn : ∀ {b : Addr} {m : Str → Option Value}, st.heap.Ns b m → (hidT st.heap H).Ns b m := by
    rintro b m ⟨o, es, ep, e, d, r⟩
    rcases free (b := b) with q | ⟨rfl, _⟩
    · exact ⟨o, es, ep, hidT_get e q, d, r⟩
    · rw [ha] at e
      cases e
      cases d
  have kin : K.In (hidT st.heap H) := by
    intro b o e
    rcases free (b := b) with q | ⟨rfl, q⟩
    · exact hidT_get (KX b o e) q
    · rw [hK q] at e
      cases e
  obtain ⟨mc, l1, l2⟩ := hlim
  exact ⟨kin, nsIn hns, rfl, ⟨kin, nsIn hns, ⟨mb, nsIn hb, hbb⟩, mc, nsIn l1, l2⟩, fun b o e => of_hidT e, Nat.le_of_eq (hidT_size _ _), trivial, fun b hb => (nomatch hb), hok, .of_eq hg⟩
theorem law_callG (KX : K.In st.heap) (hns : st.heap.Ns mainGlobals mg) (hb : st.heap.Ns builtinsNs mb) (hbb : ∀ x : Str, x ≠ "__name__" → mb x = bootBuiltins x) (hlim : st.heap.NoLimit) (hg : st.gens = #[])
    (ha : st.heap.get? a = some { cls := .type "list", data := .seq vs.toArray }) (hi : IntsAre vs ns) (hl : ns.length ≤ sizeLine) (hr : Room k callerA)
    (F : ∀ B : Heap, K.In B → B.Ns mainGlobals mg → FnG P w K mg B k fa fd [x] sp) (hbind : ∀ (s : Shared) (u : Value), BindsTo s fd ⟨[u], []⟩ [(x, u)])
    (hsp : ∀ H : Hp, Only H → SqL K H a (ns.map V.int) → sp [.ref a] H (fun v _ => v = .bl true) fun _ _ _ => False)
    (hCX : ∀ H e s', L2.CX P w [] H st (fun _ _ _ => False) e s' → False) :
    codeAny (model P w) callerA (.call (.ref fa) ⟨[.ref a], []⟩) (fun r s' => r = .ok (.ret (.bool true)) ∧ OldK st.heap s'.heap ∧ s'.os = st.os ∧ AllBare s'.gens) st := by
  have rv := vals_ints hi
  suffices go : ∀ H : Hp, Only H → SqL K H a (ns.map V.int) → HOk P w H st.heap → (∀ b, H b ≠ none → b = a) → (H a ≠ none → K.lookup a = none) →
      codeAny (model P w) callerA (.call (.ref fa) ⟨[.ref a], []⟩) (fun r s' => r = .ok (.ret (.bool true)) ∧ OldK st.heap s'.heap ∧ s'.os = st.os ∧ AllBare s'.gens) st by
    cases hk : K.lookup a with
    | some o =>
      have e := KX a o hk
      rw [ha] at e
      cases e
      exact go (fun _ => none) (fun _ => .inl rfl) (.inr ⟨_, vs.toArray, _, hk, rfl, rfl, rfl, by rw [List.size_toArray, hi.length]; exact hl, by simpa using rv⟩) (fun _ _ z => nomatch z) (fun _ z => (z rfl).elim) fun z => (z rfl).elim
    | none =>
      have at_ : ∀ b : Addr, (b = a ∧ (if b = a then some (HO.frz { cls := .type "list", data := .seq vs.toArray } (.lst (ns.map V.int))) else none) = some (.frz { cls := .type "list", data := .seq vs.toArray } (.lst (ns.map V.int)))) ∨
          (if b = a then some (HO.frz { cls := .type "list", data := .seq vs.toArray } (.lst (ns.map V.int))) else none) = none := fun b => by
        by_cases q : b = a
        · exact .inl ⟨q, if_pos q⟩
        · exact .inr (if_neg q)
      refine go (fun b => if b = a then some (.frz { cls := .type "list", data := .seq vs.toArray } (.lst (ns.map V.int))) else none) (fun b => ?_) (.inl (.inr ⟨{ cls := .type "list", data := .seq vs.toArray }, if_pos rfl⟩)) (fun b u z => ?_) (fun b z => ?_) fun _ => hk
      · rcases at_ b with ⟨_, q⟩ | q
        · exact .inr ⟨_, _, q⟩
        · exact .inl q
      · rcases at_ b with ⟨rfl, q⟩ | q
        · cases q.symm.trans z
          exact ⟨ha, by rw [List.length_map]; exact hl, vs, _, rv, ha⟩
        · cases q.symm.trans z
      · rcases at_ b with ⟨e, _⟩ | q
        · exact e
        · exact absurd q z
  intro H hO hS hok hA hK
  obtain ⟨k1, k2, e0⟩ := lone_env KX hns hb hbb hlim hg ha hok hA hK
  refine codeAny_mono ((F _ k1 k2).go callerA [] st H ⟨[.ref a], []⟩ [.ref a] [.ref a] _ _ rfl hr e0 (hbind st (.ref a)) (.cons rfl .nil) (hsp H hO hS)) ?_
  intro r s' h
  match r, h with
  | .error e, h => exact (hCX H e s' h).elim
  | .ok .next, h => exact h.elim
  | .ok .brk, h => exact h.elim
  | .ok .cont, h => exact h.elim
  | .ok (.ret u), ⟨v, H', os, bare, un, hok', r', q⟩ =>
    cases (show v = .bl true from q)
    cases (show u = Value.bool true from r')
    refine ⟨rfl, OldK.of_keep fun b o e => ?_, os, bare⟩
    rcases hO b with z | ⟨ob, xs, z⟩
    · exact un.keep b o e z (by intro z; exact absurd (show b ∈ ([] : List Addr) from z) (by simp)) (by simp)
    · obtain ⟨e1, _⟩ := hok b _ z
      rw [e] at e1
      cases e1
      exact (hok' b _ (un.frzs b _ _ z)).1
end
structure OwesG (Pg : Program) (n k : Nat) (x : Str) (w : World) (mg : Str → Option Value) (fa : Addr) (h : Heap) : Prop where
  ex : ∃ (K : PySem.W.Frag) (fd : FuncData) (sp : Sp), (K.In h ∧ ∀ (s : Shared) (u : Value), BindsTo s fd ⟨[u], []⟩ [(x, u)]) ∧
    (∀ (H : Hp) (a : Addr) (ns : List Int), ns.length ≤ n → Only H → SqL K H a (ns.map V.int) → sp [.ref a] H (fun v _ => v = .bl true) fun _ _ _ => False) ∧ ∀ B : Heap, K.In B → B.Ns mainGlobals mg → FnG Pg w K mg B k fa fd [x] sp
theorem walk_ofG {l : PySem.W.OpenLaw} {n k : Nat} {q : Program} {loose : List Str} {XP : (Str → Option Value) → Heap → Prop} {YP : World → Heap → Prop} {d : DefRec} {x : Str} (hn : l.most = some n) (hn2 : n ≤ sizeLine) (hdf : d.params.defaults = []) (hr : Room k callerA)
    (F : ∀ (w : World) (mg : Str → Option Value) (fa : Addr) (h : Heap), YP w h → h.Ns mainGlobals mg → mg d.name = some (.ref fa) → OwesG l.prog n k x w mg fa h) : PySem.W.WalkO q loose XP YP l.row.toRowW d [] (fun f vs => PySem.call f vs) := by
  refine Att.attach_call hn hdf ?_
  intro w s₀ s₁ mg mb fa o pm cd doc a vs ns G Y ho hd hcd hmg hobj hints hlen hg
  obtain ⟨K, fd, sp, ⟨KX, hb⟩, hsp, hF⟩ := (F w mg fa _ Y G.T.g hmg).ex
  refine law_callG KX G.T.g G.T.b G.T.builtins G.T.nolimit hg hobj hints (Nat.le_trans hlen hn2) hr hF hb (fun H hO hS => hsp H a ns hlen hO hS) ?_
  rintro H e s' ⟨_, _, _, _, _, _, _, _, _, _, _, _, z⟩
  exact z.elim
/-- a def that asks for known guards, known to a caller -/
structure FTG (P : Program) (w : World) (K : PySem.W.Frag) (mg : Str → Option Value) (base : Heap) (x : Str) (k : Nat) (ps : List Str) (sp : SpD) (f : Addr) (fd : FuncData) : Prop where
  ok : FnG P w K mg base k f fd ps (LP K mg ps.length sp)
  hm : mg x = some (.ref f)
  hk : PySem.W.keepIn K (.ref f) = true
  hb : Binds K fd ps []
end Q
namespace Q
open PySem
open Spec PyProof.Rows L2

/-! ### xs.insert(i, y), xs[::-1] of a list -/
def rIns : RMD := fun d ds S k _ => match d, ds with
  | .ref n, [.int i, y] => ∃ xs, S[n]? = some (.lst xs) ∧ xs.length < sizeLine ∧ 0 ≤ i ∧ i < 2 ^ 63 ∧ k .non (S.set n (.lst (xs.take i.toNat ++ [y] ++ xs.drop i.toNat)))
  | _, _ => False
theorem m_ins {X : Cx} {E : XK} : MtR X "list.insert" (LLm (cy X E) rIns) := by
  intro pins s σ H x vs v us Q I rx rv ⟨d, ds, al, S, kd, xd, rs, rd, rds, q, up, ux⟩
  unfold rIns at q
  split at q
  · obtain ⟨xs, h1, hz, h0, h63, q⟩ := q
    obtain ⟨a, us', e1, ha, hH, r1⟩ := lst_at rs h1 rd
    obtain ⟨z, y, e2, rz, ry⟩ := rds2 rds
    cases (show z = _ from rz)
    exact mt_insert pins s σ H x vs v us Q I rx rv ⟨a, us', _, y, e1, e2, hH, by rw [RDs.length r1]; exact hz, h0, h63, up .non _ al _ .non (set_lst rs h1 ha (RDs.append (RDs.append (RDs.take _ r1) (RDs.one ry)) (RDs.drop _ r1))) rfl q⟩
  · exact q.elim
def kRev (k : KD) : KD := fun d S => match d with
  | .ref n => ∃ xs, isL S n xs ∧ k (.ref S.length) (S ++ [.lst xs.reverse])
  | _ => False
def dRevL (te : TED) : TED := fun sg S k x => te sg S (kRev k) x
theorem rds_rev {K : PySem.W.Frag} {H : Hp} {al : List Addr} : ∀ {ds : List D} {vs : List V}, RDs K H al ds vs → RDs K H al ds.reverse vs.reverse
  | [], _, h => by rw [show _ = [] from h]; exact rfl
  | d :: ds, _, ⟨v, r, e, h1, h2⟩ => by
    subst e
    rw [List.reverse_cons, List.reverse_cons]
    exact RDs.append (rds_rev h2) (RDs.one h1)
theorem q_revL {X : Cx} {E : XK} {e : Expr} {te : TED} {k : Nat} {p1 p2 p3 pos : Pos} (he : QE X E e te) : QE X E (.Subscript e (.Slice none none (some (.UnaryOp .USub (.Constant (.int 1) k p1) p2)) p3) pos) (dRevL te) :=
  pe_imp (pe_revL he) fun s H Q ⟨sg, al, S, kd, xd, rs, rl, q, up, ux⟩ => ⟨sg, al, S, kRev kd, xd, rs, rl, q, fun d S1 al1 H1 v f1 r1 q1 => by
    unfold kRev at q1
    split at q1
    · obtain ⟨xs, hl, q1⟩ := q1
      obtain ⟨a, vs, e2, _, h1, rv⟩ := isL_at f1.rs hl r1
      exact ⟨a, vs, e2, h1, fun p hp => up_new (up.mono f1) f1.rs hp (rds_rev rv) q1⟩
    · exact q1.elim, ux⟩
/-- a comprehension whose element may change the store -/
theorem lc_ind {it : ItD} {i : Nat} {te : TED} {sg : Sl} {k : KD} {S : Sto} (I : List D → List D → Sto → Prop) (h0 : I it.items [] (S ++ [.lst []])) (hend : ∀ acc T, I [] acc T → it.grd T ∧ k (.ref S.length) T)
    (hs : ∀ d r acc T (kk : KD), I (d :: r) acc T → (∀ y T2, T2[S.length]? = some (.lst acc) → acc.length < sizeLine → I r (acc ++ [y]) (T2.set S.length (.lst (acc ++ [y]))) → kk y T2) → it.grd T ∧ te (sg.set i (some d)) T kk XF) : kLc (gNm i) dYes te sg k it S := by
  have go : ∀ (items acc : List D) (T : Sto), I items acc T → wLc it.grd (gNm i) dYes te sg S.length (fun S' => k (.ref S.length) S') items T := by
    intro items
    induction items with
    | nil => exact fun acc T h => hend acc T h
    | cons d r ih =>
      intro acc T h
      have q := hs d r acc T (kLc3 S.length (wLc it.grd (gNm i) dYes te sg S.length (fun S' => k (.ref S.length) S') r)) h fun y T2 h1 h2 h3 => ⟨acc, h1, h2, ih _ _ h3⟩
      exact ⟨q.1, ⟨fun _ => q.2, fun z => nomatch z⟩⟩
  exact go _ _ _ h0
theorem set_mid {A G G2 : Sto} {o u : O} {m : Nat} (h : A.length + G.length = m) : (A ++ (G ++ o :: G2)).set m u = A ++ (G ++ u :: G2) := by
  subst h
  rw [← List.append_assoc, ← List.length_append, set_at0, List.append_assoc]
theorem get_mid {A G G2 : Sto} {o : O} {m : Nat} (h : A.length + G.length = m) : (A ++ (G ++ o :: G2))[m]? = some o := by
  subst h
  rw [← List.append_assoc, ← List.length_append, get_at0]
theorem set_in {A G : Sto} {u : O} {m r : Nat} (h : A.length + r = m) : (A ++ G).set m u = A ++ G.set r u := by
  subst h
  exact set_at
end Q
namespace Q
open PySem
open Spec PyProof.Rows L2

/-! ### tuple(range(n)), list(range(n)) -/
def rgD (a b : Int) : List D := (List.range (b - a).toNat).map fun i => D.int (a + (i : Nat))
theorem rg_rds {K : PySem.W.Frag} {H : Hp} {al : List Addr} (a b : Int) : RDs K H al (rgD a b) (rgV a b) := by
  unfold rgD rgV
  generalize List.range (b - a).toNat = l
  induction l with
  | nil => exact rfl
  | cons i l ih => exact ⟨_, _, rfl, rfl, ih⟩
def kTupRg (k : KD) : KD := fun d S => match d with
  | .int n => RgOk 0 n ∧ k (.tup (rgD 0 n)) S
  | _ => False
def kLstRg (k : KD) : KD := fun d S => match d with
  | .int n => RgOk 0 n ∧ k (.ref S.length) (S ++ [.lst (rgD 0 n)])
  | _ => False
def dTupRg (te : TED) : TED := fun sg S k x => te sg S (kTupRg k) x
def dLstRg (te : TED) : TED := fun sg S k x => te sg S (kLstRg k) x
theorem q_tupRg {X : Cx} {E : XK} {a : Expr} {te : TED} {p p2 pos pos2 : Pos} (hc : X.calm = true) (hm : X.mg "tuple" = none) (hr : X.mg "range" = none) (ha : QE X E a te) (hg : Gl X "tuple" := by rfl) (hg2 : Gl X "range" := by rfl)
    (n1 : starEach [a] X.env = (false, eval a X.env) :: starEach [] X.env := by rfl) (n2 : starEach [Expr.Call (.Name "range" p2) [a] [] pos2] X.env = (false, eval (.Call (.Name "range" p2) [a] [] pos2) X.env) :: starEach [] X.env := by rfl) :
    QE X E (.Call (.Name "tuple" p) [.Call (.Name "range" p2) [a] [] pos2] [] pos) (dTupRg te) :=
  pe_imp (pe_tupRg hc hg hm (prg_1 hg2 hr ha n1) n2) fun s H Q ⟨sg, al, S, kd, xd, rs, rl, q, up, ux⟩ => ⟨sg, al, S, kTupRg kd, xd, rs, rl, q, fun d S1 al1 H1 v f1 r1 q1 => by
    unfold kTupRg at q1
    split at q1
    · cases (show v = _ from r1)
      exact ⟨_, rfl, q1.1, fun p hp => up_tup (up.mono f1) f1.rs hp (rg_rds _ _) q1.2⟩
    · exact q1.elim, ux⟩
theorem q_lstRg {X : Cx} {E : XK} {a : Expr} {te : TED} {p p2 pos pos2 : Pos} (hc : X.calm = true) (hm : X.mg "list" = none) (hr : X.mg "range" = none) (ha : QE X E a te) (hg : Gl X "list" := by rfl) (hg2 : Gl X "range" := by rfl)
    (n1 : starEach [a] X.env = (false, eval a X.env) :: starEach [] X.env := by rfl) (n2 : starEach [Expr.Call (.Name "range" p2) [a] [] pos2] X.env = (false, eval (.Call (.Name "range" p2) [a] [] pos2) X.env) :: starEach [] X.env := by rfl) :
    QE X E (.Call (.Name "list" p) [.Call (.Name "range" p2) [a] [] pos2] [] pos) (dLstRg te) :=
  pe_imp (pe_listRg hc hg hm (prg_1 hg2 hr ha n1) n2) fun s H Q ⟨sg, al, S, kd, xd, rs, rl, q, up, ux⟩ => ⟨sg, al, S, kLstRg kd, xd, rs, rl, q, fun d S1 al1 H1 v f1 r1 q1 => by
    unfold kLstRg at q1
    split at q1
    · cases (show v = _ from r1)
      exact ⟨_, rfl, q1.1, fun p hp => up_new (up.mono f1) f1.rs hp (rg_rds _ _) q1.2⟩
    · exact q1.elim, ux⟩
end Q
namespace Q
open PySem
open Spec PyProof.Rows L2

/-! ### xs[::-1] of a list or a tuple -/
section
variable {prog : Program} {w : World} {A : Around} {E : Value → Shared → Prop} {s : Shared}
theorem adj_back (n : Nat) : Builtin.Slice.sliceAdjust none none (-1) (n : Int) = ((n : Int) - 1, -1) := rfl
theorem plc_back (n : Nat) : Builtin.Slice.slicePlaces ((n : Int) - 1) (-1) (-1) = n := by
  unfold Builtin.Slice.slicePlaces
  rw [if_neg (by decide), show (- -1 : Int) = 1 from rfl, Int.ediv_one]
  split <;> omega
theorem back_applied {sl : Addr} {vs : Value} {n : Nat} {Q : Int × Int × Nat → Shared → Prop} (hs : s.heap.IsSliceOf sl .none .none vs) (ps : IsPart vs (some (-1))) (h : Q ((n : Int) - 1, -1, n) s) :
    wpAny (model prog w) A (Builtin.Slice.sliceApplied (.ref sl) (pure (n : Int))) Q E s := by
  obtain ⟨o, ho, _, hd⟩ := id hs
  unfold Builtin.Slice.sliceApplied Builtin.Slice.sliceFields
  refine wpAny_bind (wpAny_bind (wpAny_field ho hd (x := .none) rfl (wpAny_bind (wpAny_field ho hd (x := .none) rfl (wpAny_bind (wpAny_field ho hd (x := vs) rfl (wpAny_pure ?_)))))))
  refine wpAny_bind (HT.slicePart_ ps ?_)
  show wpAny _ _ (if ((-1 : Int) == 0) = true then _ else _) _ _ s
  rw [if_neg (by decide)]
  refine wpAny_bind (slicePart_none (wpAny_bind (slicePart_none (wpAny_bind (wpAny_pure ?_)))))
  show wpAny _ _ (match Builtin.Slice.sliceAdjust none none (-1) (n : Int) with | (lo, hi) => pure (lo, (-1 : Int), Builtin.Slice.slicePlaces lo hi (-1))) _ _ s
  rw [adj_back]
  show wpAny _ _ (pure ((n : Int) - 1, (-1 : Int), Builtin.Slice.slicePlaces ((n : Int) - 1) (-1) (-1))) _ _ s
  rw [plc_back]
  exact wpAny_pure h
theorem back_pick (xs : Array Value) : ((List.range xs.size).filterMap fun (k : Nat) => xs[(((xs.size : Int) - 1) + (k : Int) * (-1)).toNat]?).toArray = xs.toList.reverse.toArray := by
  have e : ((List.range xs.size).filterMap fun (k : Nat) => xs[(((xs.size : Int) - 1) + (k : Int) * (-1)).toNat]?) = ((List.range xs.size).map fun k => xs.size - 1 - k).filterMap (xs[·]?) := by
    rw [List.filterMap_map]
    refine congrArg (fun f => (List.range xs.size).filterMap f) (funext fun k => ?_)
    show xs[(((xs.size : Int) - 1) + (k : Int) * (-1)).toNat]? = xs[xs.size - 1 - k]?
    rw [show (((xs.size : Int) - 1) + (k : Int) * (-1)).toNat = xs.size - 1 - k by omega]
  rw [e, PySem.W.krv_range, List.filterMap_reverse, PySem.W.krv_all]
theorem back_tup {t sl : Addr} {items : Array Value} {vs : Value} {Q : Value → Shared → Prop} (ht : IsTup s.heap t items) (hs : s.heap.IsSliceOf sl .none .none vs) (ps : IsPart vs (some (-1)))
    (h : Q (.ref s.heap.objs.size) { s with heap := s.heap.push { cls := .type "tuple", data := .seq items.toList.reverse.toArray } }) (hz : items.size ≤ sizeLine) : wpAny (model prog w) A (getItem (.ref t) (.ref sl)) Q E s := by
  have ok : sizeOk (.seq items.toList.reverse.toArray) := by
    show items.toList.reverse.toArray.size ≤ sizeLine
    rw [List.size_toArray, List.length_reverse, Array.length_toList]
    exact hz
  obtain ⟨o, ho, hc, hd⟩ := id hs
  have hT : s.TypeIs (.ref sl) "slice" := ⟨o, ho, hc⟩
  unfold getItem
  try with_reducible refine wpAny_holding ?_
  first | refine wpAny_bind (wpAny_pure ?_) | skip
  refine wpAny_bind (wpAny_sequenceKey ht.typeIs (by decide) ?_)
  refine wpAny_bind (wpAny_callSpecial?_slot (name := Str.ofString "__getitem__") ht.typeIs PyProof.Rows.slot_tuple_getitem (wpAny_call_entry PyProof.Rows.slot_tuple_getitem ht.typeIs entry_tuple_getitem ?_ (args_tuple_getitem _ _)))
  show wpAny _ _ (Builtin.Tuple.tupleItemsOf (.ref t) >>= _) _ _ s
  refine wpAny_bind (tupleItemsOf_ ht ?_)
  refine wpAny_bind (wpAny_typeOf hT ?_)
  rw [if_pos (by decide)]
  refine wpAny_bind (back_applied hs ps ?_)
  have no : ¬ ((((items.size : Int) - 1 == 0) && ((-1 : Int) == 1) && (items.size == items.size)) = true) := by
    rw [show ((-1 : Int) == 1) = false from by decide, Bool.and_false, Bool.false_and]
    exact Bool.false_ne_true
  show wpAny _ _ (if (((items.size : Int) - 1 == 0) && ((-1 : Int) == 1) && (items.size == items.size)) = true then _ else _) _ _ s
  rw [if_neg no, back_pick]
  first
    | exact wpAny_bind (m := Builtin.Tuple.tupleExact _) (wpAny_newObj_type (wpAny_pure ⟨_, rfl, wpAny_pure h⟩) ok)
    | exact wpAny_bind (m := Builtin.Tuple.tupleExact _) (wpAny_newObj_type (wpAny_bind (wpAny_pure (wpAny_pure ⟨_, rfl, wpAny_pure h⟩))) ok)
    | exact wpAny_bind (wpAny_bind (m := Builtin.Tuple.tupleExact _) (wpAny_newObj_type (wpAny_pure (wpAny_pure ⟨_, rfl, wpAny_pure h⟩)) ok))
end
def tBack (K : PySem.W.Frag) (te : TE) : TE := fun σ H Q => te σ H fun x H1 => ∃ a xs, x = .ref a ∧
  ((SqL K H1 a xs ∧ ∀ p, H1 p = none → Q (.ref p) (upd H1 p (.lst xs.reverse))) ∨ (SqT K H1 a xs ∧ ∀ p, H1 p = none → Q (.ref p) (upd H1 p (.tup xs.reverse))))
theorem pe_back {X : Cx} {e : Expr} {te : TE} {k : Nat} {p1 p2 p3 pos : Pos} (he : PE X e te) : PE X (.Subscript e (.Slice none none (some (.UnaryOp .USub (.Constant (.int 1) k p1) p2)) p3) pos) (tBack X.K te) := by
  refine ⟨fun pins s σ H Q I h => ?_⟩
  refine Subscript_ (thn (he.run pins s σ H _ I h) fun v s1 ⟨x, H1, I1, r1, a, xs, ex, q⟩ => ?_)
  subst ex
  cases r1
  have step : PO X (some (.UnaryOp .USub (.Constant (.int 1) k p1) p2)) (tPart (tUn (rU fun i => .int (-i)) (tC (.int 1)))) := po_some (pe_un un_neg pe_int)
  refine wpAny_Slice (thn (po_none.run pins s1 σ H1 (fun o H2 => o = none ∧ H2 = H1) I1 ⟨rfl, rfl⟩) fun vl s2 ⟨l, H2, I2, pl, el, e2⟩ => ?_)
  subst el e2
  refine thn (po_none.run pins s2 σ H2 (fun o H3 => o = none ∧ H3 = H2) I2 ⟨rfl, rfl⟩) fun vu s3 ⟨u, H3, I3, pu, eu, e3⟩ => ?_
  subst eu e3
  refine thn (step.run pins s3 σ H3 (fun o H4 => o = some (-1) ∧ H4 = H3) I3 ⟨1, rfl, -1, rfl, rfl, rfl⟩) fun vs s4 ⟨o, H4, I4, ps, eo, e4⟩ => ?_
  subst eo e4
  have I5 : Inv X pins σ H4 { s4 with heap := s4.heap.push { cls := .type "slice", data := .fields #[vl, vu, vs] } } := I4.kept (t' := s4.toks) fun b ob q => Heap.get?_push_of_some _ q
  rcases q with ⟨hx, q⟩ | ⟨hx, q⟩
  · obtain ⟨its, r, ht, hz⟩ := I5.list hx
    have hlen := r.length
    show wpAny (model X.prog X.w) X.A (subscriptTail e (.Slice none none (some (.UnaryOp .USub (.Constant (.int 1) k p1) p2)) p3) (.ref a) (.ref s4.heap.objs.size)) (EP X pins σ Q) X.xe { s4 with heap := s4.heap.push { cls := .type "slice", data := .fields #[vl, vu, vs] } }
    refine tail_any (ops := [.ref a, .ref s4.heap.objs.size]) ht.isList.typeIs (PySem.slot_list_getitem.lookup) ?_ (by with_unfolding_all rfl)
    refine wpAny_getItem_list_slice ht.isList (Heap.IsSliceOf.new _ vl vu vs) pl pu ps (by decide) ?_ (by rw [List.size_toArray]; omega)
    rw [PySem.W.krv_pick]
    refine ⟨.ref _, _, I5.laid (t' := s4.toks) (o := .lst xs.reverse) (fun b ob q => Heap.get?_push_of_some _ q) (Nat.le_refl _) ?_, rfl, q _ (I5.hok.fresh (Nat.le_refl _))⟩
    exact ⟨by rw [List.length_reverse]; exact hz, _, 0, r.reverse, Heap.get?_push_size _ rfl⟩
  · obtain ⟨its, r, ht, hz⟩ := I5.tuple hx
    have hlen := r.length
    cases pl
    cases pu
    show wpAny (model X.prog X.w) X.A (subscriptTail e (.Slice none none (some (.UnaryOp .USub (.Constant (.int 1) k p1) p2)) p3) (.ref a) (.ref s4.heap.objs.size)) (EP X pins σ Q) X.xe { s4 with heap := s4.heap.push { cls := .type "slice", data := .fields #[.none, .none, vs] } }
    refine tail_any (ops := [.ref a, .ref s4.heap.objs.size]) ht.typeIs (PyProof.Rows.slot_tuple_getitem.lookup) ?_ (by with_unfolding_all rfl)
    refine back_tup ht (Heap.IsSliceOf.new _ .none .none vs) ps ?_ (by rw [List.size_toArray]; omega)
    refine ⟨.ref _, _, I5.laid (t' := s4.toks) (o := .tup xs.reverse) (fun b ob q => Heap.get?_push_of_some _ q) (Nat.le_refl _) ?_, rfl, q _ (I5.hok.fresh (Nat.le_refl _))⟩
    exact ⟨by rw [List.length_reverse]; exact hz, its.reverse, r.reverse, ⟨_, Heap.get?_push_size _ rfl, rfl, _, rfl⟩⟩
def kBack (k : KD) : KD := fun d S => match d with
  | .ref n => ∃ xs, isL S n xs ∧ k (.ref S.length) (S ++ [.lst xs.reverse])
  | .tup xs => k (.tup xs.reverse) S
  | _ => False
def dBack (te : TED) : TED := fun sg S k x => te sg S (kBack k) x
theorem q_back {X : Cx} {E : XK} {e : Expr} {te : TED} {k : Nat} {p1 p2 p3 pos : Pos} (he : QE X E e te) : QE X E (.Subscript e (.Slice none none (some (.UnaryOp .USub (.Constant (.int 1) k p1) p2)) p3) pos) (dBack te) :=
  pe_imp (pe_back he) fun s H Q ⟨sg, al, S, kd, xd, rs, rl, q, up, ux⟩ => ⟨sg, al, S, kBack kd, xd, rs, rl, q, fun d S1 al1 H1 v f1 r1 q1 => by
    unfold kBack at q1
    split at q1
    · obtain ⟨xs, hl, q1⟩ := q1
      obtain ⟨a, vs, e2, _, h1, rv⟩ := isL_at f1.rs hl r1
      exact ⟨a, vs, e2, .inl ⟨h1, fun p hp => up_new (up.mono f1) f1.rs hp (rds_rev rv) q1⟩⟩
    · obtain ⟨a, vs, e2, h1, rv⟩ := r1
      exact ⟨a, vs, e2, .inr ⟨h1, fun p hp => up_tup (up.mono f1) f1.rs hp (rds_rev rv) q1⟩⟩
    · exact q1.elim, ux⟩
end Q
namespace Q
open PySem
open Spec PyProof.Rows L2
open Sem (wp)
open AutoSeq1 (wpAny_loadPart')

/-! ### enumerate of a tuple -/
theorem mk_enumT (t : Addr) (xs : Array Value) (n : Nat) (dct : Option Addr) (sl : Array (Option Value)) :
    Meets (Builtin.«enumerate.__new__» ⟨[.type "enumerate", .ref t], []⟩) (fun _ R s => s.heap.get? t = some { cls := .type "tuple", dict := dct, data := .seq xs n, slots := sl } ∧
      R (.ok (.ret (.ref (s.heap.push { cls := .type "tuple_iterator", data := .fields #[.ref t, .int 0 0] }).objs.size)))
        { s with heap := (s.heap.push { cls := .type "tuple_iterator", data := .fields #[.ref t, .int 0 0] }).push { cls := .type "enumerate", data := .fields #[.none, .bool false, .ref s.heap.objs.size, rawInt 0, .none, .none] } }) :=
  .of_wp fun prog w A R s hyp => by
    obtain ⟨hq, g, d, tk, os⟩ := s
    obtain ⟨ht, hyp⟩ := hyp
    have hs := sub_enumerate
    have hT : Heap.IsTuple (Shared.heap ⟨hq, g, d, tk, os⟩) t xs := ⟨_, ht, rfl, n, rfl⟩
    wp_walk using wpAny_loadPart' ht
    refine wpAny_stack_any fun _ => wpAny_pure ?_
    split
    · rename_i c _ _ _ _ _
      cases (c == Value.type "enumerate")
      · wp_walk using wpAny_loadPart' ht, wpAny_pyIter_tuple hT
        exact ⟨_, rfl, hyp⟩
      · wp_walk using wpAny_loadPart' ht, wpAny_pyIter_tuple hT
        exact ⟨_, rfl, hyp⟩
    · wp_walk using wpAny_loadPart' ht, wpAny_pyIter_tuple hT
      exact ⟨_, rfl, hyp⟩
section
variable {prog : Program} {w : World} {A : Around} {E : Value → Shared → Prop} {s : Shared}
theorem call_enumT {t : Addr} {xs : Array Value} {Q : Value → Shared → Prop} (hT : s.heap.IsTuple t xs)
    (h : ∀ g, IsEnum g (s.heap.objs.size + 1) s.heap.objs.size 0 .none → g.IsTupleIter s.heap.objs.size t 0 → (∀ b o, s.heap.get? b = some o → g.get? b = some o) → Q (.ref (s.heap.objs.size + 1)) { s with heap := g }) :
    wpAny (model prog w) A (call (.type "enumerate") [.ref t]) Q E s := by
  obtain ⟨⟨c, dct, dt, sl⟩, ht, hc, n, hd⟩ := hT
  have hc' : c = .type "tuple" := hc
  have hd' : dt = .seq xs n := hd
  subst hc' hd'
  refine callType_new F.called_enumerate (by decide) (F.typeCall_enumerate_1 _) (F.newCall_enumerate_1 _) (fun o => F.args_object_init_2 o _) F.entry_enumerate_new (mk_enumT t xs n dct sl) ⟨ht, ?_⟩
  generalize hg : s.heap.push { cls := .type "tuple_iterator", data := .fields #[.ref t, .int 0 0] } = g1
  have z1 : g1.objs.size = s.heap.objs.size + 1 := by rw [← hg]; exact Heap.size_push ..
  have i1 : g1.get? s.heap.objs.size = some { cls := .type "tuple_iterator", data := .fields #[.ref t, .int 0 0] } := by rw [← hg]; exact Heap.get?_push_size _ rfl
  have k1 : ∀ b o, s.heap.get? b = some o → g1.get? b = some o := fun b o q => by rw [← hg]; exact Heap.get?_push_of_some _ q
  show _ ∧ _
  have en : IsEnum (g1.push { cls := .type "enumerate", data := .fields #[.none, .bool false, .ref s.heap.objs.size, rawInt 0, .none, .none] }) g1.objs.size s.heap.objs.size 0 .none := Heap.get?_push_size _ rfl
  rw [z1] at en ⊢
  exact ⟨⟨_, en, rfl⟩, h _ en ⟨_, Heap.get?_push_of_some _ i1, rfl, rfl⟩ fun b o q => Heap.get?_push_of_some _ (k1 b o q)⟩
theorem enumT_next {e it t : Addr} {i : Nat} {xs : Array Value} {x old : Value} {Q : Value → Shared → Prop} (he : IsEnum s.heap e it i old) (hi : s.heap.IsTupleIter it t i) (ht : s.heap.IsTuple t xs) (hx : xs[i]? = some x) (hne : e ≠ it)
    (hQ : ∀ g, IsEnumOut g e it ((i : Int) + 1) x s.heap.objs.size → g.IsTupleIter it t (i + 1) → g.get? s.heap.objs.size = some { cls := .type "tuple", data := .seq #[.int i s.toks, x] } →
      (∀ b o, b ≠ e → b ≠ it → s.heap.get? b = some o → g.get? b = some o) → Q (.ref s.heap.objs.size) { s with heap := g, toks := s.toks + 1 }) :
    wpAny (model prog w) A (Builtin.«enumerate.__next__» ⟨[.ref e], []⟩) (fun fin s' => ∃ v, fin = .done (.ret v) ∧ Q v s') E s := by
  obtain ⟨hq, gl, dd, tk, os⟩ := s
  show wpAny _ _ (field (.ref e) 2 >>= _) _ _ _
  refine wpAny_bind (wpAny_field he rfl (x := .ref it) rfl (wpAny_bind (RZ.nextOf_tuple_item hi ht hx fun g1 hi1 sb1 => ?_)))
  have sb1 : Heap.SameBut it hq g1 := sb1
  have e1 : IsEnum g1 e it i old := (sb1.2 e hne).trans he
  refine wpAny_bind (s := ⟨g1, gl, dd, tk, os⟩) (wpAny_field e1 rfl (x := rawInt i) rfl (wpAny_bind (s := ⟨g1, gl, dd, tk, os⟩) (wpAny_field e1 rfl (x := .none) rfl ?_)))
  show wpAny _ _ (mkInt i >>= _) _ _ ⟨g1, gl, dd, tk, os⟩
  refine wpAny_bind (wpAny_mkInt ?_)
  refine wpAny_bind (s := ⟨g1, gl, dd, tk + 1, os⟩) (wpAny_setField_rec e1 (by simp) fun g2 e2 sb2 => ?_)
  have sb2 : Heap.SameBut e g1 g2 := sb2
  have e2 : IsEnum g2 e it ((i : Int) + 1) old := e2
  refine wpAny_bind (s := ⟨g2, gl, dd, tk + 1, os⟩) (wpAny_setField_rec e2 (by simp) fun g3 e3 sb3 => ?_)
  have sb3 : Heap.SameBut e g2 g3 := sb3
  have e3 : IsEnum g3 e it ((i : Int) + 1) old := e3
  refine wpAny_bind (s := ⟨g3, gl, dd, tk + 1, os⟩) (wpAny_newTuple ?_)
  have z3 : g3.objs.size = hq.objs.size := by rw [sb3.1, sb2.1, sb1.1]
  generalize hg : g3.push { cls := .type "tuple", data := .seq #[.int i tk, x] } = g4
  have e4 : IsEnum g4 e it ((i : Int) + 1) old := by rw [← hg]; exact Heap.get?_push_of_some _ e3
  have t4 : g4.get? hq.objs.size = some { cls := .type "tuple", data := .seq #[.int i tk, x] } := by rw [← hg, ← z3]; exact Heap.get?_push_size _ rfl
  have i4 : g4.IsTupleIter it t (i + 1) := by
    rw [← hg]
    obtain ⟨o, q, r⟩ := (hi1.extBut sb2.extBut (Ne.symm hne)).extBut sb3.extBut (Ne.symm hne)
    exact ⟨o, Heap.get?_push_of_some _ q, r⟩
  have k4 : ∀ b o, b ≠ e → b ≠ it → hq.get? b = some o → g4.get? b = some o := fun b o n1 n2 q => by
    rw [← hg]
    exact Heap.get?_push_of_some _ (sb3.extBut b o n1 (sb2.extBut b o n1 (sb1.extBut b o n2 q)))
  have hlt : e < hq.objs.size := Heap.lt_size he
  have hgt : hq.objs.size ≠ e := Nat.ne_of_gt hlt
  show wpAny _ _ (Builtin.SmallTypes.ownedTupleIsFree (.ref e) >>= _) _ _ ⟨g4, gl, dd, tk + 1, os⟩
  rw [z3]
  refine wpAny_bind ?_
  unfold Builtin.SmallTypes.ownedTupleIsFree
  refine wpAny_bind (wpAny_field e4 rfl (x := .none) rfl (wpAny_pure ?_))
  simp only [if_true]
  refine wpAny_bind (wpAny_rule (wpAny_bind (wpAny_field e4 rfl (x := old) rfl (wpAny_bind (wpAny_setField_rec e4 (by simp) fun g5 e5 sb5 => ?_)))))
  have sb5 : Heap.SameBut e g4 g5 := sb5
  have e5 : IsEnum g5 e it ((i : Int) + 1) x := e5
  refine wpAny_bind (s := ⟨g5, gl, dd, tk + 1, os⟩) ?_
  unfold Builtin.SmallTypes.ownedTupleHandOut
  refine wpAny_bind (s := ⟨g5, gl, dd, tk + 1, os⟩) (wpAny_setField_rec e5 (by simp) fun g6 e6 sb6 => ?_)
  have sb6 : Heap.SameBut e g5 g6 := sb6
  have e6 : IsEnumOut g6 e it ((i : Int) + 1) x hq.objs.size := e6
  refine wpAny_setField_rec (s := ⟨g6, gl, dd, tk + 1, os⟩) e6 (by simp) fun g7 e7 sb7 => ?_
  have sb7 : Heap.SameBut e g6 g7 := sb7
  have e7 : IsEnumOut g7 e it ((i : Int) + 1) x hq.objs.size := e7
  refine wpAny_bind (s := ⟨g7, gl, dd, tk + 1, os⟩) (wpAny_letGo (wpAny_pure ⟨_, rfl, hQ g7 e7 ?_ ?_ ?_⟩))
  · exact ((i4.extBut sb5.extBut (Ne.symm hne)).extBut sb6.extBut (Ne.symm hne)).extBut sb7.extBut (Ne.symm hne)
  · exact sb7.extBut _ _ hgt (sb6.extBut _ _ hgt (sb5.extBut _ _ hgt t4))
  · exact fun b o n1 n2 q => sb7.extBut b o n1 (sb6.extBut b o n1 (sb5.extBut b o n1 (k4 b o n1 n2 q)))
theorem enumT_item {e it t : Addr} {i : Nat} {xs : Array Value} {x old : Value} {Q : Option Value → Shared → Prop} (he : IsEnum s.heap e it i old) (hi : s.heap.IsTupleIter it t i) (ht : s.heap.IsTuple t xs) (hx : xs[i]? = some x) (hne : e ≠ it)
    (hQ : ∀ g, IsEnumOut g e it ((i : Int) + 1) x s.heap.objs.size → g.IsTupleIter it t (i + 1) → g.get? s.heap.objs.size = some { cls := .type "tuple", data := .seq #[.int i s.toks, x] } →
      (∀ b o, b ≠ e → b ≠ it → s.heap.get? b = some o → g.get? b = some o) → Q (some (.ref s.heap.objs.size)) { s with heap := g, toks := s.toks + 1 }) : wpAny (model prog w) A (pyNext (.ref e)) Q E s := by
  have ty : s.TypeIs (.ref e) "enumerate" := ⟨_, he, rfl⟩
  unfold pyNext
  refine wpAny_bind (wpAny_attempt (wpAny_callSpecial?_slot (name := Str.ofString "__next__") ty F.slot_enumerate_next (wpAny_call_entry F.slot_enumerate_next ty F.entry_enumerate_next ?_ (F.args_enumerate_next_1 _))))
  exact enumT_next he hi ht hx hne fun g a b c d => wpAny_pure (hQ g a b c d)
theorem enumT_end {e it t : Addr} {i : Nat} {xs : Array Value} {old : Value} {Q : Option Value → Shared → Prop} (hh : A.handled = none) (he : IsEnum s.heap e it i old) (hi : s.heap.IsTupleIter it t i) (ht : s.heap.IsTuple t xs) (hx : xs[i]? = none)
    (hQ : ∀ g, Heap.ExtBut it s.heap g → Q none { s with heap := g }) : wpAny (model prog w) A (pyNext (.ref e)) Q E s := by
  have ty : s.TypeIs (.ref e) "enumerate" := ⟨_, he, rfl⟩
  unfold pyNext
  refine wpAny_bind (wpAny_attempt (wpAny_callSpecial?_slot (name := Str.ofString "__next__") ty F.slot_enumerate_next (wpAny_call_entry F.slot_enumerate_next ty F.entry_enumerate_next ?_ (F.args_enumerate_next_1 _))))
  show wpAny _ _ (field (.ref e) 2 >>= _) _ _ _
  refine wpAny_bind (wpAny_field he rfl (x := .ref it) rfl (wpAny_bind (RZ.nextOf_tuple_end hh hi ht hx fun g y xb ⟨o, ho, hc⟩ => ?_)))
  exact wpAny_bind (wpAny_isInstance (T := "StopIteration") (b := true) ⟨o, ho, hc⟩ isSubtype_stop (wpAny_pure (hQ _ xb)))
end
/-- the tuple at a, each item in a new pair -/
def IteT (K : PySem.W.Frag) (a : Addr) : It :=
  ⟨fun i H => ∃ (xs : List V) (x : V), SqT K H a xs ∧ xs[i]? = some x, fun i H v H' => ∃ T x, v = .ref T ∧ H T = none ∧ H' = upd H T (.tup [.int (i : Nat), x]) ∧ ∀ xs, SqT K H a xs → xs[i]? = some x, fun i H => ∃ xs : List V, SqT K H a xs ∧ xs.length ≤ i⟩
theorem turn_enumT {P : Program} {w : World} {K : PySem.W.Frag} {elts : List Expr} {kk : Nat} {tpos : Pos} (a e it : Addr) :
    Turn P w K (.Tuple elts kk tpos) (IteT K a) [e, it] e (fun i h => (∃ old, IsEnum h e it ((i : Nat) : Int) old) ∧ h.IsTupleIter it a i ∧ e ≠ it) where
  mem := by simp
  obj := fun i h st b hb => by
    obtain ⟨⟨old, he⟩, ⟨o, ho, hc, hd⟩, _⟩ := st
    rcases (show b = e ∨ b = it by simpa using hb) with q | q
    · exact q ▸ ⟨_, he, fun v q => nomatch q⟩
    · exact q ▸ ⟨o, ho, fun v z => by rw [hd] at z; cases z⟩
  keep := fun i g g' st kp => by
    obtain ⟨⟨old, he⟩, hi, hne⟩ := st
    exact ⟨⟨old, kp e (by simp) _ he⟩, hi.at fun o q => kp it (by simp) o q, hne⟩
  item := by
    intro X hP hw hK hc i pins s σ H E I hf st hg
    subst hP hw hK
    obtain ⟨⟨old, he⟩, hi, hne⟩ := st
    obtain ⟨xs, x, hq, hx⟩ := hg
    obtain ⟨us, rv, p, _⟩ := I.tuple hq
    obtain ⟨u, hu, ru⟩ := rv.get hx
    have le : e < s.heap.objs.size := Heap.lt_size he
    have li : it < s.heap.objs.size := by
      obtain ⟨_, q, _⟩ := hi
      exact Heap.lt_size q
    refine enumT_item he hi (show s.heap.IsTuple a us.toArray from p) (x := u) (by simpa using hu) hne fun g eo gi gT kp => ?_
    refine ⟨_, rfl, wpAny_letOwnedTupleGo_enum (s := { s with heap := g, toks := s.toks + 1 }) eo fun g2 e2 sb => ?_⟩
    have T2 : g2.get? s.heap.objs.size = some { cls := .type "tuple", data := .seq #[.int i s.toks, u] } := (sb.2 _ (Nat.ne_of_gt le)).trans gT
    have ok : ObjOk X.prog X.w (upd H s.heap.objs.size (.tup [.int (i : Nat), x])) g2 s.heap.objs.size (.tup [.int (i : Nat), x]) := ⟨by show 2 ≤ sizeLine; decide, [.int i s.toks, u], .cons ⟨_, rfl⟩ (.cons ru .nil), ⟨_, T2, rfl, _, rfl⟩⟩
    have I2 : Inv X pins σ (upd H s.heap.objs.size (.tup [.int (i : Nat), x])) { s with heap := g2, toks := s.toks + 1 } :=
      I.turnedNew (ch := [e, it]) (fun b o nb q => (sb.2 b fun z => nb (by simp [z])).trans (kp b o (fun z => nb (by simp [z])) (fun z => nb (by simp [z])) q)) hf (Nat.le_refl _) ok
    refine ⟨.ref s.heap.objs.size, _, I2, rfl, ⟨_, x, rfl, I.hok.fresh (Nat.le_refl _), rfl, fun ys hy => by rw [I.tuple_inj hy hq]; exact hx⟩, ⟨⟨u, ?_⟩, gi.at fun o q => (sb.2 it (Ne.symm hne)).trans q, hne⟩, fun b hb => ?_⟩
    · rw [show ((i + 1 : Nat) : Int) = (i : Int) + 1 by omega]
      exact e2
    · have lb : b < s.heap.objs.size := by
        rcases (show b = e ∨ b = it by simpa using hb) with q | q
        · exact q ▸ le
        · exact q ▸ li
      rw [upd_ne (Nat.ne_of_lt lb)]
      exact (hf b hb).1
  done := by
    intro X hP hw hK hc i pins s σ H E I hf st hg
    subst hP hw hK
    obtain ⟨⟨old, he⟩, hi, hne⟩ := st
    obtain ⟨xs, hq, hx⟩ := hg
    obtain ⟨us, rv, p, _⟩ := I.tuple hq
    obtain ⟨f0, f1, f2, f3, f4, f5⟩ := hf it (by simp)
    have hl := rv.length
    exact enumT_end (I.ok.hd hc) he hi (show s.heap.IsTuple a us.toArray from p) (by simp; omega) fun g xb => ⟨rfl, I.turned (t' := s.toks) (fun b o nb q => xb b o nb q) f0 f1 f3 f4 f5⟩
  self := fun A i s Q E st h => by
    obtain ⟨⟨_, he⟩, _⟩ := st
    exact wpAny_pyIter_enum he h
def iEnumV (K : PySem.W.Frag) (ta : TA) : TI := fun σ H R => ta σ H fun vs H1 => ∃ a xs, vs = [.ref a] ∧ ((SqL K H1 a xs ∧ R (Ite K a) H1) ∨ (SqT K H1 a xs ∧ R (IteT K a) H1))
theorem pi_enumV {X : Cx} {e : Expr} {ta : TA} {p pos tpos : Pos} {elts : List Expr} {kk : Nat} (hg : Gl X "enumerate") (hm : X.mg "enumerate" = none) (ha : PA X [e] ta) (hs : starEach [e] X.env = [(false, eval e X.env)] := by rfl) :
    PI X (.Tuple elts kk tpos) (.Call (.Name "enumerate" p) [e] [] pos) (iEnumV X.K ta) := by
  refine ⟨fun pins s σ H R I h => ?_⟩
  refine Call_ (ld_blt I hg hm boot_enumerate (PyProof.Rows.callWith_type1 (thn (ha.run pos pins s σ H _ I h) fun us s1 ⟨vs, H1, I1, r1, a, xs, ex, q⟩ => ?_) hs rfl))
  subst ex
  obtain ⟨u, eu, ru⟩ := vals1 r1
  subst eu
  cases (show u = .ref a from ru)
  have fr : ∀ b, b ∈ [s1.heap.objs.size + 1, s1.heap.objs.size] → FpOk X pins H1 b := fun b hb => by
    have hle : s1.heap.objs.size ≤ b := by
      rcases (show b = s1.heap.objs.size + 1 ∨ b = s1.heap.objs.size by simpa using hb) with q | q <;> omega
    exact I1.fpOk hle (I1.hok.fresh hle)
  rcases q with ⟨hq, q⟩ | ⟨hq, q⟩
  · obtain ⟨us, rv, p', _⟩ := I1.list hq
    exact call_enumerate_list p'.isList fun g he hi _ kp => wpAny_pyIter_enum he ⟨s1.heap.objs.size + 1, [_, _], _, _, H1, rfl, I1.kept (t' := s1.toks) kp, turn_enum a (s1.heap.objs.size + 1) s1.heap.objs.size, ⟨⟨.none, he⟩, hi, Nat.succ_ne_self _⟩, fr, q⟩
  · obtain ⟨us, rv, p', _⟩ := I1.tuple hq
    exact call_enumT (show s1.heap.IsTuple a us.toArray from p') fun g he hi kp => wpAny_pyIter_enum he ⟨s1.heap.objs.size + 1, [_, _], _, _, H1, rfl, I1.kept (t' := s1.toks) kp, turn_enumT a (s1.heap.objs.size + 1) s1.heap.objs.size, ⟨⟨.none, he⟩, hi, Nat.succ_ne_self _⟩, fr, q⟩
/-- a reading's items with their places -/
def enumD (ds : List D) : List D := (List.range ds.length).zipWith (fun (i : Nat) d => D.tup [.int (i : Int), d]) ds
theorem enumD_get {ds : List D} {i : Nat} {d : D} (h : (enumD ds)[i]? = some d) : ∃ y, ds[i]? = some y ∧ d = .tup [.int (i : Int), y] := by
  unfold enumD at h
  rw [List.getElem?_zipWith] at h
  cases hy : ds[i]? with
  | none =>
    rw [hy] at h
    cases hr : (List.range ds.length)[i]? <;> (rw [hr] at h; cases h)
  | some y =>
    have hi := (List.getElem?_eq_some_iff.mp hy).1
    rw [hy, List.getElem?_range hi] at h
    exact ⟨y, rfl, (Option.some.inj h).symm⟩
theorem enumD_len (ds : List D) : (enumD ds).length = ds.length := by
  unfold enumD
  rw [List.length_zipWith, List.length_range, Nat.min_self]
theorem pair_rd {K : PySem.W.Frag} {H' : Hp} {al' : List Addr} {i : Nat} {y : D} {v : V} {T : Addr} {S' : Sto} (rs : RS K H' al' S') (hT : H' T = none) (rv : RD K H' al' y v) :
    Fut K H' al' (upd H' T (.tup [.int (i : Nat), v])) al' S' ∧ RD K (upd H' T (.tup [.int (i : Nat), v])) al' (.tup [.int (i : Int), y]) (.ref T) := by
  have f := Fut.lay (o := .tup [.int (i : Nat), v]) rs hT
  exact ⟨f, T, [.int (i : Nat), v], rfl, .inl (.of upd_same), _, _, rfl, rfl, RDs.one (f.rd rv)⟩
theorem it_enumT {K : PySem.W.Frag} {H : Hp} {al : List Addr} {a : Addr} {ds : List D} {vs : List V} (h : SqT K H a vs) (r : RDs K H al ds vs) : ItOK K (IteT K a) ⟨enumD ds, fun _ => True⟩ H al where
  go := fun i H' al' S' f _ hi => by
    have hi : i < (enumD ds).length := hi
    rw [enumD_len] at hi
    have hl : i < vs.length := by rw [RDs.length r]; exact hi
    exact ⟨vs, vs[i], sqt_keep f.keep h, List.getElem?_eq_getElem hl⟩
  yld := fun i d H' al' S' x H'' f _ hd hy => by
    obtain ⟨T, y, e1, hT, e2, hy⟩ := hy
    obtain ⟨y0, hy0, rfl⟩ := enumD_get hd
    subst e1 e2
    obtain ⟨v, hv, rv⟩ := RDs.get (f.rds r) hy0
    have q := hy vs (sqt_keep f.keep h)
    rw [hv] at q
    cases q
    exact pair_rd f.rs hT rv
  stop := fun H' al' S' f _ => ⟨vs, sqt_keep f.keep h, by show vs.length ≤ (enumD ds).length; rw [enumD_len, RDs.length r]; exact Nat.le_refl _⟩
theorem it_enumL {K : PySem.W.Frag} {H : Hp} {al : List Addr} {a : Addr} {n : Nat} {ds : List D} (ha : al[n]? = some a) : ItOK K (Ite K a) ⟨enumD ds, fun S => isL S n ds⟩ H al where
  go := fun i H' al' S' f g hi => by
    have hi : i < (enumD ds).length := hi
    rw [enumD_len] at hi
    obtain ⟨vs, h1, r1⟩ := isL_sq f.rs g (getExt f ha)
    have hl : i < vs.length := by rw [RDs.length r1]; exact hi
    exact ⟨vs, vs[i], h1, List.getElem?_eq_getElem hl⟩
  yld := fun i d H' al' S' x H'' f g hd hy => by
    obtain ⟨T, y, e1, hT, e2, hy⟩ := hy
    obtain ⟨y0, hy0, rfl⟩ := enumD_get hd
    subst e1 e2
    obtain ⟨vs, h1, r1⟩ := isL_sq f.rs g (getExt f ha)
    obtain ⟨v, hv, rv⟩ := RDs.get r1 hy0
    have q := hy vs h1
    rw [hv] at q
    cases q
    exact pair_rd f.rs hT rv
  stop := fun H' al' S' f g => by
    obtain ⟨vs, h1, r1⟩ := isL_sq f.rs g (getExt f ha)
    exact ⟨vs, h1, by show vs.length ≤ (enumD ds).length; rw [enumD_len, RDs.length r1]; exact Nat.le_refl _⟩
def kEn (k : ItD → Sto → Prop) : List D → Sto → Prop := fun ds S => match ds with
  | [.tup ds] => k ⟨enumD ds, fun _ => True⟩ S
  | [.ref n] => ∃ ds, isL S n ds ∧ k ⟨enumD ds, fun S => isL S n ds⟩ S
  | _ => False
def iEn (ta : TAD) : TID := fun sg S k x => ta sg S (kEn k) x
theorem q_enum {X : Cx} {E : XK} {e : Expr} {ta : TAD} {p pos tpos : Pos} {elts : List Expr} {kk : Nat} (hg : Gl X "enumerate") (hm : X.mg "enumerate" = none) (ha : QA X E [e] ta) (hs : starEach [e] X.env = [(false, eval e X.env)] := by rfl) :
    QI X E (.Tuple elts kk tpos) (.Call (.Name "enumerate" p) [e] [] pos) (iEn ta) :=
  pi_imp (pi_enumV hg hm ha hs) fun s H R ⟨sg, al, S, kd, xd, rs, rl, q, up, ux⟩ => ⟨sg, al, S, kEn kd, xd, rs, rl, q, fun ds S1 al1 H1 vs f1 r1 q1 => by
    unfold kEn at q1
    split at q1
    · obtain ⟨v, e, a, us, e2, h1, rv⟩ := rds1 r1
      subst e e2
      exact ⟨a, us, rfl, .inr ⟨h1, up _ S1 al1 H1 _ f1 (it_enumT h1 rv) q1⟩⟩
    · obtain ⟨ds, hl, q1⟩ := q1
      obtain ⟨v, e, rv⟩ := rds1 r1
      subst e
      obtain ⟨a, us, e2, ha2, h1, r2⟩ := isL_at f1.rs hl rv
      subst e2
      exact ⟨a, us, rfl, .inl ⟨h1, up _ S1 al1 H1 _ f1 (it_enumL ha2) q1⟩⟩
    · exact q1.elim, ux⟩
end Q
namespace Q
open PySem
open Spec PyProof.Rows L2

/-! ### [.. for x in .. for y in ..] -/
def wLc2 (grd : Sto → Prop) (g : TGD) (tt : TTD) (ti1 : TID) (g1 : TGD) (tt1 : TTD) (te : TED) (vs1 : List Nat) (sg : Sl) (n0 : Nat) (k : Sto → Prop) : List D → Sto → Prop
  | [], S => grd S ∧ k S
  | d :: r, S => grd S ∧ g d sg S (fun sg1 S1 => tt sg1 S1 (fun b S2 => (b = true → ti1 sg1 S2 (fun it1 S3 => wLc it1.grd g1 tt1 te (wipeD sg1 vs1) n0 (wLc2 grd g tt ti1 g1 tt1 te vs1 sg n0 k r) it1.items S3) XF) ∧ (b = false → wLc2 grd g tt ti1 g1 tt1 te vs1 sg n0 k r S2)) XF) XF
def kLc2 (g : TGD) (tt : TTD) (ti1 : TID) (g1 : TGD) (tt1 : TTD) (te : TED) (vs1 : List Nat) (sg : Sl) (k : KD) : ItD → Sto → Prop := fun it S => wLc2 it.grd g tt ti1 g1 tt1 te vs1 sg S.length (fun S' => k (.ref S.length) S') it.items (S ++ [.lst []])
def dLc2 (ti : TID) (g : TGD) (tt : TTD) (ti1 : TID) (g1 : TGD) (tt1 : TTD) (te : TED) (vs vs1 : List Nat) : TED := fun sg S k x => ti sg S (kLc2 g tt ti1 g1 tt1 te vs1 (wipeD sg vs) k) x
theorem lc2_red {K : PySem.W.Frag} {mg : Str → Option Value} {ti ti1 : TID} {g g1 : TGD} {tt tt1 : TTD} {te : TED} {vs vs1 : List Nat} {tV tV1 : TG} {s : L2.St} {H : Hp} {Q : VK} {E : XK}
    (hl : ∀ v s H Q, LG ⟨K, mg, E0⟩ g v s H Q → tV v s H Q) (hw : WipeOK vs tV) (hl1 : ∀ v s H Q, LG ⟨K, mg, E0⟩ g1 v s H Q → tV1 v s H Q) (hw1 : WipeOK vs1 tV1) (h : LE ⟨K, mg, E⟩ (dLc2 ti g tt ti1 g1 tt1 te vs vs1) s H Q) :
    tLc2 (LI ⟨K, mg, E⟩ ti) tV (LT ⟨K, mg, E0⟩ tt) (LI ⟨K, mg, E0⟩ ti1) tV1 (LT ⟨K, mg, E0⟩ tt1) (LE ⟨K, mg, E0⟩ te) vs vs1 s H Q := by
  obtain ⟨sg, al, S, kd, xd, rs, rl, q, up, ux⟩ := h
  refine ⟨sg, al, S, kLc2 g tt ti1 g1 tt1 te vs1 (wipeD sg vs) kd, xd, rs, rl, q, fun it S1 al1 H1 J f1 iok q1 => ?_, ux⟩
  intro D hD
  generalize hk : (fun S' => kd (.ref S1.length) S') = ke
  have q1 : wLc2 it.grd g tt ti1 g1 tt1 te vs1 (wipeD sg vs) S1.length ke it.items (S1 ++ [.lst []]) := by subst hk; exact q1
  have fN : Fut K H1 al1 (upd H1 D (.lst [])) (al1 ++ [D]) (S1 ++ [.lst []]) := new_lst f1.rs hD rfl
  have aN : (al1 ++ [D])[S1.length]? = some D := by rw [← f1.rs.len]; simp
  generalize upd H1 D (.lst []) = H0 at fN ⊢
  generalize al1 ++ [D] = al0 at fN aN
  generalize S1 ++ [O.lst []] = S0 at fN q1
  refine ⟨fun i m H' => ∃ al' S', Fut K H0 al0 H' al' S' ∧ wLc2 it.grd g tt ti1 g1 tt1 te vs1 (wipeD sg vs) S1.length ke (it.items.drop i) S' ∧ m = it.items.length - i ∧ i ≤ it.items.length, ⟨it.items.length, _, _, .now fN.rs, q1, by simp, Nat.zero_le _⟩, ?_⟩
  rintro i m H2 ⟨al2, S2, f2, w2, rfl, hi⟩
  by_cases hlt : i < it.items.length
  · rw [List.drop_eq_getElem_cons hlt] at w2
    obtain ⟨gr, w2⟩ := w2
    refine .inr ⟨iok.go i H2 al2 S2 (fN.trans f2) gr hlt, fun H' => ∃ m', m' < it.items.length - i ∧ ∃ al' S', Fut K H0 al0 H' al' S' ∧ wLc2 it.grd g tt ti1 g1 tt1 te vs1 (wipeD sg vs) S1.length ke (it.items.drop (i + 1)) S' ∧ m' = it.items.length - (i + 1) ∧ i + 1 ≤ it.items.length, fun H' h => h, fun x H' hy => ?_⟩
    obtain ⟨f3, r3⟩ := iok.yld i _ H2 al2 S2 x H' (fN.trans f2) gr (List.getElem?_eq_getElem hlt) hy
    have fA := (f1.trans fN).trans (f2.trans f3)
    refine hw _ _ _ _ _ (fun s2 H2 e q => ⟨e.trans (wipe_wipe _ _), q⟩) (hl _ _ _ _ ⟨_, wipeD sg vs, al2, S2, _, XF, f3.rs, rsl_wipe (fA.rsl rl) vs, r3, w2, fun sg4 S4 al4 H4 sv4 f4 rl4 q4 => ?_, ux0⟩)
    refine ⟨sg4, al4, S4, _, XF, f4.rs, rl4, q4, fun b S5 al5 H5 f5 q5 => ite_of ⟨fun e => ?_, fun e => ?_⟩, ux0⟩
    · refine ⟨sg4, al5, S5, _, XF, f5.rs, f5.rsl rl4, q5.1 e, fun it1 S6 al6 H6 J1 f6 iok1 q6 => ?_, ux0⟩
      have fB := ((f2.trans f3).trans f4).trans (f5.trans f6)
      generalize hkn : wLc2 it.grd g tt ti1 g1 tt1 te vs1 (wipeD sg vs) S1.length ke (it.items.drop (i + 1)) = kn at q6 ⊢
      refine ⟨fun j m H' => ∃ al' S', Fut K H6 al6 H' al' S' ∧ wLc it1.grd g1 tt1 te (wipeD sg4 vs1) S1.length kn (it1.items.drop j) S' ∧ m = it1.items.length - j ∧ j ≤ it1.items.length, ⟨it1.items.length, _, _, .now f6.rs, q6, by simp, Nat.zero_le _⟩, ?_⟩
      rintro j m H7 ⟨al7, S7, f7, w7, rfl, hj⟩
      by_cases hlj : j < it1.items.length
      · rw [List.drop_eq_getElem_cons hlj] at w7
        obtain ⟨gr7, w7⟩ := w7
        refine .inr ⟨iok1.go j H7 al7 S7 f7 gr7 hlj, fun H' => ∃ m', m' < it1.items.length - j ∧ ∃ al' S', Fut K H6 al6 H' al' S' ∧ wLc it1.grd g1 tt1 te (wipeD sg4 vs1) S1.length kn (it1.items.drop (j + 1)) S' ∧ m' = it1.items.length - (j + 1) ∧ j + 1 ≤ it1.items.length, fun H' h => h, fun x1 H' hy1 => ?_⟩
        obtain ⟨f8, r8⟩ := iok1.yld j _ H7 al7 S7 x1 H' f7 gr7 (List.getElem?_eq_getElem hlj) hy1
        refine hw1 _ _ _ _ _ (fun s2 H2 e q => ⟨e.trans (wipe_wipe _ _), q⟩) (hl1 _ _ _ _ ⟨_, wipeD sg4 vs1, al7, S7, _, XF, f8.rs, rsl_wipe (((f5.trans f6).trans (f7.trans f8)).rsl rl4) vs1, r8, w7, fun sg9 S9 al9 H9 sv9 f9 rl9 q9 => ?_, ux0⟩)
        refine ⟨sg9, al9, S9, _, XF, f9.rs, rl9, q9, fun b2 Sa ala Ha fa qa => ite_of ⟨fun e => ?_, fun e => ?_⟩, ux0⟩
        · refine ⟨sg9, ala, Sa, _, XF, fa.rs, fa.rsl rl9, qa.1 e, fun y Sb alb Hb vb fb rb qb => ?_, ux0⟩
          obtain ⟨acc, ha, hz, qb⟩ := qb
          have fC := ((f7.trans f8).trans f9).trans (fa.trans fb)
          have ab := getExt (fB.trans fC) aN
          obtain ⟨us, eb, ru⟩ := fb.rs.ob _ _ _ ha ab
          exact ⟨us, eb, by rw [RDs.length ru]; exact hz, it1.items.length - (j + 1), by omega, alb, _, fC.trans (set_lst fb.rs ha ab (RDs.append ru (RDs.one rb))), qb, rfl, hlj⟩
        · exact ⟨it1.items.length - (j + 1), by omega, ala, Sa, ((f7.trans f8).trans f9).trans fa, qa.2 e, rfl, hlj⟩
      · have e : j = it1.items.length := by omega
        subst e
        rw [List.drop_length] at w7
        obtain ⟨gr7, w7⟩ := w7
        exact .inl ⟨iok1.stop H7 al7 S7 f7 gr7, it.items.length - (i + 1), by omega, al7, S7, fB.trans f7, w7, rfl, hlt⟩
    · exact ⟨it.items.length - (i + 1), by omega, al5, S5, ((f2.trans f3).trans f4).trans f5, q5.2 e, rfl, hlt⟩
  · have e : i = it.items.length := by omega
    subst e
    rw [List.drop_length] at w2
    obtain ⟨gr, w2⟩ := w2
    subst hk
    exact .inl ⟨iok.stop H2 al2 S2 (fN.trans f2) gr, up (.ref S1.length) S2 al2 H2 (.ref D) ((f1.trans fN).trans f2) ⟨D, rfl, getExt f2 aN⟩ w2⟩
section
variable {X : Cx} {E : XK} {tg tg1 : Expr} {g g1 : TGD} {tV tV1 : TG} {is is1 : List Nat} {te : TED} {pos : Pos}
theorem q_lc2 {elt iter iter1 : Expr} {ifs ifs1 : List Expr} {scope : Scope} {own : List (Str × Nat)} {vs1 : List Nat} {ti ti1 : TID} {tt tt1 : TTD} (hc : X.calm = true) (hN : X.N.Nodup) (hi : QI X E tg iter ti) (ok : BlkOk X.N X.env.scope scope own)
    (hg : ∀ (s : Shared) (H : Hp) (C : Addr) (cl : List (Str × Addr)) (fp : List Addr), QG (X.blk s H scope (compEnvC scope cl C X.env) fp) E0 tg g tV is) (ht : ∀ (s : Shared) (H : Hp) (C : Addr) (cl : List (Str × Addr)) (fp : List Addr), QTs (X.blk s H scope (compEnvC scope cl C X.env) fp) E0 ifs tt)
    (hi1 : ∀ (s : Shared) (H : Hp) (C : Addr) (cl : List (Str × Addr)) (fp : List Addr), QI (X.blk s H scope (compEnvC scope cl C X.env) fp) E0 tg1 iter1 ti1)
    (hg1 : ∀ (s : Shared) (H : Hp) (C : Addr) (cl : List (Str × Addr)) (fp : List Addr), QG (X.blk s H scope (compEnvC scope cl C X.env) fp) E0 tg1 g1 tV1 is1) (ht1 : ∀ (s : Shared) (H : Hp) (C : Addr) (cl : List (Str × Addr)) (fp : List Addr), QTs (X.blk s H scope (compEnvC scope cl C X.env) fp) E0 ifs1 tt1)
    (he : ∀ (s : Shared) (H : Hp) (C : Addr) (cl : List (Str × Addr)) (fp : List Addr), QE (X.blk s H scope (compEnvC scope cl C X.env) fp) E0 elt te) (his : is.all (own.map (·.2)).contains = true := by rfl) (his1 : is1.all vs1.contains = true := by rfl) (hvs : vs1.all (own.map (·.2)).contains = true := by rfl)
    (hs : ∀ x, foldedSetIterable iter X.env x = pure x := by intro _; rfl) (hs1 : ∀ env x, foldedSetIterable iter1 env x = pure x := by intro _ _; rfl) :
    QE X E (.ListComp elt [⟨tg, iter, ifs, 0⟩, ⟨tg1, iter1, ifs1, 0⟩] scope pos) (dLc2 ti g tt ti1 g1 tt1 te (own.map (·.2)) vs1) := by
  have mem : ∀ {l m : List Nat}, l.all m.contains = true → ∀ i ∈ l, i ∈ m := fun {l m} h i hi => by
    have q := List.all_eq_true.mp h i hi
    simpa using q
  refine pe_imp (pe_lc2 (vs1 := vs1) (te := LE ⟨X.K, X.mg, E0⟩ te) (tt := LT ⟨X.K, X.mg, E0⟩ tt) (tt1 := LT ⟨X.K, X.mg, E0⟩ tt1) (wi1 := LI ⟨X.K, X.mg, E0⟩ ti1) hc hN hi ok (mem hvs) (fun s H C cl fp => (hg s H C cl fp).1) ht hi1 (fun s H C cl fp => (hg1 s H C cl fp).1) ht1 he hs hs1) fun s H Q q => ?_
  have h0 := hg X.s_0 H 0 [] []
  have h1 := hg1 X.s_0 H 0 [] []
  exact lc2_red (mg := X.mg) h0.2.1 (h0.2.2 _ (mem his)) h1.2.1 (h1.2.2 _ (mem his1)) q
theorem q_gtpB {s : Shared} {H : Hp} {scope : Scope} {env : Env} {fp : List Addr} {es : List Expr} {gs : TGDs} {is : List Nat} {tVs : TGs} {k n : Nat} (hc : X.calm = true) (h : QGs (X.blk s H scope env fp) E es gs tVs is) (hn : (assignEach es (X.blk s H scope env fp).env).length = n := by rfl)
    (hst : (assignEach es (X.blk s H scope env fp).env).findIdx? (·.1) = none := by rfl) : QG (X.blk s H scope env fp) E (.Tuple es k pos) (gTp n gs) (gTup X.K n tVs) is := q_gtp (X := X.blk s H scope env fp) hc h hn hst
end
/-- a comprehension with a test and any target, reckoned purely; st: the slots behind the target -/
theorem lc_filterG {it : ItD} {g : TGD} {tt : TTD} {te : TED} {sg : Sl} {k : KD} {S : Sto} (st : D → Sl) (p : D → Bool) (f : D → D)
    (hs : ∀ d ∈ it.items, ∀ (T : Sto) (K : Sl → Sto → Prop), K (st d) T → g d sg T K XF)
    (ht : ∀ d ∈ it.items, ∀ (acc : List D) (kk : Bool → Sto → Prop), kk (p d) (S ++ [.lst acc]) → tt (st d) (S ++ [.lst acc]) kk XF)
    (he : ∀ d ∈ it.items, p d = true → ∀ (acc : List D) (kk : KD), kk (f d) (S ++ [.lst acc]) → te (st d) (S ++ [.lst acc]) kk XF) (hg : ∀ acc, it.grd (S ++ [.lst acc])) (hl : it.items.length ≤ sizeLine)
    (hk : k (.ref S.length) (S ++ [.lst ((it.items.filter p).map f)])) : kLc g tt te sg k it S := by
  have go : ∀ (rest acc : List D), (∀ d ∈ rest, d ∈ it.items) → acc.length + rest.length ≤ sizeLine → k (.ref S.length) (S ++ [.lst (acc ++ (rest.filter p).map f)]) →
      wLc it.grd g tt te sg S.length (fun S' => k (.ref S.length) S') rest (S ++ [.lst acc]) := by
    intro rest
    induction rest with
    | nil => exact fun acc _ _ h => ⟨hg acc, by simpa using h⟩
    | cons d r ih =>
      intro acc hm hz h
      rw [List.length_cons] at hz
      have hd := hm d List.mem_cons_self
      have hr := fun y hy => hm y (List.mem_cons_of_mem _ hy)
      refine ⟨hg acc, hs d hd _ _ (ht d hd acc _ ⟨fun e => he d hd e acc _ ⟨acc, get_at0, by omega, ?_⟩, fun e => ih acc hr (by omega) ?_⟩)⟩
      · rw [set_at0]
        refine ih _ hr (by rw [List.length_append, List.length_singleton]; omega) ?_
        rw [List.filter_cons_of_pos e, List.map_cons] at h
        rwa [List.append_assoc]
      · rwa [List.filter_cons_of_neg (by rw [e]; decide)] at h
  exact go it.items [] (fun _ h => h) (by simpa using hl) hk
/-- [y for x in .. for y in ..] -/
theorem lc2_flat {it : ItD} {i j : Nat} {ti : TID} {sg : Sl} {k : KD} {S : Sto} (f : D → List D) (hj : j < sg.length)
    (hin : ∀ d ∈ it.items, ∀ (acc : List D) (K : ItD → Sto → Prop), (∀ grd : Sto → Prop, (∀ acc, grd (S ++ [.lst acc])) → K ⟨f d, grd⟩ (S ++ [.lst acc])) → ti (sg.set i (some d)) (S ++ [.lst acc]) K XF)
    (hg : ∀ acc, it.grd (S ++ [.lst acc])) (hl : (it.items.flatMap f).length ≤ sizeLine) (hk : k (.ref S.length) (S ++ [.lst (it.items.flatMap f)])) : kLc2 (gNm i) dYes ti (gNm j) dYes (dVar j) [j] sg k it S := by
  have inner : ∀ (sg2 : Sl) (grd : Sto → Prop) (ke : Sto → Prop), j < sg2.length → (∀ acc, grd (S ++ [.lst acc])) → ∀ (rest acc : List D), acc.length + rest.length ≤ sizeLine → ke (S ++ [.lst (acc ++ rest)]) → wLc grd (gNm j) dYes (dVar j) sg2 S.length ke rest (S ++ [.lst acc]) := by
    intro sg2 grd ke h2 hg2 rest
    induction rest with
    | nil => exact fun acc _ h => ⟨hg2 acc, by simpa using h⟩
    | cons d r ih =>
      intro acc hz h
      rw [List.length_cons] at hz
      refine ⟨hg2 acc, fun _ => ?_, fun z => nomatch z⟩
      simp only [dVar, List.getElem?_set_self h2]
      refine ⟨acc, get_at0, by omega, ?_⟩
      rw [set_at0]
      refine ih _ (by rw [List.length_append, List.length_singleton]; omega) ?_
      rwa [List.append_assoc]
  have go : ∀ (rest acc : List D), (∀ d ∈ rest, d ∈ it.items) → acc.length + (rest.flatMap f).length ≤ sizeLine → k (.ref S.length) (S ++ [.lst (acc ++ rest.flatMap f)]) →
      wLc2 it.grd (gNm i) dYes ti (gNm j) dYes (dVar j) [j] sg S.length (fun S' => k (.ref S.length) S') rest (S ++ [.lst acc]) := by
    intro rest
    induction rest with
    | nil => exact fun acc _ _ h => ⟨hg acc, by simpa using h⟩
    | cons d r ih =>
      intro acc hm hz h
      rw [List.flatMap_cons, List.length_append] at hz
      rw [List.flatMap_cons] at h
      refine ⟨hg acc, fun _ => hin d (hm d List.mem_cons_self) acc _ fun grd hgr => ?_, fun z => nomatch z⟩
      refine inner _ grd _ (by show j < ((sg.set i (some d)).set j none).length; simpa using hj) hgr (f d) acc (by omega) ?_
      exact ih _ (fun y hy => hm y (List.mem_cons_of_mem _ hy)) (by rw [List.length_append]; omega) (by rwa [List.append_assoc])
  exact go it.items [] (fun _ h => h) (by simpa using hl) hk
end Q
namespace Q
open PySem
open Spec PyProof.Rows L2
open Sem (wp)

/-! ### sorted(set(xs)) of a list of ints -/
abbrev nset (w : World) : Obj := { cls := .type "set", dict := none, data := .set #[] 0 (.fresh 0 0 (!w.params.followText "set-order")) }
abbrev lit (l : Addr) : Obj := { cls := .type "list_iterator", data := .fields #[.ref l, .int 0 0] }
section
variable {P : Program} {w : World} {A : Around} {E : Value → Shared → Prop} {s : Shared}
theorem set_of_list {l : Addr} {xs : Array Value} (ns : List Int) {Q : Value → Shared → Prop} (hh : A.handled = none) (hL : s.heap.IsList l xs) (hI : IntsAre xs.toList ns) (room : ns.length + 1 < scanBound)
    (hQ : ∀ (g : Heap) (tk c : Nat), SetR w g s.heap.objs.size (fun j => decide (j ∈ ns)) c → c ≤ ns.length → (∀ b o, s.heap.get? b = some o → g.get? b = some o) → Q (.ref s.heap.objs.size) { s with heap := g, toks := tk }) :
    wpAny (model P w) A (call (.type "set") [.ref l]) Q E s := by
  have size : xs.size = ns.length := by
    have := IntsAre.length hI
    rwa [Array.length_toList] at this
  obtain ⟨c, tl, hmro⟩ := F.called_set.mro
  have f1 := F.called_set.made
  have f2 := F.called_set.sub
  have f3 := F.called_set.notType
  have f4 := F.called_set.canCreate
  have f5 := F.typeCall_set_1 (.ref l)
  refine wpAny_call (codeAny_of_tree ?_)
  show wpAny _ _ (callAny (.type "set") _) _ _ _
  refine wpAny_pure ⟨Code.quiet_builtin _ (by decide +kernel), codeAny_builtin F.entry_type_call ?_⟩
  rw [Around.under_plain (weight_type_call_type "set" [.ref l] []) rfl]
  repeat (any_goals (first | assumption | wp_step))
  refine codeAny_mono (code_set_led1 (.ref l) (E := E) (Q₁ := fun o s1 => o = .ref s.heap.objs.size ∧ s1 = { s with heap := s.heap.push (nset w) }) ⟨rfl, rfl⟩) fun r s1 hr => ?_
  match r, hr with
  | .error e, hr => exact hr
  | .ok .next, hr => exact hr.elim
  | .ok .brk, hr => exact hr.elim
  | .ok .cont, hr => exact hr.elim
  | .ok (.ret o), hr =>
    obtain ⟨rfl, rfl⟩ := hr
    have g0 : (s.heap.push (nset w)).get? s.heap.objs.size = some (nset w) := Heap.get?_push_size _ rfl
    have ty : Shared.TypeIs { s with heap := s.heap.push (nset w) } (.ref s.heap.objs.size) "set" := ⟨_, g0, rfl⟩
    have f6 := F.called_set.init.lookup
    have f7 := F.called_set.init.bind (.ref s.heap.objs.size)
    repeat (any_goals (first | assumption | wp_step))
    refine codeAny_mono (codeAny_call_builtin (R := wants (fun r s2 => r = .none ∧ ∃ g tk c, s2 = { s with heap := g, toks := tk } ∧ SetR w g s.heap.objs.size (fun j => decide (j ∈ ns)) c ∧ c ≤ ns.length ∧ (∀ b o, s.heap.get? b = some o → g.get? b = some o)) E) F.called_set.init.plain F.entry_set_init (check_set_init_1 ty ?_)) fun r2 s2 h2 => ?_
    · obtain ⟨ol, hol, hcl, nl, hdl⟩ := hL
      obtain ⟨oc, od, oda, osl⟩ := ol
      have hcl : oc = .type "list" := hcl
      have hdl : oda = .seq xs nl := hdl
      subst hcl hdl
      have kol : (s.heap.push (nset w)).get? l = some { cls := .type "list", dict := od, data := .seq xs nl, slots := osl } := Heap.get?_push_of_some _ hol
      have f8 := F.sub_list_set
      have f9 := F.sub_list_frozenset
      have f10 : (Value.type "list" == Value.type "dict") = false := by decide
      have hL1 : (s.heap.push (nset w)).IsList l xs := ⟨_, kol, rfl, nl, rfl⟩
      unfold Builtin.«set.__init__» noKeywords Builtin.Frozenset.updateFrom
      generalize hPI : pyIter = PI
      wp_walk
      subst hPI
      refine wpAny_pyIter_list hL1 ?_
      refine wpAny_bind (wpAny_runValue ?_)
      have lt : l < s.heap.objs.size := Heap.lt_size hol
      have h3 : A.in1.in1.in1.handled = none := by simp [hh]
      have z1 : (s.heap.push (nset w)).objs.size = s.heap.objs.size + 1 := Heap.size_push ..
      have n1 : l ≠ (s.heap.push (nset w)).objs.size := by rw [z1]; exact Nat.ne_of_lt (Nat.lt_succ_of_lt lt)
      have n2 : s.heap.objs.size ∉ [(s.heap.push (nset w)).objs.size, l] := by
        rw [z1]
        simp only [List.mem_cons, List.not_mem_nil, or_false, not_or]
        exact ⟨Nat.ne_of_lt (Nat.lt_succ_self _), Nat.ne_of_gt lt⟩
      have val : ∀ (i : Nat) (v : Value), xs[i]? = some v → ∃ k t, ns[i]? = some k ∧ v = .int k t := fun i v hv => by
        have hi : i < ns.length := by rw [← size]; exact (Array.getElem?_eq_some_iff.mp hv).1
        obtain ⟨t, e⟩ := PyProof.Rows.IntsAre.int_at hI i v (by rw [Array.getElem?_toList]; exact hv)
        rw [List.getD_eq_getElem?_getD, List.getElem?_eq_getElem hi] at e
        exact ⟨ns[i], t, List.getElem?_eq_getElem hi, e⟩
      refine set_update_ints ((Walks.list h3 _ l n1 xs).toS) s.heap.objs.size n2 ns size room val (xs.size - 0) 0 _ (by omega) (Nat.zero_le _) ⟨⟨_, Heap.get?_push_size _ rfl, rfl, rfl⟩, hL1.push _⟩ ?_ ?_
      · have g1 : ((s.heap.push (nset w)).push (lit l)).get? s.heap.objs.size = some (nset w) := Heap.get?_push_of_some _ g0
        exact ⟨0, Nat.le_refl 0, setR_new_at g1⟩
      · intro s3 c3 mv hc3 R3
        obtain ⟨g, gg, dd, tk, os⟩ := s3
        cases mv.gens
        cases mv.drawn
        cases mv.os
        rw [size] at hc3
        refine wpAny_pure (wpAny_pure ⟨rfl, g, tk, c3, rfl, R3, hc3, fun b o e => ?_⟩)
        have b0 : b < s.heap.objs.size := Heap.lt_size e
        refine mv.heap b o ?_ (Heap.get?_push_of_some _ (Heap.get?_push_of_some _ e))
        simp only [List.mem_cons, List.not_mem_nil, or_false, not_or]
        exact ⟨Nat.ne_of_lt b0, by show b ≠ (s.heap.push (nset w)).objs.size; rw [z1]; exact Nat.ne_of_lt (Nat.lt_succ_of_lt b0)⟩
    · match r2, h2 with
      | .error e, h2 => exact h2
      | .ok .next, h2 => exact h2.elim
      | .ok .brk, h2 => exact h2.elim
      | .ok .cont, h2 => exact h2.elim
      | .ok (.ret r), h2 =>
        obtain ⟨rfl, g, tk, c', rfl, R3, hc3, kp⟩ := h2
        repeat (any_goals (first | assumption | wp_step))
        exact hQ _ _ _ R3 hc3 kp
end
end Q
namespace Q
open PySem
open Spec PyProof.Rows L2

/-! ### sorted(set(xs)) -/
section
variable {X : Cx} {E : XK}
def tSrtSet (K : PySem.W.Frag) (ta : TE) : TE := fun σ H Q => ta σ H fun x H1 => ∃ (l : Addr) (ns : List Int), x = .ref l ∧ (SqL K H1 l (ns.map V.int) ∨ SqT K H1 l (ns.map V.int)) ∧ ns.length < 64 ∧
  ∀ (ms : List Int) (p : Addr), ms.Pairwise (· < ·) → (∀ i, i ∈ ms ↔ i ∈ ns) → H1 p = none → Q (.ref p) (upd H1 p (.lst (ms.map V.int)))
theorem pe_srtSet {a : Expr} {ta : TE} {p p2 q pos : Pos} (hc : X.calm = true) (hg : Gl X "sorted") (hm : X.mg "sorted" = none) (hg2 : Gl X "set") (hm2 : X.mg "set" = none) (ha : PE X a ta)
    (na : starEach [a] X.env = (false, eval a X.env) :: starEach [] X.env := by rfl) : PE X (.Call (.Name "sorted" p) [.Call (.Name "set" p2) [a] [] q] [] pos) (tSrtSet X.K ta) := by
  refine ⟨fun pins s σ H Q I h => Call_ (ld_blt I hg hm boot_sorted (PyProof.Rows.callWith_builtin1 (PyProof.Rows.args_cons (Call_ (ld_blt I hg2 hm2 boot_set ?_)) rfl) rfl rfl))⟩
  refine PyProof.Rows.callWith_type1 (PyProof.Rows.args_cons (thn (ha.run pins s σ H _ I h) fun v s1 ⟨x, H1, I1, r1, l, ns, ex, hq, h64, q1⟩ => PyProof.Rows.args_nil ?_) na) na rfl
  subst ex
  cases r1
  have hh := I1.ok.hd hc
  have fin : ∀ (g : Heap) (tk c : Nat), SetR X.w g s1.heap.objs.size (fun j => decide (j ∈ ns)) c → c ≤ ns.length → (∀ b o, s1.heap.get? b = some o → g.get? b = some o) →
      wpAny (model X.prog X.w) X.A (spliced (backTo pos (starEach [] X.env))) (fun vs s₂ => wpAny (model X.prog X.w) X.A (call (.builtin "sorted") (Value.ref s1.heap.objs.size :: vs)) (EP X pins σ Q) X.xe s₂) X.xe { s1 with heap := g, toks := tk } := fun g tk c R hcn kp => by
    refine PyProof.Rows.args_nil ?_
    have I2 : Inv X pins σ H1 { s1 with heap := g, toks := tk } := I1.kept fun b o e => kp b o e
    refine sorted_set R hh (Nat.lt_of_le_of_lt hcn h64) fun s2 a2 out c2 ms k g2 o2 hp hg3 hi hs hm3 hl => ?_
    have hlen : (ms.map V.int).length ≤ sizeLine := by rw [List.length_map, hl, sizeLine_eq]; omega
    have hn : H1 a2 = none := I2.hok.fresh hp
    have J : Inv X pins σ (upd H1 a2 (.lst (ms.map V.int))) { (⟨g, s1.gens, s1.drawn, tk, s1.os⟩ : Shared) with heap := s2.heap, gens := s2.gens, drawn := s2.drawn, toks := s2.toks } :=
      I2.call (ch := []) (Un.laid k hp hn) (I2.hok.laid k hp ⟨hlen, out.toList, c2, vals_of_ints hi, hg3⟩) (by rw [g2]; exact I2.bare) (fun _ z => nomatch z)
    have e : s2 = { s1 with heap := s2.heap, gens := s2.gens, drawn := s2.drawn, toks := s2.toks } := by
      cases s2
      cases s1
      cases o2
      rfl
    rw [e]
    exact ⟨.ref a2, _, J, rfl, q1 ms a2 hs (fun i => (hm3 i).trans (decide_eq_true_iff)) hn⟩
  rcases hq with hq | hq
  · obtain ⟨us, rv, pl, _⟩ := I1.list hq
    exact set_of_list ns hh pl.isList (by simpa using ints_of_vals rv) (by unfold scanBound; omega) fin
  · obtain ⟨us, rv, pl, _⟩ := I1.tuple hq
    exact call_set_tupI ns hh (show s1.heap.IsTuple l us.toArray from pl) (by simpa using ints_of_vals rv) (by unfold scanBound; omega) fin
def kSrtSet (k : KD) : KD := fun d S => match d with
  | .ref n => ∃ ns : List Int, isL S n (ns.map D.int) ∧ ns.length < 64 ∧ ∀ ms : List Int, ms.Pairwise (· < ·) → (∀ i, i ∈ ms ↔ i ∈ ns) → k (.ref S.length) (S ++ [.lst (ms.map D.int)])
  | .tup ds => ∃ ns : List Int, ds = ns.map D.int ∧ ns.length < 64 ∧ ∀ ms : List Int, ms.Pairwise (· < ·) → (∀ i, i ∈ ms ↔ i ∈ ns) → k (.ref S.length) (S ++ [.lst (ms.map D.int)])
  | _ => False
def dSrtSet (te : TED) : TED := fun sg S k x => te sg S (kSrtSet k) x
theorem q_srtSet {a : Expr} {te : TED} {p p2 q pos : Pos} (hc : X.calm = true) (hm : X.mg "sorted" = none) (hm2 : X.mg "set" = none) (ha : QE X E a te) (hg : Gl X "sorted" := by rfl) (hg2 : Gl X "set" := by rfl)
    (na : starEach [a] X.env = (false, eval a X.env) :: starEach [] X.env := by rfl) : QE X E (.Call (.Name "sorted" p) [.Call (.Name "set" p2) [a] [] q] [] pos) (dSrtSet te) :=
  pe_imp (pe_srtSet hc hg hm hg2 hm2 ha na) fun s H Q ⟨sg, al, S, kd, xd, rs, rl, q, up, ux⟩ => ⟨sg, al, S, kSrtSet kd, xd, rs, rl, q, fun d S1 al1 H1 v f1 r1 q1 => by
    unfold kSrtSet at q1
    split at q1
    · obtain ⟨ns, hl, h64, q1⟩ := q1
      obtain ⟨l, us, e2, _, h1, rv⟩ := isL_at f1.rs hl r1
      rw [rd_ints rv] at h1
      exact ⟨l, ns, e2, .inl h1, h64, fun ms p h2 h3 hp => up_new (up.mono f1) f1.rs hp (ints_rd ms) (q1 ms h2 h3)⟩
    · obtain ⟨ns, e, h64, q1⟩ := q1
      subst e
      obtain ⟨l, us, e2, h1, rv⟩ := r1
      rw [rd_ints rv] at h1
      exact ⟨l, ns, e2, .inr h1, h64, fun ms p h2 h3 hp => up_new (up.mono f1) f1.rs hp (ints_rd ms) (q1 ms h2 h3)⟩
    · exact q1.elim, ux⟩
/-! ### str(i) -/
def strI (i : Int) : Str := toString i
def spStr : SpD := fun ds S k _ => match ds with
  | [.int i] => i.natAbs.log2 < 1920 ∧ k (.str (strI i)) S
  | _ => False
theorem c_str : CallR X (.type "str") (LLs (cy X E) spStr) := by
  intro pins s σ H xs us Q I r ⟨ds, al, S, kd, xd, rs, rd, q, up, ux⟩
  unfold spStr at q
  split at q
  · obtain ⟨v, e, rv⟩ := rds1 rd
    cases (show v = _ from rv)
    subst e
    rename_i i
    exact call_str_int pins s σ H _ us Q I r ⟨i, rfl, q.1, up_at up rs (d := .str (strI i)) rfl q.2⟩
  · exact q.elim
/-! ### sep.join(xs) -/
theorem rd_strs {K : PySem.W.Frag} {H : Hp} {al : List Addr} : ∀ {ys : List Str} {vs : List V}, RDs K H al (ys.map D.str) vs → vs = ys.map V.str
  | [], vs, h => h
  | y :: ys, vs, ⟨v, r, e, h1, h2⟩ => by
    rw [e, show v = V.str y from h1, rd_strs h2]
    rfl
def kJoin2 (k : KD) (a : Str) : KD := fun e S => match e with
  | .ref n => ∃ ys : List Str, isL S n (ys.map D.str) ∧ (ys.map (·.length)).sum + ys.length * a.length ≤ 16777216 ∧ k (.str (Txt.join a ys)) S
  | _ => False
def kJoin1 (te : TED) (sg : Sl) (k : KD) (x : XD) : KD := fun d S => match d with
  | .str a => te sg S (kJoin2 k a) x
  | _ => False
def dJoin (to te : TED) : TED := fun sg S k x => to sg S (kJoin1 te sg k x) x
theorem q_join {o e : Expr} {to te : TED} {apos pos : Pos} (ho : QE X E o to) (he : QE X E e te) (hs : starEach [e] X.env = [(false, eval e X.env)] := by rfl) (hbase : attributeBase o "join" X.env (eval o X.env) = eval o X.env := by rfl) (hline : (apos.endLine == pos.line) = true := by rfl) :
    QE X E (.Call (.Attribute o "join" apos) [e] [] pos) (dJoin to te) :=
  pe_imp (pe_join ho he hs hbase hline) fun s H Q ⟨sg, al, S, kd, xd, rs, rl, q, up, ux⟩ => ⟨sg, al, S, kJoin1 te sg kd xd, xd, rs, rl, q, fun d S1 al1 H1 v f1 r1 q1 => by
    unfold kJoin1 at q1
    split at q1
    · rename_i a
      cases (show v = V.str a from r1)
      refine ⟨⟨a, rfl⟩, sg, al1, S1, kJoin2 kd a, xd, f1.rs, f1.rsl rl, q1, fun d2 S2 al2 H2 v2 f2 r2 q2 => ?_, ux.mono f1⟩
      unfold kJoin2 at q2
      split at q2
      · obtain ⟨ys, hl, hz, q2⟩ := q2
        obtain ⟨p, us, e2, _, h1, rv⟩ := isL_at f2.rs hl r2
        rw [rd_strs rv] at h1
        exact ⟨a, p, ys, rfl, by rw [e2], .inl h1, hz, up_at (up.mono (f1.trans f2)) f2.rs (d := .str (Txt.join a ys)) rfl q2⟩
      · exact q2.elim
    · exact q1.elim, ux⟩
end
end Q
namespace Q
open PySem
open Spec PyProof.Rows L2

/-! ### zip of two lists or two tuples -/
def zipD (xs ys : List D) : List D := xs.zipWith (fun a b => D.tup [a, b]) ys
theorem zipD_get {xs ys : List D} {i : Nat} {d : D} (h : (zipD xs ys)[i]? = some d) : ∃ a b, xs[i]? = some a ∧ ys[i]? = some b ∧ d = .tup [a, b] := by
  unfold zipD at h
  rw [List.getElem?_zipWith] at h
  cases ha : xs[i]? with
  | none => rw [ha] at h; cases h
  | some a =>
    cases hb : ys[i]? with
    | none => rw [ha, hb] at h; cases h
    | some b =>
      rw [ha, hb] at h
      exact ⟨a, b, rfl, rfl, (Option.some.inj h).symm⟩
theorem zipD_len (xs ys : List D) : (zipD xs ys).length = min xs.length ys.length := List.length_zipWith ..
theorem two_rd {K : PySem.W.Frag} {H' : Hp} {al' : List Addr} {y z : D} {v u : V} {T : Addr} {S' : Sto} (rs : RS K H' al' S') (hT : H' T = none) (rv : RD K H' al' y v) (ru : RD K H' al' z u) :
    Fut K H' al' (upd H' T (.tup [v, u])) al' S' ∧ RD K (upd H' T (.tup [v, u])) al' (.tup [y, z]) (.ref T) := by
  have f := Fut.lay (o := .tup [v, u]) rs hT
  exact ⟨f, T, [v, u], rfl, .inl (.of upd_same), _, _, rfl, f.rd rv, RDs.one (f.rd ru)⟩
theorem it_zipT {K : PySem.W.Frag} {H : Hp} {al : List Addr} {a b : Addr} {xs ys : List D} {vs us : List V} (h1 : SqT K H a vs) (r1 : RDs K H al xs vs) (h2 : SqT K H b us) (r2 : RDs K H al ys us) : ItOK K (RZ.ItzT K a b) ⟨zipD xs ys, fun _ => True⟩ H al where
  go := fun i H' al' S' f _ hi => by
    have hi : i < (zipD xs ys).length := hi
    rw [zipD_len] at hi
    have l1 : i < vs.length := by rw [RDs.length r1]; omega
    have l2 : i < us.length := by rw [RDs.length r2]; omega
    exact ⟨vs, us, vs[i], us[i], sqt_keep f.keep h1, sqt_keep f.keep h2, List.getElem?_eq_getElem l1, List.getElem?_eq_getElem l2⟩
  yld := fun i d H' al' S' x H'' f _ hd hy => by
    obtain ⟨T, y, z, e1, hT, e2, hy, hz⟩ := hy
    obtain ⟨a0, b0, ha0, hb0, rfl⟩ := zipD_get hd
    subst e1 e2
    obtain ⟨v, hv, rv⟩ := RDs.get (f.rds r1) ha0
    obtain ⟨u, hu, ru⟩ := RDs.get (f.rds r2) hb0
    have q1 := hy vs (sqt_keep f.keep h1)
    have q2 := hz us (sqt_keep f.keep h2)
    rw [hv] at q1
    rw [hu] at q2
    cases q1
    cases q2
    exact two_rd f.rs hT rv ru
  stop := fun H' al' S' f _ => ⟨vs, us, sqt_keep f.keep h1, sqt_keep f.keep h2, by
    show vs.length ≤ (zipD xs ys).length ∨ us.length ≤ (zipD xs ys).length
    rw [zipD_len, RDs.length r1, RDs.length r2]
    omega⟩
theorem it_zipL {K : PySem.W.Frag} {H : Hp} {al : List Addr} {a b : Addr} {n m : Nat} {xs ys : List D} (ha : al[n]? = some a) (hb : al[m]? = some b) : ItOK K (Itz K a b) ⟨zipD xs ys, fun S => isL S n xs ∧ isL S m ys⟩ H al where
  go := fun i H' al' S' f g hi => by
    have hi : i < (zipD xs ys).length := hi
    rw [zipD_len] at hi
    obtain ⟨vs, h1, r1⟩ := isL_sq f.rs g.1 (getExt f ha)
    obtain ⟨us, h2, r2⟩ := isL_sq f.rs g.2 (getExt f hb)
    have l1 : i < vs.length := by rw [RDs.length r1]; omega
    have l2 : i < us.length := by rw [RDs.length r2]; omega
    exact ⟨vs, us, vs[i], us[i], h1, h2, List.getElem?_eq_getElem l1, List.getElem?_eq_getElem l2⟩
  yld := fun i d H' al' S' x H'' f g hd hy => by
    obtain ⟨T, y, z, e1, hT, e2, hy, hz⟩ := hy
    obtain ⟨a0, b0, ha0, hb0, rfl⟩ := zipD_get hd
    subst e1 e2
    obtain ⟨vs, h1, r1⟩ := isL_sq f.rs g.1 (getExt f ha)
    obtain ⟨us, h2, r2⟩ := isL_sq f.rs g.2 (getExt f hb)
    obtain ⟨v, hv, rv⟩ := RDs.get r1 ha0
    obtain ⟨u, hu, ru⟩ := RDs.get r2 hb0
    have q1 := hy vs h1
    have q2 := hz us h2
    rw [hv] at q1
    rw [hu] at q2
    cases q1
    cases q2
    exact two_rd f.rs hT rv ru
  stop := fun H' al' S' f g => by
    obtain ⟨vs, h1, r1⟩ := isL_sq f.rs g.1 (getExt f ha)
    obtain ⟨us, h2, r2⟩ := isL_sq f.rs g.2 (getExt f hb)
    refine ⟨vs, us, h1, h2, ?_⟩
    show vs.length ≤ (zipD xs ys).length ∨ us.length ≤ (zipD xs ys).length
    rw [zipD_len, RDs.length r1, RDs.length r2]
    omega
def kZp (k : ItD → Sto → Prop) : List D → Sto → Prop := fun ds S => match ds with
  | [.tup xs, .tup ys] => k ⟨zipD xs ys, fun _ => True⟩ S
  | [.ref n, .ref m] => ∃ xs ys, isL S n xs ∧ isL S m ys ∧ k ⟨zipD xs ys, fun S => isL S n xs ∧ isL S m ys⟩ S
  | _ => False
def iZp (ta : TAD) : TID := fun sg S k x => ta sg S (kZp k) x
section
variable {X : Cx} {E : XK}
theorem q_zip {e e2 : Expr} {ta : TAD} {p pos tpos : Pos} {elts : List Expr} {kk : Nat} (hg : Gl X "zip") (hm : X.mg "zip" = none) (ha : QA X E [e, e2] ta)
    (hs : starEach [e, e2] X.env = (false, eval e X.env) :: starEach [e2] X.env := by rfl) (hpl : (backTo pos (starEach [e2] X.env)).any (·.1) = false := by rfl) :
    QI X E (.Tuple elts kk tpos) (.Call (.Name "zip" p) [e, e2] [] pos) (iZp ta) :=
  pi_imp (RZ.pi_zipA hg hm ha hs hpl) fun s H R ⟨sg, al, S, kd, xd, rs, rl, q, up, ux⟩ => ⟨sg, al, S, kZp kd, xd, rs, rl, q, fun ds S1 al1 H1 vs f1 r1 q1 => by
    unfold kZp at q1
    split at q1
    · obtain ⟨v, u, e, r2, r3⟩ := rds2 r1
      obtain ⟨a, vs1, e1, h1, rv1⟩ := r2
      obtain ⟨b, vs2, e2, h2, rv2⟩ := r3
      subst e e1 e2
      exact ⟨a, b, vs1, vs2, rfl, .inr ⟨h1, h2, up _ S1 al1 H1 _ f1 (it_zipT h1 rv1 h2 rv2) q1⟩⟩
    · obtain ⟨xs, ys, hl1, hl2, q1⟩ := q1
      obtain ⟨v, u, e, r2, r3⟩ := rds2 r1
      subst e
      obtain ⟨a, vs1, e1, ha1, h1, _⟩ := isL_at f1.rs hl1 r2
      obtain ⟨b, vs2, e2, hb1, h2, _⟩ := isL_at f1.rs hl2 r3
      subst e1 e2
      exact ⟨a, b, vs1, vs2, rfl, .inl ⟨h1, h2, up _ S1 al1 H1 _ f1 (it_zipL ha1 hb1) q1⟩⟩
    · exact q1.elim, ux⟩
/-! ### a op b op c -/
def kCh3 (r : R2D) (k : KD) (x : XD) (y : D) : KD := fun z S => r y z S k x
def kCh2 (r r' : R2D) (tc : TED) (sg : Sl) (k : KD) (x : XD) (d : D) : KD := fun y S => r d y S (fun z S1 => match z with
  | .bl true => tc sg S1 (kCh3 r' k x y) x
  | .bl false => k (.bl false) S1
  | _ => False) x
def kCh1 (r r' : R2D) (tb tc : TED) (sg : Sl) (k : KD) (x : XD) : KD := fun d S => tb sg S (kCh2 r r' tc sg k x d) x
def dChain (r r' : R2D) (ta tb tc : TED) : TED := fun sg S k x => ta sg S (kCh1 r r' tb tc sg k x) x
theorem chain_red {r r' : R2D} {ta tb tc : TED} {s : L2.St} {H : Hp} {Q : VK} (h : LE (cy X E) (dChain r r' ta tb tc) s H Q) : tChain (LL2 (cy X E) r) (LL2 (cy X E) r') (LE (cy X E) ta) (LE (cy X E) tb) (LE (cy X E) tc) s H Q := by
  obtain ⟨sg, al, S, kd, xd, rs, rl, q, up, ux⟩ := h
  refine ⟨sg, al, S, kCh1 r r' tb tc sg kd xd, xd, rs, rl, q, fun d1 S1 al1 H1 v1 f1 r1 q1 => ?_, ux⟩
  refine ⟨sg, al1, S1, kCh2 r r' tc sg kd xd d1, xd, f1.rs, f1.rsl rl, q1, fun d2 S2 al2 H2 v2 f2 r2 q2 => ?_, ux.mono f1⟩
  refine ⟨d1, d2, al2, S2, _, xd, f2.rs, f2.rd r1, r2, q2, fun d3 S3 al3 H3 v3 f3 r3 q3 => ?_, ux.mono (f1.trans f2)⟩
  cases d3 <;> try exact q3.elim
  case bl z =>
    cases (show v3 = V.bl z from r3)
    refine ⟨z, rfl, ?_⟩
    cases z with
    | true =>
      refine ite_of ⟨fun _ => ?_, fun z => nomatch z⟩
      refine ⟨sg, al3, S3, _, xd, f3.rs, ((f1.trans f2).trans f3).rsl rl, q3, fun d4 S4 al4 H4 v4 f4 r4 q4 => ?_, ux.mono ((f1.trans f2).trans f3)⟩
      exact ⟨d2, d4, al4, S4, kd, xd, f4.rs, (f3.trans f4).rd r2, r4, q4, up.mono (((f1.trans f2).trans f3).trans f4), ux.mono (((f1.trans f2).trans f3).trans f4)⟩
    | false =>
      refine ite_of ⟨fun z => (nomatch z), fun _ => ?_⟩
      exact up (.bl false) S3 al3 H3 (.bl false) ((f1.trans f2).trans f3) rfl q3
theorem q_chain {op op' : CmpOp} {r r' : R2D} {a b c : Expr} {ta tb tc : TED} {pos : Pos} (ho : OpR X (compareOp op) (LL2 (cy X E) r)) (ho' : OpR X (compareOp op') (LL2 (cy X E) r')) (ha : QE X E a ta) (hb : QE X E b tb) (hc : QE X E c tc)
    (hm : lastMarks [op, op'] [b, c] = false := by with_unfolding_all rfl) : QE X E (.Compare a [op, op'] [b, c] pos) (dChain r r' ta tb tc) :=
  pe_imp (pe_chain ho ho' ha hb hc hm) fun _ _ _ => chain_red
/-! ### len(set(xs)) of unlike ints -/
def tLenNew (K : PySem.W.Frag) (ta : TE) : TE := fun σ H Q => ta σ H fun x H1 => ∃ (l : Addr) (ns : List Int), x = .ref l ∧ (SqL K H1 l (ns.map V.int) ∨ SqT K H1 l (ns.map V.int)) ∧ ns.Nodup ∧ ns.length < 1000 ∧ Q (.int ns.length) H1
theorem pe_lenNew {a : Expr} {ta : TE} {p p2 q pos : Pos} (hc : X.calm = true) (hg : Gl X "len") (hm : X.mg "len" = none) (hg2 : Gl X "set") (hm2 : X.mg "set" = none) (ha : PE X a ta)
    (na : starEach [a] X.env = (false, eval a X.env) :: starEach [] X.env := by rfl) : PE X (.Call (.Name "len" p) [.Call (.Name "set" p2) [a] [] q] [] pos) (tLenNew X.K ta) := by
  refine ⟨fun pins s σ H Q I h => Call_ (ld_blt I hg hm boot_len (PyProof.Rows.callWith_builtin1 (PyProof.Rows.args_cons (Call_ (ld_blt I hg2 hm2 boot_set ?_)) rfl) rfl rfl))⟩
  refine PyProof.Rows.callWith_type1 (PyProof.Rows.args_cons (thn (ha.run pins s σ H _ I h) fun v s1 ⟨x, H1, I1, r1, l, ns, ex, hq, hnd, h1k, q1⟩ => PyProof.Rows.args_nil ?_) na) na rfl
  subst ex
  cases r1
  have hh := I1.ok.hd hc
  have fin : ∀ (g : Heap) (tk c : Nat), SetR X.w g s1.heap.objs.size (fun j => decide (j ∈ ns)) c → c ≤ ns.length → (∀ b o, s1.heap.get? b = some o → g.get? b = some o) →
      wpAny (model X.prog X.w) X.A (spliced (backTo pos (starEach [] X.env))) (fun vs s₂ => wpAny (model X.prog X.w) X.A (call (.builtin "len") (Value.ref s1.heap.objs.size :: vs)) (EP X pins σ Q) X.xe s₂) X.xe { s1 with heap := g, toks := tk } := fun g tk c R _ kp => by
    refine PyProof.Rows.args_nil ?_
    have I2 : Inv X pins σ H1 { s1 with heap := g, toks := tk } := I1.kept fun b o e => kp b o e
    obtain ⟨o, es, ep, t, ho, hex, hd, _, nd, hmem, _, hf, hn, _, _⟩ := R
    have pm : (es.toList.map keyOf).Perm ns := (List.perm_ext_iff_of_nodup nd hnd).mpr fun j => (hmem j).symm.trans decide_eq_true_iff
    have hsz : es.size = ns.length := by
      have := pm.length_eq
      rwa [List.length_map, Array.length_toList] at this
    exact call_len_set ho hex hd hf (by rw [hsz]; omega) ⟨.int ns.length, H1, I2.tok _, ⟨_, by rw [hsz]⟩, q1⟩
  rcases hq with hq | hq
  · obtain ⟨us, rv, pl, _⟩ := I1.list hq
    exact set_of_list ns hh pl.isList (by simpa using ints_of_vals rv) (by unfold scanBound; omega) fin
  · obtain ⟨us, rv, pl, _⟩ := I1.tuple hq
    exact call_set_tupI ns hh (show s1.heap.IsTuple l us.toArray from pl) (by simpa using ints_of_vals rv) (by unfold scanBound; omega) fin
def kLenNew (k : KD) : KD := fun d S => match d with
  | .ref n => ∃ ns : List Int, isL S n (ns.map D.int) ∧ ns.Nodup ∧ ns.length < 1000 ∧ k (.int ns.length) S
  | .tup ds => ∃ ns : List Int, ds = ns.map D.int ∧ ns.Nodup ∧ ns.length < 1000 ∧ k (.int ns.length) S
  | _ => False
def dLenNew (te : TED) : TED := fun sg S k x => te sg S (kLenNew k) x
theorem q_lenNew {a : Expr} {te : TED} {p p2 q pos : Pos} (hc : X.calm = true) (hm : X.mg "len" = none) (hm2 : X.mg "set" = none) (ha : QE X E a te) (hg : Gl X "len" := by rfl) (hg2 : Gl X "set" := by rfl)
    (na : starEach [a] X.env = (false, eval a X.env) :: starEach [] X.env := by rfl) : QE X E (.Call (.Name "len" p) [.Call (.Name "set" p2) [a] [] q] [] pos) (dLenNew te) :=
  pe_imp (pe_lenNew hc hg hm hg2 hm2 ha na) fun s H Q ⟨sg, al, S, kd, xd, rs, rl, q, up, ux⟩ => ⟨sg, al, S, kLenNew kd, xd, rs, rl, q, fun d S1 al1 H1 v f1 r1 q1 => by
    unfold kLenNew at q1
    split at q1
    · obtain ⟨ns, hl, hnd, hz, q1⟩ := q1
      obtain ⟨l, us, e2, _, h1, rv⟩ := isL_at f1.rs hl r1
      rw [rd_ints rv] at h1
      exact ⟨l, ns, e2, .inl h1, hnd, hz, up_at (up.mono f1) f1.rs (d := .int ns.length) rfl q1⟩
    · obtain ⟨ns, e, hnd, hz, q1⟩ := q1
      subst e
      obtain ⟨l, us, e2, h1, rv⟩ := r1
      rw [rd_ints rv] at h1
      exact ⟨l, ns, e2, .inr h1, hnd, hz, up_at (up.mono f1) f1.rs (d := .int ns.length) rfl q1⟩
    · exact q1.elim, ux⟩
end
end Q
namespace Q
open PySem
open Spec PyProof.Rows L2

/-! ### dicts: {}, d[k], d.get(k, x), d[k] = v -/
def valD (kvs : List (Key × D)) (k : Key) : Option D := (kvs.find? fun p => decide (p.1 = k)).map (·.2)
theorem rks_val {K : PySem.W.Frag} {H : Hp} {al : List Addr} {k : Key} : ∀ {ds : List (Key × D)} {vs : List (Key × V)}, RKs K H al ds vs → (∀ d, valD ds k = some d → ∃ v, valV vs k = some v ∧ RD K H al d v) ∧ (valD ds k = none → valV vs k = none)
  | [], _, h => by
    rw [show _ = [] from h]
    exact ⟨fun _ z => (by cases z), fun _ => rfl⟩
  | p :: ds, _, ⟨w, r, e, h1, h2⟩ => by
    subst e
    have ih := rks_val (k := k) h2
    unfold valD valV at ih ⊢
    by_cases q : p.1 = k
    · rw [List.find?_cons_of_pos (by simpa using q), List.find?_cons_of_pos (by simpa using q)]
      refine ⟨fun d z => ⟨w, rfl, ?_⟩, fun z => ?_⟩
      · cases z
        exact h1
      · cases z
    · rw [List.find?_cons_of_neg (by simpa using q), List.find?_cons_of_neg (by simpa using q)]
      exact ih
def dDicE : TED := fun _ S k _ => k (.ref S.length) (S ++ [.dic []])
def rDget (d y : D) (S : Sto) (k : Option D → Sto → Prop) : Prop := match d with
  | .ref n => ∃ kvs key, S[n]? = some (.dic kvs) ∧ y = keyD key ∧ k (valD kvs key) S
  | _ => False
def kDg2 (k : KD) (d : D) : KD := fun y S => rDget d y S fun o S' => ∃ v, o = some v ∧ k v S'
def kDg1 (ty : TED) (sg : Sl) (k : KD) (x : XD) : KD := fun d S => ty sg S (kDg2 k d) x
/-- d[y] of a dict -/
def dDget (td ty : TED) : TED := fun sg S k x => td sg S (kDg1 ty sg k x) x
def kDh3 (k : KD) (d y : D) : KD := fun z S => rDget d y S fun o S' => k (o.getD z) S'
def kDh2 (tx : TED) (sg : Sl) (k : KD) (x : XD) (d : D) : KD := fun y S => tx sg S (kDh3 k d y) x
def isDic (S : Sto) (d : D) : Prop := match d with
  | .ref n => ∃ kvs, S[n]? = some (.dic kvs)
  | _ => False
def kDh1 (ty tx : TED) (sg : Sl) (k : KD) (x : XD) : KD := fun d S => isDic S d ∧ ty sg S (kDh2 tx sg k x d) x
/-- d.get(y, z) -/
def dDget2 (td ty tx : TED) : TED := fun sg S k x => td sg S (kDh1 ty tx sg k x) x
def rDset : D → D → D → Sto → (Sto → Prop) → Prop := fun o i v S q => match o with
  | .ref n => ∃ kvs key, S[n]? = some (.dic kvs) ∧ i = keyD key ∧ kvs.length < sizeLine ∧ q (S.set n (.dic (putD kvs key v)))
  | _ => False
def kGd2 (o : D) (v : D) (sg : Sl) (q : Sl → Sto → Prop) : KD := fun i S => rDset o i v S (fun S' => q sg S')
def kGd1 (ti : TED) (v : D) (sg : Sl) (q : Sl → Sto → Prop) (x : XD) : KD := fun o S => ti sg S (kGd2 o v sg q) x
/-- d[i] = .. of a dict -/
def gDb (to ti : TED) : TGD := fun v sg S q x => to sg S (kGd1 ti v sg q x) x
theorem dic_at {K : PySem.W.Frag} {H : Hp} {al : List Addr} {S : Sto} {n : Nat} {ds : List (Key × D)} {v : V} (rs : RS K H al S) (h : S[n]? = some (.dic ds)) (r : RD K H al (.ref n) v) : ∃ a vs, v = .ref a ∧ al[n]? = some a ∧ H a = some (.dK vs) ∧ RKs K H al ds vs := by
  obtain ⟨a, e, ha⟩ := r
  obtain ⟨vs, e1, r1⟩ := rs.ob n _ a h ha
  exact ⟨a, vs, e, ha, e1, r1⟩
section
variable {X : Cx} {E : XK} {o i e f : Expr} {to ti te tx : TED} {pos pos' apos cpos : Pos}
theorem q_dNew : QE X E (.Dict [] [] pos) dDicE :=
  pe_imp pe_dnewK fun s H Q ⟨sg, al, S, kd, xd, rs, rl, q, up, ux⟩ => fun p hp => up (.ref S.length) _ _ _ (.ref p) (new_dic (ds := []) (vs := []) rs hp rfl) ⟨p, rfl, by rw [← rs.len]; simp⟩ q
theorem q_dget (hu : X.A.units + 64 < cLine) (ho : QE X E o to) (hi : QE X E i ti) (hs : NoSl i := by intro _ _; rfl) : QE X E (.Subscript o i pos) (dDget to ti) :=
  pe_imp (pe_dget (Nat.lt_of_le_of_lt (Nat.add_le_add_left (by decide) _) hu) ho hi hs) fun s H Q ⟨sg, al, S, kd, xd, rs, rl, q, up, ux⟩ => ⟨sg, al, S, kDg1 ti sg kd xd, xd, rs, rl, q, fun d1 S1 al1 H1 v1 f1 r1 q1 =>
    ⟨sg, al1, S1, kDg2 kd d1, xd, f1.rs, f1.rsl rl, q1, fun d2 S2 al2 H2 v2 f2 r2 q2 => by
      have qz : rDget d1 d2 S2 fun o S' => ∃ v, o = some v ∧ kd v S' := q2
      clear q2
      unfold rDget at qz
      split at qz
      · obtain ⟨kvs, key, h1, e2, v, hv, q2⟩ := qz
        subst e2
        obtain ⟨a, vs, ea, _, eH, rk⟩ := dic_at f2.rs h1 (f2.rd r1)
        obtain ⟨w, hw, rw'⟩ := (rks_val (k := key) rk).1 v hv
        rw [key_rd r2]
        exact ⟨a, w, ea, by rw [← hw]; exact DGet.k eH, up_at (up.mono (f1.trans f2)) f2.rs rw' q2⟩
      · exact qz.elim, ux.mono f1⟩, ux⟩
theorem q_dget2 (hu : X.A.units + 64 < cLine) (ho : QE X E o to) (he : QE X E e te) (hf : QE X E f tx) (m : M2 X o "get" apos e f cpos := by exact ⟨rfl, rfl, rfl, rfl⟩) : QE X E (.Call (.Attribute o "get" apos) [e, f] [] cpos) (dDget2 to te tx) :=
  pe_imp (pe_dget2 (Nat.lt_of_le_of_lt (Nat.add_le_add_left (by decide) _) hu) ho he hf m) fun s H Q ⟨sg, al, S, kd, xd, rs, rl, q, up, ux⟩ => ⟨sg, al, S, kDh1 te tx sg kd xd, xd, rs, rl, q, fun d1 S1 al1 H1 v1 f1 r1 q1 => by
    obtain ⟨hD, q1⟩ := q1
    cases d1 with
    | ref n =>
      obtain ⟨kvs0, h0⟩ := hD
      obtain ⟨a, vs0, ea, han, eH0, rk0⟩ := dic_at f1.rs h0 r1
      refine ⟨a, ea, .inl ⟨vs0, .inl eH0⟩, sg, al1, S1, kDh2 tx sg kd xd (.ref n), xd, f1.rs, f1.rsl rl, q1, fun d2 S2 al2 H2 v2 f2 r2 q2 => ?_, ux.mono f1⟩
      refine ⟨sg, al2, S2, kDh3 kd (.ref n) d2, xd, f2.rs, (f1.trans f2).rsl rl, q2, fun d3 S3 al3 H3 v3 f3 r3 q3 => ?_, ux.mono (f1.trans f2)⟩
      have qz : rDget (.ref n) d2 S3 fun o S' => kd (o.getD d3) S' := q3
      clear q3
      unfold rDget at qz
      obtain ⟨kvs, key, h1, e2, q3⟩ := qz
      subst e2
      obtain ⟨a', vs, ea', _, eH, rk⟩ := dic_at f3.rs h1 ((f2.trans f3).rd r1)
      rw [ea] at ea'
      cases ea'
      rw [key_rd r2]
      have fA := (f1.trans f2).trans f3
      refine ⟨valV vs key, DGet.k eH, ?_⟩
      have rv := rks_val (k := key) rk
      cases hv : valD kvs key with
      | none =>
        rw [hv] at q3
        rw [rv.2 hv]
        exact up_at (up.mono fA) f3.rs r3 q3
      | some v =>
        rw [hv] at q3
        obtain ⟨w, hw, rw'⟩ := rv.1 v hv
        rw [hw]
        exact up_at (up.mono fA) f3.rs rw' q3
    | _ => exact hD.elim, ux⟩
theorem q_gdb (hu : X.A.units + 64 < cLine) (ho : QE X E o to) (hi : QE X E i ti) (ha : ∀ v, assign (.Subscript o i pos) X.env v = (do
      let b ← holding [v] (eval o X.env)
      let c ← holding [v, b] (eval i X.env)
      standAt pos; holding [v, b, c] (setItem b c v); release [v, b, c] []) := by intro _; rfl) : QGp X E (.Subscript o i pos) (gDb to ti) := by
  refine pg_imp (pg_sub ho hi (set_dict (Nat.lt_of_le_of_lt (Nat.add_le_add_left (by decide) _) hu)) ha) fun v s H Q ⟨d, sg, al, S, qd, xd, rs, rl, rd, q, up, ux⟩ => ?_
  refine ⟨sg, al, S, _, xd, rs, rl, q, fun d1 S1 al1 H1 v1 f1 r1 q1 => ⟨sg, al1, S1, _, xd, f1.rs, f1.rsl rl, q1, fun d2 S2 al2 H2 v2 f2 r2 q2 => ?_, ux.mono f1⟩, ux⟩
  have qz : rDset d1 d2 d S2 (fun S' => qd sg S') := q2
  clear q2
  unfold rDset at qz
  split at qz
  · obtain ⟨kvs, key, h1, e2, hz, q2⟩ := qz
    subst e2
    obtain ⟨a, vs, e1, ha1, eH, rk⟩ := dic_at f2.rs h1 (f2.rd r1)
    have rv := (f1.trans f2).rd rd
    have f3 := set_dic f2.rs h1 ha1 (rks_put (k := key) rv rk)
    rw [key_rd r2]
    exact ⟨a, _, e1, DPut.k eH (by rw [rks_len rk]; exact hz), up sg _ al2 _ s ((f1.trans f2).trans f3) (((f1.trans f2).trans f3).rsl rl) q2⟩
  · exact qz.elim
/-! ### xs[i] op= e of a list -/
def kAs4 (M : EndsD) (sg : Sl) (n j : Nat) : KD := fun v S => ∃ xs, S[n]? = some (.lst xs) ∧ j < xs.length ∧ M.nx sg (S.set n (.lst (xs.set j v)))
def kAs3 (r : R2D) (M : EndsD) (sg : Sl) (n j : Nat) (y : D) : KD := fun z S => r y z S (kAs4 M sg n j) M.ex
def kAs2 (te : TED) (r : R2D) (M : EndsD) (sg : Sl) (d : D) : KD := fun i S => match d, i with
  | .ref n, .int k => ∃ xs j y, S[n]? = some (.lst xs) ∧ k = ((j : Nat) : Int) ∧ xs[j]? = some y ∧ te sg S (kAs3 r M sg n j y) M.ex
  | _, _ => False
def kAs1 (ti te : TED) (r : R2D) (M : EndsD) (sg : Sl) : KD := fun d S => ti sg S (kAs2 te r M sg d) M.ex
def dAugS (r : R2D) (to ti te : TED) : TSD := fun M sg S => to sg S (kAs1 ti te r M sg) M.ex
def gIxN : V → V → Hp → VK → Prop := fun o i H Q => ∃ p xs, ∃ k : Nat, ∃ v, o = .ref p ∧ i = .int (k : Int) ∧ H p = some (.lst xs) ∧ xs[k]? = some v ∧ Q v H
theorem get_ixN : PGet X gIxN := by
  intro pins s σ H x y v u Q I rx ry h
  obtain ⟨p, xs, k, z, rfl, rfl, hq, he, q⟩ := h
  cases rx
  obtain ⟨t, rfl⟩ := ry
  obtain ⟨its, r, pl, hz⟩ := I.list (.inl (.inl hq))
  obtain ⟨w, ew, rw'⟩ := r.get he
  have hk : k < its.length := (List.getElem?_eq_some_iff.mp ew).1
  have hn := line63
  have hs : its.length ≤ sizeLine := by have := r.length; omega
  exact wpAny_getItem_list pl.isList (by omega) (by omega) (by simpa using ew) ⟨z, H, I, rw', q⟩
theorem q_augS {op : Operator} {r : R2D} {tpos : Pos} (ho' : OpR X (inplaceOp op) (LL2 (cy X E) r)) (ho : QE X E o to) (hi : QE X E i ti) (he : QE X E e te)
    (ha : ∀ ov iv new, augStore i ov iv new = (do holding [new, ov, iv] (setItem ov iv new); release [new, ov, iv] []; pure .next) := by intros; rfl) : QS X E (.AugAssign (.Subscript o i tpos) op e pos) (dAugS r to ti te) := by
  have hp : PIp X op (LL2 (cy X E) r) := fun pins s σ H x y v u Q I r1 r2 h => ho' pins s σ H x y v u Q I r1 r2 h
  refine ps_imp (ps_augS ho hi get_ixN he hp set_list ha) fun De s H ⟨sg, al, S, M, rs, rl, q, ue⟩ => ?_
  refine ⟨sg, al, S, kAs1 ti te r M sg, M.ex, rs, rl, q, fun d1 S1 al1 H1 v1 f1 r1 q1 => ?_, ue.ex⟩
  refine ⟨sg, al1, S1, kAs2 te r M sg d1, M.ex, f1.rs, f1.rsl rl, q1, fun d2 S2 al2 H2 v2 f2 r2 q2 => ?_, ue.ex.mono f1⟩
  unfold kAs2 at q2
  split at q2
  · rename_i n k
    obtain ⟨xs, j, y, h1, hk, hy, q2⟩ := q2
    subst hk
    obtain ⟨a, vs, e1, ha1, eH, rv⟩ := lst_at f2.rs h1 (f2.rd r1)
    obtain ⟨w, hw, rw'⟩ := RDs.get rv hy
    cases (show v2 = _ from r2)
    have f12 := f1.trans f2
    refine ⟨a, vs, j, w, e1, rfl, eH, hw, sg, al2, S2, kAs3 r M sg n j y, M.ex, f2.rs, f12.rsl rl, q2, fun d3 S3 al3 H3 v3 f3 r3 q3 => ?_, ue.ex.mono f12⟩
    have f123 := f12.trans f3
    refine ⟨y, d3, al3, S3, kAs4 M sg n j, M.ex, f3.rs, f3.rd rw', r3, q3, fun d4 S4 al4 H4 v4 f4 r4 q4 => ?_, ue.ex.mono f123⟩
    obtain ⟨xs4, h4, hj4, q4⟩ := q4
    obtain ⟨a4, vs4, e4, ha4, eH4, rv4⟩ := lst_at f4.rs h4 (((f2.trans f3).trans f4).rd r1)
    rw [e1] at e4
    cases e4
    have f5 := set_lst f4.rs h4 ha4 (RDs.set j rv4 r4)
    have fA := (f123.trans f4).trans f5
    refine ⟨a, vs4, (j : Int), j, e1, rfl, eH4, by rw [RDs.length rv4]; unfold ixN; rw [if_pos (by omega), if_pos (by omega)]; simp, ?_⟩
    exact ue.nx sg _ al4 _ s fA (fA.rsl rl) q4
  · exact q2.elim
/-! ### xs.remove(k) of a list of ints -/
def rRem : RMD := fun d ds S k _ => match d, ds with
  | .ref n, [.int i] => ∃ ns : List Int, S[n]? = some (.lst (ns.map D.int)) ∧ i ∈ ns ∧ k .non (S.set n (.lst ((ns.erase i).map D.int)))
  | _, _ => False
theorem idx_first {i : Int} : ∀ {ns : List Int}, i ∈ ns → ∃ j : Nat, ns[j]? = some i ∧ (∀ m : Nat, m < j → ns[m]? ≠ some i) ∧ ns.erase i = ns.eraseIdx j
  | [], h => nomatch h
  | a :: ns, h => by
    by_cases e : a = i
    · subst e
      exact ⟨0, rfl, fun m hm => absurd hm (Nat.not_lt_zero _), by rw [List.erase_cons_head]; rfl⟩
    · obtain ⟨j, h1, h2, h3⟩ := idx_first (ns := ns) ((List.mem_cons.mp h).resolve_left fun z => e z.symm)
      refine ⟨j + 1, by simpa using h1, fun m hm => ?_, ?_⟩
      · cases m with
        | zero => simpa using e
        | succ m => simpa using h2 m (by omega)
      · rw [List.erase_cons_tail (by simpa using e), h3]
        rfl
theorem m_rem : MtR X "list.remove" (LLm (cy X E) rRem) := by
  intro pins s σ H x xs v us Q I rx rv ⟨d, ds, al, S, kd, xd, rs, rd, rds, q, up, ux⟩
  unfold rRem at q
  split at q
  · obtain ⟨ns, h1, hi, q⟩ := q
    obtain ⟨a, us', e1, ha, hH, r1⟩ := lst_at rs h1 rd
    obtain ⟨y, e2, ry⟩ := rds1 rds
    cases (show y = _ from ry)
    rw [rd_ints r1] at hH
    obtain ⟨j, j1, j2, j3⟩ := idx_first hi
    rw [j3] at q
    exact mt_remove pins s σ H x xs v us Q I rx rv ⟨a, ns, _, j, e1, e2, hH, j1, j2, up .non _ al _ .non (set_lst rs h1 ha (ints_rd _)) rfl q⟩
  · exact q.elim
end
end Q
namespace Q
open PySem
open Spec PyProof.Rows L2

/-! ### sorted of a tuple of ints -/
section
variable {prog : Program} {w : World} {A : Around} {E : Value → Shared → Prop} {s : Shared}
abbrev bagH (h : Heap) (vs : List Value) : Heap := (h.push (seqObj "list" #[] 0)).update h.objs.size (Obj.mapSeq (· ++ vs.toArray))
theorem collect_tup {t : Addr} {vs : List Value} {Q : List Value → Shared → Prop} (ht : IsTup s.heap t vs.toArray) (hz : vs.length ≤ sizeLine) (h : Q vs { s with heap := bagH s.heap vs }) : wpAny (model prog w) A (collect (.ref t)) Q E s := by
  obtain ⟨o, ho, hc, n, hd⟩ := (id ht : IsTup _ _ _)
  have h0 : (s.heap.push (seqObj "list" #[] 0)).get? s.heap.objs.size = some (seqObj "list" #[] 0) := Heap.get?_push_size _ rfl
  have h1 : (s.heap.push (seqObj "list" #[] 0)).get? t = some o := Heap.get?_push_of_some _ ho
  have hn : (#[] ++ vs.toArray).size ≤ sizeLine + 1 := by simp only [Array.size_append, List.size_toArray, List.length_nil]; omega
  have grow : ∀ A' : Around, wpAny (model prog w) A' (Builtin.List.listExtendWith (.ref s.heap.objs.size) (.ref t) (.ref s.heap.objs.size)) (fun f s' => f = .done (.ret (.ref s.heap.objs.size)) ∧ s' = { s with heap := bagH s.heap vs }) (fun _ _ => False) { s with heap := s.heap.push (seqObj "list" #[] 0) } := fun A' => by
    unfold Builtin.List.listExtendWith
    refine wpAny_bind (wpAny_typeOf (T := "tuple") ⟨o, h1, hc⟩ ?_)
    have hb : (Value.type "tuple" == Value.type "tuple") = true := by rfl
    rw [if_pos (by simp [hb])]
    refine wpAny_bind (listItems_at h1 hd (wpAny_bind (listItems_at (xs := #[]) (n := 0) h0 rfl ?_)))
    rw [if_neg (by simp)]
    exact wpAny_bind (listUpdate_at (xs := #[]) (n := 0) h0 rfl (wpAny_pure ⟨rfl, rfl⟩) (Nat.zero_le _) hn)
  unfold collect
  refine wpAny_bind (wpAny_runValue (codeAny_builtin entry_proto_collect' (show wpAny _ _ (do again (.builtin "list.__iadd__" ⟨[← newList [], .ref t], []⟩)) _ _ s from wpAny_bind (wpAny_newList (wpAny_pure ⟨Code.quiet_builtin _ (by decide +kernel), codeAny_builtin entry_list_iadd' (wpAny_mono (grow _) (fun f s' hf => ?_) fun _ _ x => x.elim)⟩)))))
  obtain ⟨rfl, rfl⟩ := hf
  show wpAny (model prog w) A (load s.heap.objs.size >>= fun o => match o.data with | .seq xs _ => pure xs.toList | _ => unsupported "internal:collect") Q E { s with heap := bagH s.heap vs }
  refine wpAny_bind (wpAny_load (get?_update_seq h0 _) ?_)
  have e : ((#[] : Array Value) ++ vs.toArray).toList = vs := by simp
  have fin : ∀ us : List Value, us = vs → wpAny (model prog w) A (pure us) Q E { s with heap := bagH s.heap vs } := fun us eu => by
    subst eu
    exact wpAny_pure h
  exact fin _ e
theorem sorted_tupI {t : Addr} {vs : List Value} {ns : List Int} {Q : Value → Shared → Prop} (hI : IntsAre vs ns) (ht : IsTup s.heap t vs.toArray) (hz : vs.length ≤ sizeLine)
    (h : ∀ out : List Value, IntsAre out (out.map SrtO.iv) → (out.map SrtO.iv).Perm ns → (out.map SrtO.iv).Pairwise (· ≤ ·) → Q (.ref (s.heap.objs.size + 1)) { s with heap := sortedAll s.heap vs out.toArray }) : wpAny (model prog w) A (call (.builtin "sorted") [.ref t]) Q E s := by
  refine Calls.call_function_entry kind_sorted plain_sorted entry_sorted (args_sorted1 (.ref t)) ?_
  unfold Builtin.«sorted»
  refine wpAny_bind (m := checkCount "sorted" 1 1 _) (wpAny_pure (wpAny_bind (collect_tup ht hz (wpAny_bind (wpAny_newList ?_ hz)))))
  have hs : (bagH s.heap vs).objs.size = s.heap.objs.size + 1 := by rw [Heap.size_update, size_push']
  have hL : ((bagH s.heap vs).push (seqObj "list" vs.toArray 0)).get? (s.heap.objs.size + 1) = some (seqObj "list" vs.toArray 0) := hs ▸ Heap.get?_push_size _ rfl
  show wpAny _ _ _ _ _ { s with heap := (bagH s.heap vs).push (seqObj "list" vs.toArray 0) }
  rw [hs]
  refine wpAny_bind (wpAny_holding (wpAny_call_entry slot_list_sort ⟨_, hL, rfl⟩ entry_list_sort (SrtO.list_sort_ord SrtO.swo_int hL hz (fun h2 => SrtO.ints_sortable hI h2) fun out h1 h2 => ⟨_, rfl, ?_⟩) (args_list_sort _)))
  obtain ⟨k1, k2, k3⟩ := SrtO.ints_out hI h1 h2
  exact wpAny_pure ⟨_, rfl, h out k1 k2 k3⟩
end
def spSortedT : SpD := fun ds S k _ => match ds with
  | [.tup xs] => ∃ ns : List Int, xs = ns.map D.int ∧ xs.length ≤ sizeLine ∧ ∀ ms : List Int, ms.Perm ns → ms.Pairwise (· ≤ ·) → k (.ref S.length) (S ++ [.lst (ms.map D.int)])
  | _ => False
theorem c_sortedT {X : Cx} {E : XK} : CallR X (.builtin "sorted") (LLs (cy X E) spSortedT) := by
  intro pins s σ H xs us Q I r ⟨ds, al, S, kd, xd, rs, rd, q, up, ux⟩
  unfold spSortedT at q
  split at q
  · obtain ⟨ns, e, hz, q⟩ := q
    subst e
    obtain ⟨v, e, a, vs, e2, h1, r1⟩ := rds1 rd
    subst e e2
    rw [rd_ints r1] at h1
    obtain ⟨its, rv, pl, hz2⟩ := I.tuple h1
    rw [Vals.ref1 r]
    have hi := ints_of_vals rv
    have hlen : its.length = ns.length := by
      have := rv.length
      rw [List.length_map] at this
      omega
    rw [List.length_map] at hz
    refine sorted_tupI hi pl (by omega) fun out k1 k2 k3 => ?_
    obtain ⟨eq0, hq0⟩ := PyProof.Rows.sortedAll_at s.heap its out.toArray
    refine ⟨.ref _, upd H (s.heap.objs.size + 1) (.lst ((out.map SrtO.iv).map V.int)), I.laid (t' := s.toks) (fun _ _ => PyProof.Rows.sortedAll_old) (Nat.le_succ _) ⟨by rw [List.length_map, k2.length_eq]; exact hz, out, eq0, vals_of_ints k1, hq0⟩, rfl, ?_⟩
    exact up_new up rs (I.hok.fresh (Nat.le_succ _)) (ints_rd _) (q _ k2 k3)
  · exact q.elim
end Q
namespace Q
open PySem
open Spec PyProof.Rows L2

/-! ### a tuple of targets, some of them places of lists -/
abbrev QGsp (X : Cx) (E : XK) (tg : List Expr) (t : TGDs) : Prop := PGs X tg (LGs (cy X E) t)
section
variable {X : Cx} {E : XK} {tg : Expr} {es : List Expr} {g : TGD} {gs : TGDs} {pos : Pos}
theorem pgs_imp {t t' : TGs} (h : PGs X es t) (f : ∀ v s H Q, t' v s H Q → t v s H Q) : PGs X es t' := ⟨fun pins s σ H v u Q I r q => h.run pins s σ H v u Q I r (f v σ H Q q)⟩
theorem q_gsnilP : QGsp X E [] gsNil := pgs_imp pgs_nil fun vs s H Q ⟨d, sg, al, S, qd, xd, rs, rl, rd, q, up, ux⟩ => by
  cases d with
  | nil => exact ⟨rd, up sg S al H s (.now rs) rl q⟩
  | cons _ _ => exact q.elim
theorem q_gsconsP (h1 : QGp X E tg g) (h2 : QGsp X E es gs) (hs : (assignEach (tg :: es) X.env).map (·.2) = assign tg X.env :: (assignEach es X.env).map (·.2) := by rfl) : QGsp X E (tg :: es) (gsCons g gs) :=
  pgs_imp (pgs_cons h1 h2 hs) fun vs s H Q ⟨d, sg, al, S, qd, xd, rs, rl, rd, q, up, ux⟩ => by
    cases d with
    | nil => exact q.elim
    | cons d r =>
      obtain ⟨v, u, e, r1, r2⟩ := rd
      exact ⟨v, u, e, d, sg, al, S, _, xd, rs, rl, r1, q, fun sg1 S1 al1 H1 sv1 f1 rl1 q1 => ⟨r, sg1, al1, S1, qd, xd, f1.rs, rl1, f1.rds r2, q1, up.mono f1, ux.mono f1⟩, ux⟩
theorem q_gtpP {k n : Nat} (hc : X.calm = true) (h : QGsp X E es gs) (hn : (assignEach es X.env).length = n := by rfl) (hst : (assignEach es X.env).findIdx? (·.1) = none := by rfl) : QGp X E (.Tuple es k pos) (gTp n gs) :=
  pg_imp (pg_tup hc h hn hst) fun v s H Q ⟨d, sg, al, S, qd, xd, rs, rl, rd, q, up, ux⟩ => by
    cases d <;> try exact q.elim
    case tup ds =>
      obtain ⟨a, vs, e, h1, r1⟩ := rd
      exact ⟨a, vs, e, h1, by rw [RDs.length r1]; exact q.1, ds, sg, al, S, qd, xd, rs, rl, r1, q.2, up, ux⟩
end
end Q
namespace Q
open PySem
open Spec PyProof.Rows L2

/-! ### xs[lo::st] of a list, st above 0 -/
def pickG {α : Type} (xs : List α) (lo : Option Int) (c : Int) : List α :=
  (sliceRange (sliceBounds lo none (some c) xs.length).1 (sliceBounds lo none (some c) xs.length).2.1 (sliceBounds lo none (some c) xs.length).2.2).filterMap (xs[·]?)
theorem vals_pick {xs : List V} {us : List Value} (r : Vals xs us) : ∀ ps : List Nat, Vals (ps.filterMap (xs[·]?)) (ps.filterMap (us[·]?))
  | [] => .nil
  | p :: ps => by
    cases hx : xs[p]? with
    | none =>
      have hu : us[p]? = none := by
        rw [List.getElem?_eq_none_iff] at hx ⊢
        rw [← r.length]
        exact hx
      rw [List.filterMap_cons_none hx, List.filterMap_cons_none hu]
      exact vals_pick r ps
    | some v =>
      obtain ⟨w, hw, rw'⟩ := r.get hx
      rw [List.filterMap_cons_some hx, List.filterMap_cons_some hw]
      exact .cons rw' (vals_pick r ps)
theorem rds_pick {K : PySem.W.Frag} {H : Hp} {al : List Addr} {ds : List D} {vs : List V} (r : RDs K H al ds vs) : ∀ ps : List Nat, RDs K H al (ps.filterMap (ds[·]?)) (ps.filterMap (vs[·]?))
  | [] => rfl
  | p :: ps => by
    cases hx : ds[p]? with
    | none =>
      have hu : vs[p]? = none := by
        rw [List.getElem?_eq_none_iff] at hx ⊢
        rw [RDs.length r]
        exact hx
      rw [List.filterMap_cons_none hx, List.filterMap_cons_none hu]
      exact rds_pick r ps
    | some v =>
      obtain ⟨w, hw, rw'⟩ := RDs.get r hx
      rw [List.filterMap_cons_some hx, List.filterMap_cons_some hw]
      exact ⟨w, _, rfl, rw', rds_pick r ps⟩
theorem pickG_len {α : Type} (xs : List α) (lo : Option Int) (c : Int) : (pickG xs lo c).length ≤ (sliceRange (sliceBounds lo none (some c) xs.length).1 (sliceBounds lo none (some c) xs.length).2.1 (sliceBounds lo none (some c) xs.length).2.2).length := List.length_filterMap_le ..
def tStp (K : PySem.W.Frag) (te : TE) (tl ts : TO) : TE := fun σ H Q => te σ H fun x H1 => tl σ H1 fun lo H2 => ts σ H2 fun u H3 => ∃ a xs c, x = .ref a ∧ u = some c ∧ 0 < c ∧ SqL K H3 a xs ∧ ∀ p, H3 p = none → Q (.ref p) (upd H3 p (.lst (pickG xs lo c)))
theorem pe_stp {X : Cx} {e : Expr} {te : TE} {lo : Option Expr} {tl : TO} {st : Expr} {ts : TO} {p3 pos : Pos} (he : PE X e te) (hl : PO X lo tl) (hs : PO X (some st) ts) : PE X (.Subscript e (.Slice lo none (some st) p3) pos) (tStp X.K te tl ts) := by
  refine ⟨fun pins s σ H Q I h => ?_⟩
  refine Subscript_ (thn (he.run pins s σ H _ I h) fun v s1 ⟨x, H1, I1, r1, q1⟩ => ?_)
  refine wpAny_Slice (thn (hl.run pins s1 σ H1 _ I1 q1) fun vl s2 ⟨l, H2, I2, pl, q2⟩ => ?_)
  refine thn (po_none.run pins s2 σ H2 (fun o H3 => o = none ∧ H3 = H2) I2 ⟨rfl, rfl⟩) fun vu s3 ⟨u, H3, I3, pu, eu, e3⟩ => ?_
  subst eu e3
  refine thn (hs.run pins s3 σ H3 _ I3 q2) fun vs s4 ⟨o, H4, I4, ps, a, xs, c, ex, eo, hc, hx, q⟩ => ?_
  subst eo ex
  cases r1
  have I5 : Inv X pins σ H4 { s4 with heap := s4.heap.push { cls := .type "slice", data := .fields #[vl, vu, vs] } } := I4.kept (t' := s4.toks) fun b ob q => Heap.get?_push_of_some _ q
  obtain ⟨its, r, ht, hz⟩ := I5.list hx
  have hlen := r.length
  show wpAny (model X.prog X.w) X.A (subscriptTail e (.Slice lo none (some st) p3) (.ref a) (.ref s4.heap.objs.size)) (EP X pins σ Q) X.xe { s4 with heap := s4.heap.push { cls := .type "slice", data := .fields #[vl, vu, vs] } }
  refine tail_any (ops := [.ref a, .ref s4.heap.objs.size]) ht.isList.typeIs (PySem.slot_list_getitem.lookup) ?_ (by with_unfolding_all rfl)
  refine wpAny_getItem_list_slice ht.isList (Heap.IsSliceOf.new _ vl vu vs) pl pu ps (by intro z; cases z; omega) ?_ (by rw [List.size_toArray]; omega)
  have ep : slicePick its.toArray l none (some c) = (pickG its l c).toArray := by
    unfold slicePick pickG
    rw [List.size_toArray]
    simp
  rw [ep]
  have hle : (pickG xs l c).length ≤ sizeLine := by
    have h1 := slicePick_size_le its.toArray l none (some c)
    rw [ep, List.size_toArray, List.size_toArray] at h1
    have h2 : (pickG xs l c).length = (pickG its l c).length := by
      have := (vals_pick r (sliceRange (sliceBounds l none (some c) xs.length).1 (sliceBounds l none (some c) xs.length).2.1 (sliceBounds l none (some c) xs.length).2.2)).length
      unfold pickG
      rw [this, hlen]
    omega
  have rp : Vals (pickG xs l c) (pickG its l c) := by
    have := vals_pick r (sliceRange (sliceBounds l none (some c) xs.length).1 (sliceBounds l none (some c) xs.length).2.1 (sliceBounds l none (some c) xs.length).2.2)
    unfold pickG
    rw [← hlen]
    exact this
  refine ⟨.ref _, _, I5.laid (t' := s4.toks) (o := .lst (pickG xs l c)) (fun b ob q => Heap.get?_push_of_some _ q) (Nat.le_refl _) ?_, rfl, q _ (I5.hok.fresh (Nat.le_refl _))⟩
  exact ⟨hle, _, 0, rp, Heap.get?_push_size _ rfl⟩
def kSt2 (k : KD) (d : D) (lo : Option Int) : Option Int → Sto → Prop := fun st S => match d, st with
  | .ref n, some c => 0 < c ∧ ∃ xs, isL S n xs ∧ k (.ref S.length) (S ++ [.lst (pickG xs lo c)])
  | _, _ => False
def kSt1 (ts : TOD) (sg : Sl) (k : KD) (x : XD) (d : D) : Option Int → Sto → Prop := fun lo S => ts sg S (kSt2 k d lo) x
def kSt0 (tl ts : TOD) (sg : Sl) (k : KD) (x : XD) : KD := fun d S => tl sg S (kSt1 ts sg k x d) x
def dStp (te : TED) (tl ts : TOD) : TED := fun sg S k x => te sg S (kSt0 tl ts sg k x) x
theorem q_stp {X : Cx} {E : XK} {e : Expr} {te : TED} {lo : Option Expr} {tl : TOD} {st : Expr} {ts : TOD} {p3 pos : Pos} (he : QE X E e te) (hl : QO X E lo tl) (hs : QO X E (some st) ts) : QE X E (.Subscript e (.Slice lo none (some st) p3) pos) (dStp te tl ts) :=
  pe_imp (pe_stp he hl hs) fun s H Q ⟨sg, al, S, kd, xd, rs, rl, q, up, ux⟩ => ⟨sg, al, S, kSt0 tl ts sg kd xd, xd, rs, rl, q,
    fun d1 S1 al1 H1 v1 f1 r1 q1 => ⟨sg, al1, S1, kSt1 ts sg kd xd d1, xd, f1.rs, f1.rsl rl, q1, fun l S2 al2 H2 f2 q2 =>
      ⟨sg, al2, S2, kSt2 kd d1 l, xd, f2.rs, (f1.trans f2).rsl rl, q2, fun u S3 al3 H3 f3 q3 => by
        have rd := (f2.trans f3).rd r1
        cases d1 <;> cases u <;> try exact q3.elim
        case ref.some n c =>
          obtain ⟨hc, xs, hx, q4⟩ := q3
          obtain ⟨a, vs, e1, _, h1, rr⟩ := isL_at f3.rs hx rd
          refine ⟨a, vs, c, e1, rfl, hc, h1, fun p hp => up_new (up.mono ((f1.trans f2).trans f3)) f3.rs hp ?_ q4⟩
          unfold pickG
          rw [← RDs.length rr]
          exact rds_pick rr _, ux.mono (f1.trans f2)⟩, ux.mono f1⟩, ux⟩
end Q
namespace Q
open PySem
open Spec PyProof.Rows L2

/-! ### sum of a list of truths; y in d of a dict -/
theorem preSum_bls (bs : List Bool) : ∀ n, n ≤ bs.length → preSum (fun i => if bs.getD i false then 1 else 0) n = ((bs.take n).countP id : Nat)
  | 0, _ => by simp [preSum]
  | n + 1, h => by
    have hn : n < bs.length := h
    rw [preSum, preSum_bls bs n (by omega), List.take_add_one, List.countP_append, List.getElem?_eq_getElem hn, List.getD_eq_getElem?_getD, List.getElem?_eq_getElem hn]
    cases bs[n] <;> simp
theorem cr_sumB {X : Cx} (hc : X.calm = true) : CallR X (.builtin "sum") (fun vs H Q => ∃ (a : Addr) (bs : List Bool), vs = [V.ref a] ∧ SqL X.K H a (bs.map V.bl) ∧ Q (.int (bs.countP id : Nat)) H) := by
  intro pins s σ H vs us Q I r h
  obtain ⟨a, bs, rfl, hs, q⟩ := h
  obtain ⟨its, rv, hl, _⟩ := I.list hs
  rw [Vals.ref1 r]
  have hb := rv.bls
  refine call_sum_walkAnyB (iter_any hl.isList fun s₂ e2 st hne => ?_)
  subst e2
  have hlt : a < s.heap.objs.size := by obtain ⟨_, e, _⟩ := hl.isList; exact Heap.lt_size e
  refine ⟨_, _, _, _, _, _, _, fun i => if bs.getD i false then 1 else 0, rfl, (Walks.list (A := X.A.in1) (I.ok.hd hc) _ a hne its.toArray).toS, st, fun b hbm => ?_, fun i v hv => ?_, fun s' t' hm => ?_⟩
  · show b < (s.heap.push _).objs.size
    rw [Heap.size_push]
    rcases List.mem_cons.mp hbm with rfl | hbm
    · exact Nat.lt_succ_self _
    · rcases List.mem_cons.mp hbm with rfl | hbm
      · exact Nat.lt_succ_of_lt hlt
      · cases hbm
  · have hv' : its[i]? = some v := by simpa using hv
    rw [hb, List.getElem?_map] at hv'
    obtain ⟨b, hb2, rfl⟩ := Option.map_eq_some_iff.mp hv'
    have hg : bs.getD i false = b := by rw [List.getD_eq_getElem?_getD, hb2] <;> rfl
    exact .inr ⟨b, rfl, by show (if bs.getD i false = true then (1 : Int) else 0) = _; rw [hg]⟩
  · have hsz : its.toArray.size = bs.length := by rw [List.size_toArray, hb, List.length_map]
    rw [hsz, preSum_bls bs _ (Nat.le_refl _), List.take_length]
    obtain ⟨h1, h2, h3, h4, h5⟩ := hm
    obtain ⟨hp, tk, gs, dr, os⟩ := s'
    try simp only at h1 h2 h3 h4 h5
    subst h2 h3 h4
    refine ⟨.int _, H, I.kept fun b o eo => h1 b o (fun hmem => ?_) (Heap.get?_push_of_some _ eo), ⟨_, rfl⟩, q⟩
    rcases List.mem_cons.mp hmem with e1 | hmem
    · exact absurd (e1 ▸ Heap.lt_size eo) (Nat.lt_irrefl _)
    · cases hmem
def spSumB : SpD := fun ds S k _ => match ds with
  | [.ref n] => ∃ bs : List Bool, isL S n (bs.map D.bl) ∧ k (.int (bs.countP id : Nat)) S
  | _ => False
def rDin : R2D := fun d e S k _ => match e with
  | .ref n => ∃ kvs key, S[n]? = some (.dic kvs) ∧ d = keyD key ∧ k (.bl (valD kvs key).isSome) S
  | _ => False
section
variable {X : Cx} {E : XK}
theorem c_sumB (hc : X.calm = true) : CallR X (.builtin "sum") (LLs (cy X E) spSumB) := by
  intro pins s σ H xs us Q I r ⟨ds, al, S, kd, xd, rs, rd, q, up, ux⟩
  unfold spSumB at q
  split at q
  · obtain ⟨bs, hl, q⟩ := q
    obtain ⟨v, e, rv⟩ := rds1 rd
    obtain ⟨a, vs, e2, _, h1, r1⟩ := isL_at rs hl rv
    have e3 := rd_bls r1
    subst e e2 e3
    exact cr_sumB hc pins s σ H _ us Q I r ⟨a, bs, rfl, h1, up_at up rs (d := .int _) rfl q⟩
  · exact q.elim
theorem o_dIn (hu : X.A.units + 64 < cLine) : OpR X (compareOp .In) (LL2 (cy X E) rDin) := by
  intro pins s σ H x y v u Q I rx ry ⟨d, e, al, S, kd, xd, rs, rd, re, q, up, ux⟩
  unfold rDin at q
  split at q
  · obtain ⟨kvs, key, h1, e2, q⟩ := q
    subst e2
    obtain ⟨a, vs, ea, _, eH, rk⟩ := dic_at rs h1 re
    subst ea
    rw [key_rd rd] at rx
    cases ry
    have rv := rks_val (k := key) rk
    refine d_in (o := valV vs key) (Nat.lt_of_le_of_lt (Nat.add_le_add_left (by decide) _) hu) I (DGet.k eH) rx fun s' I' => ⟨.bl (valV vs key).isSome, H, I', rfl, ?_⟩
    have e3 : (valV vs key).isSome = (valD kvs key).isSome := by
      cases hv : valD kvs key with
      | none => rw [rv.2 hv]; rfl
      | some d =>
        obtain ⟨w, hw, _⟩ := rv.1 d hv
        rw [hw]
        rfl
    rw [e3]
    exact up_at up rs (d := .bl _) rfl q
  · exact q.elim
end
end Q
namespace Q
open PySem
open Spec PyProof.Rows L2

/-! ### bit_length; y not in d; sorted and min of lists of data -/
def kBits (k : KD) : KD := fun d S => match d with
  | .int i => k (.int (Builtin.Int.intBits i : Nat)) S
  | _ => False
def dBits (te : TED) : TED := fun sg S k x => te sg S (kBits k) x
theorem q_bits {X : Cx} {E : XK} {o : Expr} {to : TED} {apos pos : Pos} (ho : QE X E o to) (hbase : attributeBase o "bit_length" X.env (eval o X.env) = eval o X.env := by rfl) (hline : (apos.endLine == pos.line) = true := by rfl) : QE X E (.Call (.Attribute o "bit_length" apos) [] [] pos) (dBits to) :=
  pe_imp (pe_bits ho hbase hline) fun s H Q ⟨sg, al, S, kd, xd, rs, rl, q, up, ux⟩ => ⟨sg, al, S, kBits kd, xd, rs, rl, q, fun d S1 al1 H1 v f1 r1 q1 => by
    unfold kBits at q1
    split at q1
    · rename_i i
      exact ⟨i, r1, up (.int _) S1 al1 H1 _ f1 rfl q1⟩
    · exact q1.elim, ux⟩
def rDnin : R2D := fun d e S k _ => match e with
  | .ref n => ∃ kvs key, S[n]? = some (.dic kvs) ∧ d = keyD key ∧ k (.bl (!(valD kvs key).isSome)) S
  | _ => False
section
variable {X : Cx} {E : XK}
theorem o_dNin (hu : X.A.units + 64 < cLine) : OpR X (compareOp .NotIn) (LL2 (cy X E) rDnin) := by
  intro pins s σ H x y v u Q I rx ry ⟨d, e, al, S, kd, xd, rs, rd, re, q, up, ux⟩
  unfold rDnin at q
  split at q
  · obtain ⟨kvs, key, h1, e2, q⟩ := q
    subst e2
    obtain ⟨a, vs, ea, _, eH, rk⟩ := dic_at rs h1 re
    subst ea
    rw [key_rd rd] at rx
    cases ry
    have rv := rks_val (k := key) rk
    refine d_notIn (o := valV vs key) (Nat.lt_of_le_of_lt (Nat.add_le_add_left (by decide) _) hu) I (DGet.k eH) rx fun s' I' => ⟨.bl (!(valV vs key).isSome), H, I', rfl, ?_⟩
    have e3 : (valV vs key).isSome = (valD kvs key).isSome := by
      cases hv : valD kvs key with
      | none => rw [rv.2 hv]; rfl
      | some d =>
        obtain ⟨w, hw, _⟩ := rv.1 d hv
        rw [hw]
        rfl
    rw [e3]
    exact up_at up rs (d := .bl _) rfl q
  · exact q.elim
theorem each_vals {xs : List V} {us : List Value} (r : Vals xs us) : ∀ {ps : List PyData}, ps.length = xs.length → PySem.W.EachIs (fun (u : Value) (b : V × PyData) => RelV b.1 u) us (xs.zip ps) := by
  induction r with
  | nil => intro ps _; exact .nil
  | cons h t ih =>
    intro ps hl
    cases ps with
    | nil => cases hl
    | cons p ps => exact .cons h (ih (by simpa using hl))
theorem each_zip {h : Heap} {xs : List V} : ∀ {us : List Value} {ps : List PyData} {as : List Addr}, ReadsAll h us ps as → xs.length = ps.length → PySem.W.EachIs (fun (u : Value) (b : V × PyData) => ∃ as, Reads h u b.2 as) us (xs.zip ps) := by
  induction xs with
  | nil =>
    intro us ps as r hl
    cases ps with
    | cons p ps => cases hl
    | nil => cases r; exact .nil
  | cons x xs ih =>
    intro us ps as r hl
    cases ps with
    | nil => cases hl
    | cons p ps =>
      cases r with
      | cons h1 h2 => exact .cons ⟨_, h1⟩ (ih h2 (by simpa using hl))
theorem vals_each {bs : List (V × PyData)} : ∀ {us : List Value}, PySem.W.EachIs (fun (u : Value) (b : V × PyData) => RelV b.1 u) us bs → Vals (bs.map (·.1)) us
  | _, .nil => .nil
  | _, .cons h t => .cons h (vals_each t)
theorem dpall_len {K : PySem.W.Frag} {H : Hp} : ∀ {xs : List V} {ps : List PyData}, DpAll K H xs ps → ps.length = xs.length
  | _, _, .nil => rfl
  | _, _, .cons _ t => by rw [List.length_cons, List.length_cons, dpall_len t]
theorem cr_sortedG (hu : X.A.units + 64 < cLine) : CallR X (.builtin "sorted") (fun vs H Q => ∃ (a : Addr) (xs : List V) (ps : List PyData), vs = [V.ref a] ∧ SqL X.K H a xs ∧ DpAll X.K H xs ps ∧ PySem.W.AllAlike ps ∧ PySem.W.Sortable ps ∧ (∀ p ∈ ps, p.depth ≤ 60) ∧
    ∀ p : Addr, H p = none → Q (.ref p) (upd H p (.lst (((xs.zip ps).mergeSort (PySem.W.dataLe false (·.2))).map (·.1))))) := by
  intro pins s σ H vs us Q I r h
  obtain ⟨a, xs, ps, rfl, hs, hp, hal, hso, hdp, q⟩ := h
  obtain ⟨its, rv, hl, hz⟩ := I.list hs
  rw [Vals.ref1 r]
  have hlen := dpall_len hp
  obtain ⟨as, hr⟩ := Dp.readsAll I ps xs its hp rv
  have hmap : (xs.zip ps).map (·.2) = ps := List.map_snd_zip (by omega)
  have hbl : (xs.zip ps).length = xs.length := by rw [List.length_zip, hlen, Nat.min_self]
  refine PySem.W.sorted_data (enc := fun b : V × PyData => b.2) (bs := xs.zip ps) (R := fun (u : Value) (b : V × PyData) => RelV b.1 u) hl.isList (each_vals rv hlen) (each_zip hr hlen.symm) (by rw [hmap]; exact hal) (by rw [hmap]; exact hso) (by rw [hbl]; exact hz) (fun b hb => ?_) fun out ho eo => ?_
  · have := hdp b.2 (by rw [← hmap]; exact List.mem_map.mpr ⟨b, hb, rfl⟩)
    omega
  · obtain ⟨ep, he'⟩ := PyProof.Rows.sortedAll_at s.heap its out.toArray
    refine ⟨.ref _, upd H (s.heap.objs.size + 1) (.lst _), I.laid (t' := s.toks) (fun _ _ => PyProof.Rows.sortedAll_old) (Nat.le_succ _) ⟨?_, out, ep, vals_each eo, he'⟩, rfl, q _ (I.hok.fresh (Nat.le_succ _))⟩
    rw [List.length_map, List.length_mergeSort, hbl]
    exact hz
theorem reads_at {h : Heap} : ∀ {vs : List Value} {ds : List PyData} {as : List Addr}, ReadsAll h vs ds as → ∀ {i : Nat} {v : Value}, vs[i]? = some v → ∃ d as', ds[i]? = some d ∧ Reads h v d as'
  | _, _, _, .nil, i, v, e => by simp at e
  | _, _, _, .cons r t, 0, v, e => by
    cases e
    exact ⟨_, _, rfl, r⟩
  | _, _, _, .cons r t, i + 1, v, e => reads_at t (i := i) e
theorem cr_minG (hc : X.calm = true) (hu : X.A.units + 64 < cLine) : CallR X (.builtin "min") (fun vs H Q => ∃ (a : Addr) (xs : List V) (p0 : PyData) (ps : List PyData), vs = [V.ref a] ∧ SqL X.K H a xs ∧ DpAll X.K H xs (p0 :: ps) ∧ PySem.W.AlikeAll (p0 :: ps) ∧ PyData.depthAll (p0 :: ps) ≤ 60 ∧
    ∀ (i : Nat) (v : V), xs[i]? = some v → (p0 :: ps)[i]? = some (PySem.W.minD p0 ps) → Q v H) := by
  intro pins s σ H vs us Q I r h
  obtain ⟨a, xs, p0, ps, rfl, hs, hp, hal, hdp, q⟩ := h
  obtain ⟨its, rv, hl, hz⟩ := I.list hs
  rw [Vals.ref1 r]
  obtain ⟨as, hr⟩ := Dp.readsAll I (p0 :: ps) xs its hp rv
  refine PySem.W.min_list_data (I.ok.hd hc) hl.isList hr hal (by omega) fun i v h' tk bs hv hm hk => ?_
  have hv' : its[i]? = some v := by simpa using hv
  have hi : i < xs.length := by
    rw [rv.length]
    exact (List.getElem?_eq_some_iff.mp hv').1
  obtain ⟨w, hw, rw'⟩ := rv.get (List.getElem?_eq_getElem hi)
  rw [hv'] at hw
  cases hw
  obtain ⟨d, as', hd, hrd⟩ := reads_at hr hv'
  have hdm := (PyProof.Rows.reads_det (fun b o e _ => hk b o e) hrd hm).1
  exact ⟨xs[i], H, I.kept hk, rw', q i _ (List.getElem?_eq_getElem hi) (by rw [hd, hdm])⟩
def spSortD : SpD := fun ds S k _ => match ds with
  | [.ref n] => ∃ xs ps, isL S n xs ∧ DPys S xs ps ∧ PySem.W.AllAlike ps ∧ PySem.W.Sortable ps ∧ (∀ p ∈ ps, p.depth ≤ 60) ∧ k (.ref S.length) (S ++ [.lst (((xs.zip ps).mergeSort (PySem.W.dataLe false (·.2))).map (·.1))])
  | _ => False
def spMinD : SpD := fun ds S k _ => match ds with
  | [.ref n] => ∃ xs p0 ps, isL S n xs ∧ DPys S xs (p0 :: ps) ∧ PySem.W.AlikeAll (p0 :: ps) ∧ PyData.depthAll (p0 :: ps) ≤ 60 ∧ ∀ (i : Nat) (d : D), xs[i]? = some d → (p0 :: ps)[i]? = some (PySem.W.minD p0 ps) → k d S
  | _ => False
theorem rds_len {K : PySem.W.Frag} {H : Hp} {al : List Addr} : ∀ {ds : List D} {vs : List V}, RDs K H al ds vs → ∀ ps : List PyData, ps.length = ds.length →
    ∃ T : List (D × V × PyData), T.map (fun t => (t.1, t.2.2)) = ds.zip ps ∧ T.map (fun t => (t.2.1, t.2.2)) = vs.zip ps ∧ ∀ t ∈ T, RD K H al t.1 t.2.1
  | [], _, h, ps, _ => by
    rw [show _ = [] from h]
    exact ⟨[], by simp, by simp, fun _ h => (nomatch h)⟩
  | d :: ds, _, ⟨v, r, e, h1, h2⟩, ps, hl => by
    subst e
    cases ps with
    | nil => cases hl
    | cons p ps =>
      obtain ⟨T, t1, t2, t3⟩ := rds_len h2 ps (by simpa using hl)
      refine ⟨(d, v, p) :: T, by rw [List.map_cons, t1]; rfl, by rw [List.map_cons, t2]; rfl, fun t ht => ?_⟩
      rcases List.mem_cons.mp ht with rfl | ht
      · exact h1
      · exact t3 t ht
theorem rds_trip {K : PySem.W.Frag} {H : Hp} {al : List Addr} : ∀ T : List (D × V × PyData), (∀ t ∈ T, RD K H al t.1 t.2.1) → RDs K H al (T.map (·.1)) (T.map (·.2.1))
  | [], _ => rfl
  | t :: T, h => ⟨t.2.1, _, rfl, h t List.mem_cons_self, rds_trip T fun u hu => h u (List.mem_cons_of_mem _ hu)⟩
theorem dpys_len {S : Sto} : ∀ {xs : List D} {ps : List PyData}, DPys S xs ps → ps.length = xs.length
  | _, _, .nil => rfl
  | _, _, .cons _ t => by rw [List.length_cons, List.length_cons, dpys_len t]
theorem c_sortedG (hu : X.A.units + 64 < cLine) : CallR X (.builtin "sorted") (LLs (cy X E) spSortD) := by
  intro pins s σ H xs us Q I r ⟨ds, al, S, kd, xd, rs, rd, q, up, ux⟩
  unfold spSortD at q
  split at q
  · obtain ⟨bs, ps, hl, hp, hal, hso, hdp, q⟩ := q
    obtain ⟨v, e, rv⟩ := rds1 rd
    obtain ⟨a, vs, e2, _, h1, r1⟩ := isL_at rs hl rv
    subst e e2
    obtain ⟨T, t1, t2, t3⟩ := rds_len r1 ps (dpys_len hp)
    refine cr_sortedG hu pins s σ H _ us Q I r ⟨a, vs, ps, rfl, h1, DPys.dp rs ps bs vs hp r1, hal, hso, hdp, fun p hn => ?_⟩
    have e1 : ((bs.zip ps).mergeSort (PySem.W.dataLe false (·.2))).map (·.1) = (T.mergeSort (PySem.W.dataLe false fun t : D × V × PyData => t.2.2)).map (·.1) := by
      rw [← t1, ← List.map_mergeSort (r := PySem.W.dataLe false fun t : D × V × PyData => t.2.2) (f := fun t : D × V × PyData => (t.1, t.2.2)) (fun a _ b _ => rfl), List.map_map]
      rfl
    have e2 : ((vs.zip ps).mergeSort (PySem.W.dataLe false (·.2))).map (·.1) = (T.mergeSort (PySem.W.dataLe false fun t : D × V × PyData => t.2.2)).map (·.2.1) := by
      rw [← t2, ← List.map_mergeSort (r := PySem.W.dataLe false fun t : D × V × PyData => t.2.2) (f := fun t : D × V × PyData => (t.2.1, t.2.2)) (fun a _ b _ => rfl), List.map_map]
      rfl
    rw [e1] at q
    rw [e2]
    exact up_new up rs hn (rds_trip _ fun t ht => t3 t (List.mem_mergeSort.mp ht)) q
  · exact q.elim
theorem c_minG (hc : X.calm = true) (hu : X.A.units + 64 < cLine) : CallR X (.builtin "min") (LLs (cy X E) spMinD) := by
  intro pins s σ H xs us Q I r ⟨ds, al, S, kd, xd, rs, rd, q, up, ux⟩
  unfold spMinD at q
  split at q
  · obtain ⟨bs, p0, ps, hl, hp, hal, hdp, q⟩ := q
    obtain ⟨v, e, rv⟩ := rds1 rd
    obtain ⟨a, vs, e2, _, h1, r1⟩ := isL_at rs hl rv
    subst e e2
    refine cr_minG hc hu pins s σ H _ us Q I r ⟨a, vs, p0, ps, rfl, h1, DPys.dp rs (p0 :: ps) bs vs hp r1, hal, hdp, fun i w hw hm => ?_⟩
    have hi : i < bs.length := by
      have h3 := RDs.length r1
      have h4 := (List.getElem?_eq_some_iff.mp hw).1
      omega
    obtain ⟨w2, hw2, rw'⟩ := RDs.get r1 (List.getElem?_eq_getElem hi)
    rw [hw] at hw2
    cases hw2
    exact up_at up rs rw' (q i _ (List.getElem?_eq_getElem hi) hm)
  · exact q.elim
theorem rks_len2 {K : PySem.W.Frag} {H : Hp} {al : List Addr} : ∀ {ds : List (Key × D)} {vs : List (Key × V)}, RKs K H al ds vs → vs.length = ds.length
  | [], _, h => by
    rw [show _ = [] from h]
    rfl
  | p :: ds, _, ⟨w, r, e, h1, h2⟩ => by
    subst e
    rw [List.length_cons, List.length_cons, rks_len2 h2]
def spLenD : SpD := fun ds S k _ => match ds with
  | [.ref n] => ∃ kvs, S[n]? = some (.dic kvs) ∧ k (.int kvs.length) S
  | _ => False
theorem c_lenD : CallR X (.builtin "len") (LLs (cy X E) spLenD) := by
  intro pins s σ H xs us Q I r ⟨ds, al, S, kd, xd, rs, rd, q, up, ux⟩
  unfold spLenD at q
  split at q
  · obtain ⟨kvs, hk, q⟩ := q
    obtain ⟨v, e, rv⟩ := rds1 rd
    obtain ⟨a, vs, e2, _, eH, rk⟩ := dic_at rs hk rv
    subst e e2
    rw [Vals.ref1 r]
    refine d_len I (.inl eH) fun t s' I' => ⟨.int _, H, I', ⟨t, rfl⟩, ?_⟩
    rw [rks_len2 rk]
    exact up_at up rs (d := .int _) rfl q
  · exact q.elim
end
end Q
namespace Q
open PySem
open Spec PyProof.Rows L2

/-! ### a tuple some times over -/
theorem tuple_mulOne (l : Addr) (items : Array Value) (n : Nat) (dd : Option Addr) (sl : Array (Option Value)) (u : Tok) :
    Meets (Builtin.«tuple.__mul__» ⟨[.ref l, .int 1 u], []⟩) (fun _ R s => s.heap.get? l = some { cls := .type "tuple", dict := dd, data := .seq items n, slots := sl } ∧ R (.ok (.ret (Value.ref l))) s) :=
  .of_wp fun prog w A R s h => by
    obtain ⟨hp, g, d, tk, os⟩ := s
    obtain ⟨hl, h⟩ := h
    have f1 := AutoSeq1.idx_int
    have c0 : (decide ((1 : Int) < -(2 ^ 63)) || decide ((1 : Int) ≥ 2 ^ 63)) = false := by decide
    have c1 : (items.isEmpty || (1 : Int) == 1) = true := by cases items.isEmpty <;> rfl
    wp_walk using wpAny_loadPart' hl
    repeat (first
      | (refine wpAny_ite_false (decide_eq_false (by rw [c0]; exact Bool.false_ne_true)) ?_; wp_walk using wpAny_loadPart' hl)
      | (refine wpAny_ite_true (decide_eq_true (by rw [c1])) ?_; wp_walk using wpAny_loadPart' hl))
    exact ⟨_, rfl, h⟩
section
variable {X : Cx} {E : XK}
theorem op_repT1 : OpR X (binaryOp .Mult) (fun x y H Q => ∃ l xs, x = .ref l ∧ y = .int 1 ∧ SqT X.K H l xs ∧ Q (.ref l) H) := by
  intro pins s σ H x y v u Q I rx ry h
  obtain ⟨l, xs, rfl, rfl, hT, q⟩ := h
  cases rx
  obtain ⟨t, rfl⟩ := ry
  obtain ⟨its, r, ⟨⟨cls, dd, data, sl⟩, ho, hc, n, hd⟩, hs⟩ := I.tuple hT
  simp only at hc hd
  subst hc hd
  refine wpAny_binaryOp_repeat_ref (T := "tuple") (U := "int") (by decide) ⟨_, ho, rfl⟩ (fun s' => typeIs_int s' 1 t) noFill_tuple_mul F.fills_int_mul F.slot_int_rmul repeat_tuple F.slot_int_index.lookup
    (call_meets F.slot_int_rmul (typeIs_int s 1 t) F.entry_int_rmul (F.args_int_rmul_2 _ _) (int_rmul_tuple 1 t l its.toArray n dd sl)
      ⟨ho, rfl, ⟨_, ho, rfl⟩, call_meets F.slot_tuple_mul ⟨_, ho, rfl⟩ F.entry_tuple_mul (F.args_tuple_mul_2 _ _) (tuple_mulOne l its.toArray n dd sl t) ⟨ho, ?_⟩⟩)
  exact ⟨.ref l, H, I, rfl, q⟩
def rMulT : R2D := fun d e S k _ => match d, e with
  | .tup xs, .int j => xs ≠ [] ∧ 1 ≤ j ∧ j ≤ 1000 ∧ xs.length ≤ 1000 ∧ k (.tup (List.replicate j.toNat xs).flatten) S
  | _, _ => False
theorem rds_ne {K : PySem.W.Frag} {H : Hp} {al : List Addr} {ds : List D} {vs : List V} (h : RDs K H al ds vs) (hn : ds ≠ []) : vs ≠ [] := fun e => by
  have := RDs.length h
  rw [e] at this
  cases ds with
  | nil => exact hn rfl
  | cons a b => cases this
theorem o_mulT : OpR X (binaryOp .Mult) (LL2 (cy X E) rMulT) := by
  intro pins s σ H x y v u Q I rx ry ⟨d, e, al, S, kd, xd, rs, rd, re, q, up, ux⟩
  unfold rMulT at q
  split at q
  · next xs j =>
    obtain ⟨hne, h1, h2, hl, q⟩ := q
    have re : y = .int j := re
    obtain ⟨a, vs, ex, h3, r1⟩ := rd
    by_cases hj : j = 1
    · subst hj
      subst re
      refine op_repT1 pins s σ H x _ v u Q I rx ry ⟨a, vs, ex, rfl, h3, ?_⟩
      subst ex
      refine up_at up rs (d := .tup xs) ⟨a, vs, rfl, h3, r1⟩ ?_
      simpa using q
    · refine op_repT pins s σ H x y v u Q I rx ry ⟨a, j, vs, ex, re, h3, rds_ne r1 hne, by omega, h2, by rw [RDs.length r1]; exact hl, fun p hp => up_tup up rs hp (rds_rep r1 _) q⟩
  · exact q.elim
end
end Q
namespace Q
open PySem
open Spec PyProof.Rows L2

/-! ### a value among those of a list, of any depth -/
def rInP : R2D := fun d e S k _ => match e with
  | .ref n => ∃ p xs ps, isL S n xs ∧ DPy S d p ∧ DPys S xs ps ∧ SeqAt.shaped p = true ∧ SeqAt.shaped (.list ps) = true ∧ p.depth ≤ 60 ∧ k (.bl (ps.any fun z => PyData.eqv z p)) S
  | _ => False
section
variable {X : Cx} {E : XK}
theorem o_inP (hu : X.A.units + 64 < cLine) : OpR X (compareOp .In) (LL2 (cy X E) rInP) := by
  intro pins s σ H x y v u Q I rx ry ⟨d, e, al, S, kd, xd, rs, rd, re, q, up, ux⟩
  unfold rInP at q
  split at q
  · next n =>
    obtain ⟨p, xs, ps, hl, hp, hps, s1, s2, hdp, q⟩ := q
    obtain ⟨a, vs, e2, _, h1, r1⟩ := isL_at rs hl re
    subst e2
    obtain ⟨as, r1'⟩ := Dp.reads I p x v (DPy.dp rs p d x hp rd) rx
    obtain ⟨bs, r2'⟩ := Dp.reads I (.list ps) (.ref a) u (.lst h1 (DPys.dp rs ps xs vs hps r1)) ry
    refine SeqAt.in_list_reads r2' r1' (SeqAt.canLay_of_shaped s2) (SeqAt.canLay_of_shaped s1) ?_ ⟨.bl _, H, I, rfl, up_at up rs (d := .bl _) rfl q⟩
    have := Nat.min_le_right (PyData.depthAll ps) p.depth
    omega
  · exact q.elim
end
end Q
namespace Q
open PySem
open Spec PyProof.Rows L2

/-! ### a list unpacked -/
def gUl (n : Nat) (u : TGDs) : TGD := fun d sg S q x => match d with
  | .ref m => ∃ ds, isL S m ds ∧ ds.length = n ∧ u ds sg S q x
  | _ => False
section
variable {X : Cx} {E : XK} {es : List Expr} {gs : TGDs} {pos : Pos}
theorem q_gulP {k n : Nat} (hc : X.calm = true) (h : QGsp X E es gs) (hn : (assignEach es X.env).length = n := by rfl) (hst : (assignEach es X.env).findIdx? (·.1) = none := by rfl) : QGp X E (.Tuple es k pos) (gUl n gs) :=
  pg_imp (pg_unl hc h hn hst) fun v s H Q ⟨d, sg, al, S, qd, xd, rs, rl, rd, q, up, ux⟩ => by
    unfold gUl at q
    split at q
    · obtain ⟨ds, hl, hlen, q⟩ := q
      obtain ⟨a, vs, e, _, h1, r1⟩ := isL_at rs hl rd
      exact ⟨a, vs, e, h1, by rw [RDs.length r1]; exact hlen, ds, sg, al, S, qd, xd, rs, rl, r1, q, up, ux⟩
    · exact q.elim
end
end Q
namespace Q
open PySem
open Spec PyProof.Rows L2

/-! ### exceptions: what the head says of their classes -/
theorem oexB_ok {K : PySem.W.Frag} {C : Addr} (q : oexB K C = true) : ∃ nm qn N bs bm sn sub ab col dd k0 k1 k2 k3 k5, K.lookup C = some (excClassObj nm qn C N bs bm true sn sub ab col dd k0 k1 k2 k3 k5 "ValueError.__new__") ∧ PySem.HandSPX.refsVE bm = true := by
  unfold oexB at q
  split at q
  · rename_i dd cd sl ho
    split at q
    · rename_i C1 bm j0 j1 j2 j3 n j5 hm hs
      obtain ⟨q1, q⟩ := Bool.and_eq_true_iff.mp q
      obtain ⟨q2, q⟩ := Bool.and_eq_true_iff.mp q
      obtain ⟨q3, q⟩ := Bool.and_eq_true_iff.mp q
      obtain ⟨q4, q5⟩ := Bool.and_eq_true_iff.mp q
      have q1 := eq_of_beq q1
      have q2 := eq_of_beq q2
      subst q1 q2
      obtain ⟨nm, bs, mro, ns, qn, hd, sn, sub, ab, col, del⟩ := cd
      dsimp only at hm q3 q4
      have q3 : del = false := by simpa using q3
      subst hm q3 q4
      have hl : sl = #[j0, j1, j2, j3, some (.builtin "ValueError.__new__"), j5] := by
        obtain ⟨l⟩ := sl
        simp only at hs
        rw [hs]
      subst hl
      exact ⟨nm, qn, ns, bs, bm, sn, sub, ab, col, dd, j0, j1, j2, j3, j5, ho, q5⟩
    · cases q
  · cases q
structure ExC (K : PySem.W.Frag) (x : Str) : Prop where
  oex : OexC K (He.ga K x)
  xf : XfC K (He.ga K x)
  val : PySem.W.findIn K (.ref (He.ga K x)) "value" = some none
  ini : PySem.W.findIn K (.ref (He.ga K x)) "__init__" = some (some (.ref (initA K)))
  tyI : PySem.W.typeIn K (.ref (initA K)) = some (.type "function")
  ns : PySem.W.nsIn K mainGlobals x = some (some (.ref (He.ga K x)))
  sub : ∀ y ∈ exNs, ∀ C, PySem.W.nsIn K mainGlobals y = some (some (.ref C)) → PySem.W.exmOne K (.ref (He.ga K x)) (.ref C) = some (exSub x y)
theorem exB_ok {K : PySem.W.Frag} {x : Str} (q : exB K x = true) : ExC K x := by
  unfold exB at q
  obtain ⟨q1, q⟩ := Bool.and_eq_true_iff.mp q
  obtain ⟨q2, q⟩ := Bool.and_eq_true_iff.mp q
  obtain ⟨q3, q⟩ := Bool.and_eq_true_iff.mp q
  obtain ⟨q4, q⟩ := Bool.and_eq_true_iff.mp q
  obtain ⟨q5, q⟩ := Bool.and_eq_true_iff.mp q
  obtain ⟨q6, q⟩ := Bool.and_eq_true_iff.mp q
  obtain ⟨q7, q⟩ := Bool.and_eq_true_iff.mp q
  obtain ⟨q8, q⟩ := Bool.and_eq_true_iff.mp q
  obtain ⟨q9, q⟩ := Bool.and_eq_true_iff.mp q
  obtain ⟨q10, q⟩ := Bool.and_eq_true_iff.mp q
  refine ⟨⟨oexB_ok q1, of_decide_eq_true q2, of_decide_eq_true q3, of_decide_eq_true q4, q5⟩, xfB_ok q6, of_decide_eq_true q7, of_decide_eq_true q8, of_decide_eq_true q9, He.eqO_ok q10, fun y hy C hC => ?_⟩
  have h := List.all_eq_true.mp q y hy
  rw [hC] at h
  exact of_decide_eq_true h
/-! ### an exception at rest is told -/
section
variable {X : Cx} {pins : List (Addr × Obj)} {σ : L2.St} {H : Hp} {s : Shared}
theorem inv_track {a : Addr} {oe : Obj} {vs : Array Value} {o : HO} (I : Inv X pins σ H s) (ha : s.heap.get? a = some oe) (hd : oe.data = .fields vs) (na : H a = none) (n0 : X.s_0.heap.get? a = none) (nL : a ≠ X.env.locals)
    (nP : ∀ p ∈ X.pn ++ pins, p.1 ≠ a) (ho : ObjOk X.prog X.w (upd H a o) s.heap a o) : Inv X pins σ (upd H a o) s := by
  have nC : ∀ x c, X.env.cells.lookup x = some c → c ≠ a := fun x c e z => by
    obtain ⟨v, o2, e1, e2⟩ := I.cell x c e
    rw [z, ha] at e1
    cases e1
    rw [hd] at e2
    cases e2
  refine ⟨I.ok, I.os, I.bare, ⟨I.base.keep, I.base.slot, fun b u e n hx => ?_, I.base.there, fun b xs e => ?_, fun b u z e => ?_, fun b ps e => ?_⟩, I.loc, I.cell, ?_, fun x c e => ?_, fun p hp => ?_, fun b u e => ?_, I.len⟩
  · rw [upd_ne (fun z => by rw [z, n0] at e; cases e)]
    exact I.base.free b u e n hx
  · have e2 := I.base.tups b xs e
    rw [upd_ne (ne_of_none e2 na)]
    exact e2
  · have e2 := I.base.frzs b u z e
    rw [upd_ne (ne_of_none e2 na)]
    exact e2
  · obtain ⟨more, e2⟩ := I.base.tbls b ps e
    exact ⟨more, by rw [upd_ne (ne_of_none e2 na)]; exact e2⟩
  · rw [upd_ne nL.symm]
    exact I.free
  · rw [upd_ne (nC x c e)]
    exact I.freeC x c e
  · obtain ⟨p1, p2, p3⟩ := I.pin p hp
    exact ⟨p1, by rw [upd_ne (nP p hp)]; exact p2, p3⟩
  · by_cases hb : b = a
    · subst hb
      rw [upd_same] at e
      cases e
      exact ho
    · rw [upd_ne hb] at e
      exact (I.hok b u e).stay (fun c w hc q => q) (fun c hc => by rw [upd_ne (ne_of_none hc na)]; exact hc) fun c xs hc => by rw [upd_ne (ne_of_none hc na)]; exact hc
theorem exV_ok {P : Program} {w : World} {G : Hp} {h : Heap} {a : Addr} {cls : Value} {d : Option Addr} {oe : Obj} {vs : Array Value} (e : h.get? a = some oe) (z : Zc cls d oe) (hd : oe.data = .fields vs) : ObjOk P w G h a (ExV cls d a) :=
  ⟨⟨oe, vs, e, z, hd⟩, ⟨oe, e⟩, fun _ _ ⟨o, v, q, r⟩ k => ⟨o, v, k o q, r⟩⟩
/-- the context of a clause's suite, the exception told -/
abbrev suiteX (X : Cx) (a : Addr) (pn : List (Addr × Obj)) : Cx := X.suite a pn
theorem inv_in {a : Addr} (I : Inv X pins σ H s) : Inv (suiteX X a (X.pn ++ pins)) [] σ H s :=
  ⟨I.ok.suite _ _, I.os, I.bare, I.base, I.loc, I.cell, I.free, I.freeC, fun p hp => I.pin p (by rw [List.append_nil] at hp; exact hp), I.hok, I.len⟩
theorem inv_out {a : Addr} {more : List (Addr × Obj)} (I : Inv (suiteX X a (X.pn ++ pins)) more σ H s) (ok : X.Ok) : Inv X pins σ H s :=
  ⟨ok, I.os, I.bare, I.base, I.loc, I.cell, I.free, I.freeC, fun p hp => I.pin p (List.mem_append_left _ hp), I.hok, I.len⟩
end
/-! ### try with several clauses, with or without names -/
/-- a clause: the class, the slot of its name, its suite -/
structure HdT where
  c : Value
  i : Option Nat
  ts : Addr → Value → Option Addr → TS
def clr (i : Option Nat) (σ : L2.St) : L2.St := match i with
  | some j => σ.set j none
  | none => σ
def put (i : Option Nat) (a : Addr) (σ : L2.St) : L2.St := match i with
  | some j => σ.set j (some (.ref a))
  | none => σ
def clrE (i : Option Nat) (D : Ends) : Ends := { nx := fun σ H => D.nx (clr i σ) H, rt := D.rt, bk := fun σ H => D.bk (clr i σ) H, ct := fun σ H => D.ct (clr i σ) H }
def wHd (K : PySem.W.Frag) (Wout : WX) (D : Ends) : List HdT → WX
  | [] => Wout
  | h :: r => fun cls d σ H => ∃ b, PySem.W.exmOne K cls h.c = some b ∧ (b = true → ∀ a, H a = none → h.ts a cls d (clrE h.i D) (put h.i a σ) (upd H a (ExV cls d a))) ∧ (b = false → wHd K Wout D r cls d σ H)
inductive HdsA (X : Cx) : List ExceptHandler → List HdT → Prop
  | nil : HdsA X [] []
  | cons {y : Str} {h : HdT} {nm : Option Str} {st0 : Stmt} {sts : List Stmt} {p1 p2 : Pos} {hds : List ExceptHandler} {l : List HdT} (hc : Names X y h.c)
      (hi : (nm = none ∧ h.i = none) ∨ ∃ n j, nm = some n ∧ h.i = some j ∧ X.N[j]? = some n ∧ X.env.kindOf n = some .local)
      (hsu : ∀ (a : Addr) (cls : Value) (d : Option Addr) (pn : List (Addr × Obj)), PSs (suiteX X a pn) (st0 :: sts) (h.ts a cls d)) (r : HdsA X hds l) : HdsA X (.ExceptHandler (some (.Name y p1)) nm (st0 :: sts) p2 :: hds) (h :: l)
section
variable {X : Cx} {body : List Stmt} {hd0 : ExceptHandler} {hds : List ExceptHandler} {l : List HdT} {pos : Pos} {tb : WX → TS} {Wout : WX}
theorem ps_tryA (hs : X.stack = X.env :: X.outer) (hf : X.env.frame = some X.env.locals) (hex : X.ex = []) (hN : X.N.Nodup) (tk : Takes X Wout)
    (hb : ∀ (W : WX) (pn : List (Addr × Obj)) (xe : Value → Shared → Prop), Takes (X.tr pn xe) W → PassesOwn (model X.prog X.w) X.A X.env xe → PSs (X.tr pn xe) body (tb W)) (hh : HdsA X (hd0 :: hds) l) :
    PS X (.Try body (hd0 :: hds) [] [] pos) (fun D σ H => tb (wHd X.K Wout D l) D σ H) := by
  refine ⟨fun pins s σ H D I hstart => ?_⟩
  have ok := I.ok
  have frames : X.A.frames = some (X.env :: X.outer) := by rw [ok.frames, hs]
  have pinsOut : ∀ {f : Flow} {s1 : Shared}, SP (X.tr (X.pn ++ pins) fun e s₁ => wpAny (model X.prog X.w) X.A (noteFrame e X.env) (fun _ s₂ => wpAny (model X.prog X.w) X.A (setFlight e none) (fun _ s₃ =>
      wpAny (model X.prog X.w) X.A (handleBy e X.env (hd0 :: hds)) (SP X pins D) X.xe s₃) X.xe s₂) X.xe s₁) [] D f s1 → SP X pins D f s1 := fun {f s1} q => by
    cases f with
    | next => obtain ⟨σ2, H2, J, q⟩ := q; exact ⟨σ2, H2, J.ofTry ok, q⟩
    | brk => obtain ⟨σ2, H2, J, q⟩ := q; exact ⟨σ2, H2, J.ofTry ok, q⟩
    | cont => obtain ⟨σ2, H2, J, q⟩ := q; exact ⟨σ2, H2, J.ofTry ok, q⟩
    | ret u => obtain ⟨v, σ2, H2, J, r, q⟩ := q; exact ⟨v, σ2, H2, J.ofTry ok, r, q⟩
  refine wpAny_Try_except (wpAny_mono ((hb (wHd X.K Wout D l) (X.pn ++ pins) _ (fun u s2 xx => ?_) PassesOwn.looking).run [] s σ H D (I.toTry _) hstart) (fun f s1 q => ?_) fun _ _ z => z)
  · obtain ⟨a, B, sI, pins2, σ2, H2, cls, d, rfl, Jt, nb, up, sky, na, hos, hag, w⟩ := xx
    have J : Inv X pins σ2 H2 sI := Jt.ofTry ok
    have skyE : Sky B (X.env :: X.outer) a (Zc cls d) X.env.locals s2.heap := by
      rw [← hs]
      exact sky
    show wpAny (model X.prog X.w) X.A (noteFrame (.ref a) X.env) _ _ _
    refine Sky.land Zc.steady frames hf skyE fun h3 fl3 up3 => ?_
    have J3 : Inv X pins σ2 H2 { s2 with heap := h3 } := J.landed nb fl3.1 (up.trans up3) hos hag
    obtain ⟨o3, v3, e3, z3, d3⟩ := fl3.there
    have noFrame : ∀ {h : Heap} {o : Obj} {vs : Array Value}, h.FunFrames B (X.env :: X.outer) → h.get? a = some o → o.data = .fields vs → a ∉ frs (X.env :: X.outer) := fun {h o vs} ff e dd hm => by
      obtain ⟨_, o2, q2, hnf⟩ := ff.mem hm
      rw [e] at q2
      cases q2
      exact hnf _ dd
    have nfr := noFrame fl3.2.2.1 e3 d3
    have nL : a ≠ X.env.locals := fun z => nfr (List.mem_filterMap.mpr ⟨X.env, List.mem_cons_self, by rw [hf, z]⟩)
    have nI : sI.heap.get? a = none := by
      cases q : sI.heap.get? a with
      | none => rfl
      | some o =>
        have := nb a o q (by rw [hs]; exact nfr)
        rw [fl3.2.1] at this
        cases this
    have n0 : X.s_0.heap.get? a = none := by
      cases q : X.s_0.heap.get? a with
      | none => rfl
      | some o =>
        obtain ⟨o2, q2⟩ := J.base.there a o q (by rw [hex]; simp)
        rw [nI] at q2
        cases q2
    have nP : ∀ p ∈ X.pn ++ pins, p.1 ≠ a := fun p hp z => by
      have := (J.pin p hp).1
      rw [z, nI] at this
      cases this
    have look : PySem.W.Looks (model X.prog X.w) h3 (typeOf (.ref a)) cls := fun A Q E s k q => wpAny_typeOf_ref (k _ _ e3) (by rw [z3.1]; exact q)
    have go : ∀ {hds2 : List ExceptHandler} {l2 : List HdT}, HdsA X hds2 l2 → wHd X.K Wout D l2 cls d σ2 H2 →
        wpAny (model X.prog X.w) X.A (handleBy (.ref a) X.env hds2) (SP X pins D) X.xe { s2 with heap := h3 } := by
      intro hds2 l2 hk
      induction hk with
      | nil =>
        intro w
        refine wpAny_handleBy_nil ?_
        obtain ⟨m1, m2, m3, oe, vs, T, oT, ts2, he, hz, hd, h1, hr⟩ := id fl3
        unfold PySem.passOn
        refine wpAny_bind (wpAny_field he hd h1 ?_)
        rw [if_neg (show ¬ ((Value.ref T == Value.none) = true) from by simp)]
        have fin : wpAny (model X.prog X.w) X.A (setFlight (.ref a) X.env.frame) (fun _ s4 => wpAny (model X.prog X.w) X.A (throw (.ref a) : Sem Flow) (SP X pins D) X.xe s4) X.xe { s2 with heap := h3 } := by
          rw [hf]
          exact HandSPX.setFlight_upZ fl3 fun h4 hh4 up4 => wpAny_throw (tk _ _ ⟨a, B, sI, pins, σ2, H2, cls, d, rfl, J, nb, (up.trans up3).trans up4, .inr (.inr (by rw [hs]; exact hh4)), na, hos, hag, w⟩)
        first
          | exact wpAny_bind (wpAny_pure (wpAny_bind fin))
          | exact wpAny_bind fin
      | @cons y hd nm st0 sts p1 p2 hds3 l3 hc hi hsu r ih =>
        intro w
        obtain ⟨b, hb1, hyes, hno⟩ := w
        refine wpAny_handleBy_cons (codeAny_handlers_test ?_) (by intro q; cases q)
        have is := PySem.W.exm_one (M := model X.prog X.w) (J3.kIn) look hb1
        have test : ∀ {Q : Value → Shared → Prop} {E : Value → Shared → Prop}, Q hd.c { s2 with heap := h3 } → wpAny (model X.prog X.w) (X.A.mark (some (.ref a))) (eval (.Name y p1) X.env) Q E { s2 with heap := h3 } := fun {Q E} q => by
          obtain ⟨hg, hdbg, hm | ⟨hm, hv, hnn⟩⟩ := hc
          · exact ld_glob (X := suiteX X a (X.pn ++ pins)) (inv_in J3) hg hm q hdbg
          · exact ld_blt (X := suiteX X a (X.pn ++ pins)) (inv_in J3) hg hm hv q hnn hdbg
        refine test (is.here ?_)
        cases b with
        | true =>
          have within : ∀ {h4 : Heap}, HandSPX.FlyingZ B (X.env :: X.outer) a (Zc cls d) h4 → h3.UpToSlots h4 → Inv (suiteX X a (X.pn ++ pins)) [] σ2 (upd H2 a (ExV cls d a)) { s2 with heap := h4 } := fun {h4} fl4 up4 => by
            have J4 : Inv X pins σ2 H2 { s2 with heap := h4 } := J.landed nb fl4.1 ((up.trans up3).trans up4) hos hag
            obtain ⟨o4, v4, e4, z4, d4⟩ := fl4.there
            exact inv_in (inv_track J4 e4 d4 na n0 nL nP (exV_ok e4 z4 d4))
          rcases hi with ⟨rfl, hi⟩ | ⟨n, j, rfl, hi, hj, hl⟩
          · refine codeAny_handlers_suite ?_
            refine HandSPX.lands_againZ fl3 fun h4 fl4 up4 => ?_
            have q := hyes rfl a na
            rw [hi] at q
            refine wpAny_mono ((hsu a cls d (X.pn ++ pins)).run [] _ _ _ _ (within fl4 up4) q) (fun f s6 q6 => ?_) (fun _ _ z => False.elim z)
            cases f with
            | next => obtain ⟨σ6, H6, S6, q6⟩ := q6; exact ⟨_, _, inv_out S6 ok, q6⟩
            | brk => obtain ⟨σ6, H6, S6, q6⟩ := q6; exact ⟨_, _, inv_out S6 ok, q6⟩
            | cont => obtain ⟨σ6, H6, S6, q6⟩ := q6; exact ⟨_, _, inv_out S6 ok, q6⟩
            | ret u => obtain ⟨v6, σ6, H6, S6, r6, q6⟩ := q6; exact ⟨_, _, _, inv_out S6 ok, r6, q6⟩
          · refine codeAny_handlers_suite_as ?_
            refine HandSPX.lands_againZ fl3 fun h4 fl4 up4 => ?_
            have q := hyes rfl a na
            rw [hi] at q
            refine store_ok (X := suiteX X a (X.pn ++ pins)) (v := .ref a) (within fl4 up4) hN hj (.inl hl) rfl (fun s5 S5 => ?_) (.inr hl)
            refine wpAny_mono ((hsu a cls d (X.pn ++ pins)).run [] s5 _ _ _ S5 q) (fun f s6 q6 => ?_) (fun _ _ z => False.elim z)
            have leave : ∀ {σ6 : L2.St} {H6 : Hp} {Q : Shared → Prop}, Inv (suiteX X a (X.pn ++ pins)) [] σ6 H6 s6 → (∀ s7, Inv X pins (σ6.set j none) H6 s7 → Q s7) →
                wpAny (model X.prog X.w) X.A (do bindName X.env n .none; unbindBehindTheSuite X.env n p2) (fun _ s7 => Q s7) X.xe s6 := fun {σ6 H6 Q} S6 hq => gone_ok (inv_out S6 ok) hN hj hl hq
            cases f with
            | next => obtain ⟨σ6, H6, S6, q6⟩ := q6; exact leave S6 fun s7 J7 => ⟨_, _, J7, q6⟩
            | brk => obtain ⟨σ6, H6, S6, q6⟩ := q6; exact leave S6 fun s7 J7 => ⟨_, _, J7, q6⟩
            | cont => obtain ⟨σ6, H6, S6, q6⟩ := q6; exact leave S6 fun s7 J7 => ⟨_, _, J7, q6⟩
            | ret u => obtain ⟨v6, σ6, H6, S6, r6, q6⟩ := q6; exact leave S6 fun s7 J7 => ⟨_, _, _, J7, r6, q6⟩
        | false => exact ih (hno rfl)
    exact go hh w
  · cases f with
    | next => obtain ⟨σ2, H2, J, q⟩ := q; exact wpAny_execs_nil ⟨σ2, H2, J.ofTry ok, q⟩
    | brk => exact pinsOut q
    | cont => exact pinsOut q
    | ret u => exact pinsOut q
end
/-! ### e.value of an exception at rest -/
def tXv (K : PySem.W.Frag) (n : Str) (te : TE) : TE := fun σ H Q => te σ H fun x H1 => ∃ (a C dx : Addr) (fs : List (Str × V)) (v : V), x = .ref a ∧ H1 a = some (ExV (.ref C) (some dx) a) ∧ XfC K C ∧ PySem.W.findIn K (.ref C) n = some none ∧ H1 dx = some (.xd fs) ∧ fs.lookup n = some v ∧ Q v H1
theorem pe_xv {X : Cx} {e : Expr} {te : TE} {pos : Pos} {n : Str} (he : PE X e te) (hb : attributeBase e n X.env (eval e X.env) = eval e X.env := by rfl) : PE X (.Attribute e n pos) (tXv X.K n te) := by
  refine ⟨fun pins s σ H Q I h => attr_of hb (thn (he.run pins s σ H _ I h) fun u s1 hh => ?_)⟩
  obtain ⟨x, H1, J, rx, a, C, dx, fs, v, ex, ea, T, hno, ed, hl, q⟩ := hh
  subst ex
  obtain rfl : u = Value.ref a := rx
  obtain ⟨⟨oe, vs, e1, z1, d1⟩, _⟩ := (J.hok a _ ea : ObjOk X.prog X.w H1 s1.heap a (ExV (.ref C) (some dx) a))
  obtain ⟨mA, hns, hr⟩ := (J.hok dx _ ed : ObjOk X.prog X.w H1 s1.heap dx (.xd fs))
  obtain ⟨od, ho, hlk⟩ := lookIn_ns hns
  obtain ⟨u, hu, ru⟩ := RelO.some_of (v := v) (o := mA n) (by rw [← hl]; exact hr n)
  have at_ : PySem.W.InstAt s1.heap a oe C (some od) := ⟨e1, z1.1, by unfold PySem.W.notCls; rw [d1] <;> rfl, by rw [z1.2]; exact ho⟩
  exact HandSPX.exc_get J.kIn at_ T.ga T.gg T.exC (PySem.W.findObj_own T.hdC hno rfl (by rw [hlk, hu])) (handed_of ru) ⟨v, H1, J.tok _, ru, q⟩
/-! ### the exceptions' own __init__ -/
def spI (K : PySem.W.Frag) : Sp := fun vs H Q _ => ∃ (a C : Addr) (v : V), vs = [.ref a, v] ∧ OexC K C ∧ PySem.W.findIn K (.ref C) "value" = some none ∧ H a = some (exo a C none) ∧ ∀ dx, H dx = none → dx ≠ a → Q .non (upd (upd H dx (exd dx [("value", v)])) a (exo a C (some dx)))
def tIni (K : PySem.W.Frag) : TS := tSeq (tDrop (tVeI K (tCons (tVar 0) (tCons (tVar 1) tNil)))) (tOst K "value" (tVar 0) (tVar 1))
theorem init_ok {P : Program} {w : World} {K : PySem.W.Frag} {mg : Str → Option Value} {base : Heap} {qual : Str} {params : Arguments} {body : List Stmt} {scope : Scope} {f : Addr} {fd : FuncData}
    (F : FunD K "__init__" qual params body scope [] [] f fd) (S : FnScope ["self", "value"] ["self", "value"] scope)
    (hb : ∀ (cdv : Value) (A : Around) (outer : List Env) (s : Shared) (H : Hp) (E : XK), PSs (cxOf (L2.CX P w) P w K mg base ["self", "value"] qual scope f cdv A outer s H E) body (tIni K)) :
    FnOk P w K mg base (L2.CX P w) 1 f fd ["self", "value"] (spI K) := by
  refine F.ok S (fun vs H Q E ⟨a, C, v, e, _⟩ => by rw [e]; rfl) fun cdv A outer s H vs Q E hr h => ?_
  obtain ⟨a, C, v, rfl, T, hv, hx, q⟩ := h
  refine ⟨_, hb cdv A outer s H E, .ref a, rfl, v, rfl, a, C, [v], rfl, by show 1 ≤ 1000; decide, T, hx, v, rfl, .ref a, rfl, a, C, rfl, T, hv, .inl ⟨hx, fun dx n ne => q dx n ne⟩⟩
end Q
namespace Q
open PySem
open Spec PyProof.Rows L2

/-! ### raise C(e) -/
def kRaise (x : Str) (M : EndsD) : List D → Sto → Prop := fun ds S => match ds with
  | [d] => M.ex (x, d) S
  | _ => False
def dRaise (x : Str) (ta : TAD) : TSD := fun M sg S => ta sg S (kRaise x M) M.ex
/-- the common __init__, known -/
structure IniT (P : Program) (w : World) (K : PySem.W.Frag) (mg : Str → Option Value) (base : Heap) (fd : FuncData) : Prop where
  ok : FnOk P w K mg base (L2.CX P w) 1 (initA K) fd ["self", "value"] (spI K)
  hb : Binds K fd ["self", "value"] []
theorem upd_del {H : Hp} {a dx : Addr} {o u v : HO} (n : H a = none) (ne : dx ≠ a) : upd (del (upd (upd (upd H a o) dx u) a o) a) dx v = upd H dx v := by
  funext b
  by_cases hb : b = dx
  · subst hb
    rw [upd_same, upd_same]
  · rw [upd_ne hb, upd_ne hb]
    by_cases ha : b = a
    · subst ha
      rw [del_same, n]
    · rw [del_ne ha, upd_ne ha, upd_ne hb, upd_ne ha]
theorem upd_del2 {H : Hp} {a dx : Addr} {o o2 u v : HO} (n : H a = none) (ne : dx ≠ a) : upd (del (upd (upd (upd H a o) dx u) a o2) a) dx v = upd H dx v := by
  funext b
  by_cases hb : b = dx
  · subst hb
    rw [upd_same, upd_same]
  · rw [upd_ne hb, upd_ne hb]
    by_cases ha : b = a
    · subst ha
      rw [del_same, n]
    · rw [del_ne ha, upd_ne ha, upd_ne hb, upd_ne ha]
theorem q_raise {X : Cx} {E : XK} {x : Str} {e : Expr} {es : List Expr} {ta : TAD} {p1 p2 pos : Pos} {fd : FuncData} (hc : X.calm = true) (I : IniT X.prog X.w X.K X.mg X.base fd) (hr : Room 2 X.A) (tk : Takes X (fun c d _ H => E c d H)) (hx : exB X.K x = true) (hm : X.mg x = some (.ref (He.ga X.K x)))
    (ha : QA X E (e :: es) ta) (hg : Gl X x := by rfl) (hdb : (x == ("__debug__" : Str)) = false := by decide) (he : starEach (e :: es) X.env = (false, eval e X.env) :: starEach es X.env := by rfl) (hpl : (backTo p2 (starEach es X.env)).any (·.1) = false := by rfl) :
    QS X E (.Raise (some (.Call (.Name x p1) (e :: es) [] p2)) none pos) (dRaise x ta) := by
  have C := exB_ok hx
  refine ps_imp (ps_raise hc tk (pmk_oex (dvs := []) C.oex C.ini C.tyI I.ok hr I.hb .nil passL hg hm ha hdb he hpl)) fun De σ H ⟨sg, al, S, Dd, rs, rl, q, ue⟩ => ?_
  refine ⟨sg, al, S, kRaise x Dd, Dd.ex, rs, rl, q, fun ds S1 al1 H1 vs f1 r1 q1 => ?_, ue.ex⟩
  unfold kRaise at q1
  split at q1
  · rename_i d
    obtain ⟨v, u, ev, rv, eu⟩ := r1
    cases (show u = [] from eu)
    subst ev
    refine ⟨by show 1 ≤ 1000; decide, fun a na => ⟨a, He.ga X.K x, v, by simp, C.oex, C.val, upd_same, fun dx nd ne => ⟨rfl, dx, [("value", v)], upd_same, by rw [upd_ne ne, upd_same], by rwa [upd_ne ne] at nd, ?_⟩⟩⟩
    rw [upd_del2 na ne]
    have nd1 : H1 dx = none := by rwa [upd_ne ne] at nd
    have f2 : Fut X.K H1 al1 (upd H1 dx (.xd [("value", v)])) al1 S1 := Fut.lay f1.rs nd1
    exact ue.ex (x, d) S1 al1 _ _ _ (f1.trans f2) ⟨hx, dx, v, rfl, rfl, upd_same, f2.rd rv⟩ q1
  · exact q1.elim
/-! ### the body of a try: what is let out knows the slots -/
abbrev cyW (X : Cx) (W : WX) (σ : L2.St) : Cy := ⟨X.K, X.mg, fun c d H => W c d σ H⟩
abbrev QEw (X : Cx) (W : WX) (e : Expr) (t : TED) : Prop := PE X e (fun σ H Q => LE (cyW X W σ) t σ H Q)
abbrev QTw (X : Cx) (W : WX) (e : Expr) (t : TTD) : Prop := PT X e (fun σ H Q => LT (cyW X W σ) t σ H Q)
abbrev QAw (X : Cx) (W : WX) (e : List Expr) (t : TAD) : Prop := PA X e (fun σ H Q => LA (cyW X W σ) t σ H Q)
abbrev QSw (X : Cx) (W : WX) (e : Stmt) (t : TSD) : Prop := PS X e (fun De σ H => LS (cyW X W σ) t De σ H)
abbrev QSsw (X : Cx) (W : WX) (e : List Stmt) (t : TSD) : Prop := PSs X e (fun De σ H => LS (cyW X W σ) t De σ H)
section
variable {X : Cx} {W : WX} {e a b : Expr} {es : List Expr} {te ta tb : TED} {tr tk : TAD} {pos p kpos : Pos} {kws : List Keyword} {nm : Option Str}
theorem w_e (h : ∀ E : XK, QE X E e te) : QEw X W e te := ⟨fun pins s σ H Q I q => (h fun c d H => W c d σ H).run pins s σ H Q I q⟩
theorem w_t {c : Expr} {tc : TTD} (h : ∀ E : XK, QT X E c tc) : QTw X W c tc := ⟨fun pins s σ H Q I q => (h fun c d H => W c d σ H).run pins s σ H Q I q⟩
theorem w_a (h : ∀ E : XK, QA X E es tr) : QAw X W es tr := ⟨fun pos pins s σ H Q I q => (h fun c d H => W c d σ H).run pos pins s σ H Q I q⟩
theorem w_nil : QAw X W [] dNil := w_a fun E => q_nil
theorem w_cons (ha : QEw X W e te) (hr : QAw X W es tr) (hs : starEach (e :: es) X.env = (false, eval e X.env) :: starEach es X.env := by rfl) : QAw X W (e :: es) (dCons te tr) :=
  pa_imp (pa_cons ha hr hs) fun s H Q ⟨sg, al, S, kd, xd, rs, rl, q, up, ux⟩ => ⟨sg, al, S, kCons1 tr sg kd xd, xd, rs, rl, q, fun d S1 al1 H1 v f1 r1 q1 =>
    ⟨sg, al1, S1, kCons2 kd d, xd, f1.rs, f1.rsl rl, q1, fun ds S2 al2 H2 vs f2 r2 q2 => up (d :: ds) S2 al2 H2 (v :: vs) (f1.trans f2) ⟨v, vs, rfl, f2.rd r1, r2⟩ q2, ux.mono f1⟩, ux⟩
theorem w_tup {x1} (h : QAw X W es tr) : QEw X W (.Tuple es x1 pos) (dTup tr) :=
  pe_imp (pe_tup h) fun s H Q ⟨sg, al, S, kd, xd, rs, rl, q, up, ux⟩ => ⟨sg, al, S, kTup kd, xd, rs, rl, q, fun ds S1 al1 H1 vs f1 r1 q1 => ⟨by rw [RDs.length r1]; exact q1.1, fun p hp => by
    have f2 : Fut X.K H1 al1 (upd H1 p (.tup vs)) al1 S1 := Fut.lay f1.rs hp
    exact up (.tup ds) S1 al1 _ (.ref p) (f1.trans f2) ⟨p, vs, rfl, .inl (.inl upd_same), f2.rds r1⟩ q1.2⟩, ux⟩
theorem w_lst (h : QAw X W es tr) : QEw X W (.List es pos) (dLst tr) :=
  pe_imp (pe_lst h) fun s H Q ⟨sg, al, S, kd, xd, rs, rl, q, up, ux⟩ => ⟨sg, al, S, kLst kd, xd, rs, rl, q, fun ds S1 al1 H1 vs f1 r1 q1 => ⟨by rw [RDs.length r1]; exact q1.1, fun p hp =>
    up (.ref S1.length) _ _ _ (.ref p) (f1.trans (new_lst f1.rs hp r1)) (ref_new f1.rs _) q1.2⟩, ux⟩
theorem w_ifE {c : Expr} {t : TTD} (hc : QTw X W c t) (ha : QEw X W a ta) (hb : QEw X W b tb) : QEw X W (.IfExp c a b pos) (dIfE t ta tb) :=
  pe_imp (pe_ifExp hc ha hb) fun s H Q ⟨sg, al, S, kd, xd, rs, rl, q, up, ux⟩ => ⟨sg, al, S, kIfE ta tb sg kd xd, xd, rs, rl, q, fun d S1 al1 H1 f1 q1 =>
    ite_of ⟨fun e => ⟨sg, al1, S1, kd, xd, f1.rs, f1.rsl rl, q1.1 e, up.mono f1, ux.mono f1⟩, fun e => ⟨sg, al1, S1, kd, xd, f1.rs, f1.rsl rl, q1.2 e, up.mono f1, ux.mono f1⟩⟩, ux⟩
variable {k n : Nat} {f : Addr} {fd : FuncData} {ps ks : List Str} {sp : SpD} {x : Str} {idx : List Nat}
theorem w_call (F : FnOk X.prog X.w X.K X.mg X.base (L2.CX X.prog X.w) k f fd ps (LP X.K X.mg n sp)) (hr : Room k X.A) (hg : Gl X x) (hm : X.mg x = some (.ref f)) (hk : PySem.W.keepIn X.K (.ref f) = true) (hb : Binds X.K fd ps []) (tk : Takes X W)
    (ha : QAw X W (e :: es) tr) (hdb : (x == ("__debug__" : Str)) = false := by decide) (he : starEach (e :: es) X.env = (false, eval e X.env) :: starEach es X.env := by rfl) (hpl : (backTo pos (starEach es X.env)).any (·.1) = false := by rfl) :
    QEw X W (.Call (.Name x p) (e :: es) [] pos) (dCall (spN n sp) tr) :=
  pe_imp (pe_callS (E := WE W) F hr hg hm hk hb (fun σ => passAt tk σ) ha hdb he hpl) fun σ H Q ⟨sg, al, S, kd, xd, rs, rl, q, up, ux⟩ => ⟨sg, al, S, kCall (spN n sp) kd xd, xd, rs, rl, q,
    fun ds S1 al1 H1 vs f1 r1 q1 => ⟨by rw [RDs.length r1]; exact q1.1, ds, al1, S1, kd, xd, f1.rs, r1, q1.2, up.mono f1, ux.mono f1⟩, ux⟩
/-- a call by names, at told slots -/
theorem runKw {pins : List (Addr × Obj)} {σ : L2.St} {H : Hp} {s : Shared} {Q : VK} {us ws : List Value} {vs zs : List V} (F : FnOk X.prog X.w X.K X.mg X.base (L2.CX X.prog X.w) k f fd ps (LP X.K X.mg ps.length sp)) (hr : Room k X.A) (hb : KB X.K fd ps n ks idx) (tk : Takes X W)
    (I : Inv X pins σ H s) (r : Vals vs us) (rz : Vals zs ws) (l1 : vs.length = n) (l2 : zs.length = ks.length) (h : LP X.K X.mg ps.length sp (vs ++ pick idx zs) H Q (WE W σ)) : wpAny (model X.prog X.w) X.A (call (.ref f) us (ks.zip ws)) (EP X pins σ Q) X.xe s := by
  have r2 := r.append (pick_vals (idx := idx) rz)
  refine wpAny_call (codeAny_mono (F.run X.A X.stack s H ⟨us, ks.zip ws⟩ (us ++ pick idx ws) (vs ++ pick idx zs) Q (WE W σ) hr I.env0 (hb.to s us ws (r.length.symm.trans l1) (rz.length.symm.trans l2)) r2 h) ?_)
  intro r s' hq
  match r, hq with
  | .error e, hq => exact passAt tk σ pins H s e s' I hq
  | .ok (.ret u), hq => exact I.after hq
  | .ok .next, hq => exact hq.elim
  | .ok .brk, hq => exact hq.elim
  | .ok .cont, hq => exact hq.elim
theorem w_callK (F : FnOk X.prog X.w X.K X.mg X.base (L2.CX X.prog X.w) k f fd ps (LP X.K X.mg ps.length sp)) (hr : Room k X.A) (hg : Gl X x) (hm : X.mg x = some (.ref f)) (hk : PySem.W.keepIn X.K (.ref f) = true) (hb : KB X.K fd ps n ks idx) (tk' : Takes X W)
    (ha : ∀ E : XK, QA X E (e :: es) tr) (hkw : ∀ E : XK, QK X E kws tk) (hall : (backToKw pos (keywordEach kws X.env)).all (·.1.isSome) = true := by rfl) (hks : (backToKw pos (keywordEach kws X.env)).filterMap (·.1) = ks := by rfl) (hdb : (x == ("__debug__" : Str)) = false := by decide) (he : starEach (e :: es) X.env = (false, eval e X.env) :: starEach es X.env := by rfl) (hpl : ((backTo pos (starEach (e :: es) X.env)).any (·.1) || (backToKw pos (keywordEach kws X.env)).any (·.1.isNone)) = false := by rfl) :
    QEw X W (.Call (.Name x p) (e :: es) kws pos) (dCallK (spN ps.length sp) n ks.length idx tr tk) := by
  constructor
  rintro pins s σ H Q I ⟨sg, al, S, kd, xd, rs, rl, q, up, ux⟩
  refine wpAny_Call_Name_kw <| ld_glob I hg hm (PySem.W.callWith_KW (h₀ := X.base) I.ok.mod.kin hk hall (thn ((ha (WE W σ)).run pos pins s σ H (fun vs H1 => ∃ ds al1 S1, Fut X.K H al H1 al1 S1 ∧ RDs X.K H1 al1 ds vs ∧ kCK1 (spN ps.length sp) n ks.length idx tk sg kd xd ds S1) I
    ⟨sg, al, S, _, xd, rs, rl, q, fun ds S1 al1 H1 vs f1 r1 q1 => ⟨ds, al1, S1, f1, r1, q1⟩, ux⟩) fun us s1 ⟨vs, H1, I1, r, ds, al1, S1, f1, r1, q1⟩ => ?_) hpl he) hdb
  refine thn ((hkw (WE W σ)).run pos pins s1 σ H1 (fun zs H2 => ∃ es al2 S2, Fut X.K H1 al1 H2 al2 S2 ∧ RDs X.K H2 al2 es zs ∧ kCK2 (spN ps.length sp) n ks.length idx kd xd ds es S2) I1
    ⟨sg, al1, S1, _, xd, f1.rs, f1.rsl rl, q1, fun es S2 al2 H2 vs f2 r2 q2 => ⟨es, al2, S2, f2, r2, q2⟩, ux.mono f1⟩) fun ws s2 ⟨zs, H2, I2, rz, es, al2, S2, f2, r2, l1, l2, q2⟩ => ⟨I2.kIn, ?_⟩
  rw [hks]
  exact runKw F hr hb tk' I2 r rz (by rw [RDs.length r1]; exact l1) (by rw [RDs.length r2]; exact l2)
    ⟨by rw [RDs.length (RDs.append (f2.rds r1) (pick_rds r2))]; exact q2.1, ds ++ pick idx es, al2, S2, kd, xd, f2.rs, RDs.append (f2.rds r1) (pick_rds r2), q2.2, up.mono (f1.trans f2), ux.mono (f1.trans f2)⟩
theorem w_callK0 (F : FnOk X.prog X.w X.K X.mg X.base (L2.CX X.prog X.w) k f fd ps (LP X.K X.mg ps.length sp)) (hr : Room k X.A) (hg : Gl X x) (hm : X.mg x = some (.ref f)) (hk : PySem.W.keepIn X.K (.ref f) = true) (hb : KB X.K fd ps 0 ks idx) (tk' : Takes X W)
    (hkw : ∀ E : XK, QK X E kws tk) (hall : (backToKw pos (keywordEach kws X.env)).all (·.1.isSome) = true := by rfl) (hks : (backToKw pos (keywordEach kws X.env)).filterMap (·.1) = ks := by rfl) (hdb : (x == ("__debug__" : Str)) = false := by decide) (hpl : ((backTo pos (starEach [] X.env)).any (·.1) || (backToKw pos (keywordEach kws X.env)).any (·.1.isNone)) = false := by rfl) :
    QEw X W (.Call (.Name x p) [] kws pos) (dCallK (spN ps.length sp) 0 ks.length idx dNil tk) := by
  constructor
  rintro pins s σ H Q I ⟨sg, al, S, kd, xd, rs, rl, q, up, ux⟩
  refine wpAny_Call_Name_kw <| ld_glob I hg hm (PySem.W.callWith_KW0 (h₀ := X.base) I.ok.mod.kin hk hall ?_ hpl) hdb
  refine thn ((hkw (WE W σ)).run pos pins s σ H (fun zs H2 => ∃ es al2 S2, Fut X.K H al H2 al2 S2 ∧ RDs X.K H2 al2 es zs ∧ kCK2 (spN ps.length sp) 0 ks.length idx kd xd [] es S2) I
    ⟨sg, al, S, _, xd, rs, rl, q, fun es S2 al2 H2 vs f2 r2 q2 => ⟨es, al2, S2, f2, r2, q2⟩, ux⟩) fun ws s2 ⟨zs, H2, I2, rz, es, al2, S2, f2, r2, l1, l2, q2⟩ => ⟨I2.kIn, ?_⟩
  rw [hks]
  exact runKw F hr hb tk' I2 (vs := []) .nil rz rfl (by rw [RDs.length r2]; exact l2)
    ⟨by have := RDs.length (pick_rds (idx := idx) r2); rw [List.nil_append, this]; exact q2.1, [] ++ pick idx es, al2, S2, kd, xd, f2.rs, pick_rds r2, q2.2, up.mono f2, ux.mono f2⟩
variable {t u : TSD} {st : Stmt} {sa sb : List Stmt}
theorem w_expr (he : QEw X W e te) (hs : swapsWith e none pos.line X.env = pure false := by rfl) : QSw X W (.Expr e pos) (dDrop te) :=
  ps_imp (ps_expr he hs) fun De s H ⟨sg, al, S, Dd, rs, rl, q, ue⟩ => ⟨sg, al, S, kDrop Dd sg, Dd.ex, rs, rl, q, fun d S1 al1 H1 v f1 r1 q1 => ue.nx sg S1 al1 H1 s f1 (f1.rsl rl) q1, ue.ex⟩
theorem w_ret (he : QEw X W e te) : QSw X W (.Return (some e) pos) (dRet te) :=
  ps_imp (ps_ret he) fun De s H ⟨sg, al, S, Dd, rs, rl, q, ue⟩ => ⟨sg, al, S, Dd.rt, Dd.ex, rs, rl, q, ue.rt, ue.ex⟩
theorem w_if {c : Expr} {tc : TTD} (hc : QTw X W c tc) (ha : QSsw X W sa t) (hb : QSsw X W sb u) : QSw X W (.If c sa sb pos) (dIf tc t u) :=
  ps_imp (ps_if hc ha hb) fun De s H ⟨sg, al, S, Dd, rs, rl, q, ue⟩ => ⟨sg, al, S, kIf t u Dd sg, Dd.ex, rs, rl, q, fun c S1 al1 H1 f1 q1 =>
    ite_of ⟨fun e => ⟨sg, al1, S1, Dd, f1.rs, f1.rsl rl, q1.1 e, ue.mono f1⟩, fun e => ⟨sg, al1, S1, Dd, f1.rs, f1.rsl rl, q1.2 e, ue.mono f1⟩⟩, ue.ex⟩
theorem w_set {i : Nat} {x : Str} {pos' : Pos} (hN : X.N.Nodup) (he : QEw X W e te) (hi : X.N[i]? = some x := by rfl) (hx : Loc X.env.scope x := by first | exact Or.inl rfl | exact Or.inr rfl) (hs : swapsWith e (some (.Name x pos')) pos.line X.env = pure false := by rfl)
    (hf : X.fn x = true ∨ X.env.scope.names.lookup x = some .local := by first | exact .inl rfl | exact .inr rfl) : QSw X W (.Assign [.Name x pos'] e pos) (dSet i te) :=
  ps_imp (ps_set hN hi hx he hs hf) fun De s H ⟨sg, al, S, Dd, rs, rl, q, ue⟩ => ⟨sg, al, S, kSet i Dd sg, Dd.ex, rs, rl, q, fun d S1 al1 H1 v f1 r1 q1 => ue.nx _ S1 al1 H1 _ f1 (rsl_set (f1.rsl rl) r1 i) q1, ue.ex⟩
theorem w_one (h : QSw X W st t) : QSsw X W [st] t := pss_one h
theorem w_snil : QSsw X W [] dNext := pss_imp pss_nil fun De s H ⟨sg, al, S, Dd, rs, rl, q, ue⟩ => ue.nx sg S al H s (.now rs) rl q
theorem w_raise {x : Str} {ta : TAD} {p1 p2 : Pos} {fd : FuncData} (hc : X.calm = true) (I : IniT X.prog X.w X.K X.mg X.base fd) (hr : Room 2 X.A) (tk : Takes X W) (hx : exB X.K x = true) (hm : X.mg x = some (.ref (He.ga X.K x)))
    (ha : ∀ E : XK, QA X E (e :: es) ta) (hg : Gl X x := by rfl) (hdb : (x == ("__debug__" : Str)) = false := by decide) (he : starEach (e :: es) X.env = (false, eval e X.env) :: starEach es X.env := by rfl) (hpl : (backTo p2 (starEach es X.env)).any (·.1) = false := by rfl) :
    QSw X W (.Raise (some (.Call (.Name x p1) (e :: es) [] p2)) none pos) (dRaise x ta) := by
  have C := exB_ok hx
  refine ps_imp (ps_raise hc tk (pmk_oex (dvs := []) C.oex C.ini C.tyI I.ok hr I.hb .nil passL hg hm (w_a (W := W) ha) hdb he hpl)) fun De σ H ⟨sg, al, S, Dd, rs, rl, q, ue⟩ => ?_
  refine ⟨sg, al, S, kRaise x Dd, Dd.ex, rs, rl, q, fun ds S1 al1 H1 vs f1 r1 q1 => ?_, ue.ex⟩
  unfold kRaise at q1
  split at q1
  · rename_i d
    obtain ⟨v, u, ev, rv, eu⟩ := r1
    cases (show u = [] from eu)
    subst ev
    refine ⟨by show 1 ≤ 1000; decide, fun a na => ⟨a, He.ga X.K x, v, by simp, C.oex, C.val, upd_same, fun dx nd ne => ⟨rfl, dx, [("value", v)], upd_same, by rw [upd_ne ne, upd_same], by rwa [upd_ne ne] at nd, ?_⟩⟩⟩
    rw [upd_del2 na ne]
    have nd1 : H1 dx = none := by rwa [upd_ne ne] at nd
    have f2 : Fut X.K H1 al1 (upd H1 dx (.xd [("value", v)])) al1 S1 := Fut.lay f1.rs nd1
    exact ue.ex (x, d) S1 al1 _ _ _ (f1.trans f2) ⟨hx, dx, v, rfl, rfl, upd_same, f2.rd rv⟩ q1
  · exact q1.elim
end
/-! ### try -/
structure HdD where
  y : Str
  i : Option Nat
  t : TSD
def clrD (i : Option Nat) (sg : Sl) : Sl := match i with
  | some j => sg.set j none
  | none => sg
def putD' (i : Option Nat) (d : D) (sg : Sl) : Sl := match i with
  | some j => sg.set j (some d)
  | none => sg
def clrM (i : Option Nat) (M : EndsD) : EndsD := ⟨fun sg S => M.nx (clrD i sg) S, M.rt, fun sg S => M.bk (clrD i sg) S, fun sg S => M.ct (clrD i sg) S, XF⟩
def wTry (M : EndsD) (sg : Sl) : List HdD → XD
  | [] => M.ex
  | h :: r => fun ex S => (exSub ex.1 h.y = true → h.t (clrM h.i M) (putD' h.i (.ref S.length) sg) (S ++ [.exo ex.1 ex.2])) ∧ (exSub ex.1 h.y = false → wTry M sg r ex S)
def dTry (t : TSD) (hs : List HdD) : TSD := fun M sg S => t { M with ex := wTry M sg hs } sg S
theorem rsl_clr {K : PySem.W.Frag} {H : Hp} {al : List Addr} {sg : Sl} {sv : L2.St} (r : RSl K H al sg sv) (i : Option Nat) : RSl K H al (clrD i sg) (clr i sv) := by
  cases i with
  | none => exact r
  | some j =>
    refine ⟨by simp [clrD, clr, r.len], fun k d q => ?_⟩
    by_cases e : j = k
    · subst e
      unfold clrD at q
      rw [List.getElem?_set] at q
      simp at q
    · unfold clrD at q
      dsimp only at q
      rw [List.getElem?_set_ne e] at q
      obtain ⟨v, h1, h2⟩ := r.at_ k d q
      refine ⟨v, ?_, h2⟩
      unfold clr
      dsimp only
      rw [List.getElem?_set_ne e]
      exact h1
theorem rsl_put {K : PySem.W.Frag} {H : Hp} {al : List Addr} {sg : Sl} {sv : L2.St} {d : D} {a : Addr} (r : RSl K H al sg sv) (h : RD K H al d (.ref a)) (i : Option Nat) : RSl K H al (putD' i d sg) (put i a sv) := by
  cases i with
  | none => exact r
  | some j => exact rsl_set r h j
inductive HdsQ (X : Cx) : List ExceptHandler → List HdD → Prop
  | nil : HdsQ X [] []
  | cons {h : HdD} {nm : Option Str} {st0 : Stmt} {sts : List Stmt} {p1 p2 : Pos} {hds : List ExceptHandler} {l : List HdD} (hg : Gl X h.y) (hdb : (h.y == ("__debug__" : Str)) = false) (hm : X.mg h.y = some (.ref (He.ga X.K h.y))) (hx : exB X.K h.y = true) (hn : h.y ∈ exNs)
      (hi : (nm = none ∧ h.i = none) ∨ ∃ n j, nm = some n ∧ h.i = some j ∧ X.N[j]? = some n ∧ X.env.kindOf n = some .local)
      (hsu : ∀ (a : Addr) (pn : List (Addr × Obj)), QSs (suiteX X a pn) E0 (st0 :: sts) h.t) (r : HdsQ X hds l) : HdsQ X (.ExceptHandler (some (.Name h.y p1)) nm (st0 :: sts) p2 :: hds) (h :: l)
def hdT (X : Cx) (h : HdD) : HdT := ⟨.ref (He.ga X.K h.y), h.i, fun a cls d De σ H => LS ⟨X.K, X.mg, E0⟩ h.t De σ H⟩
theorem hds_of {X : Cx} {hds : List ExceptHandler} {l : List HdD} (h : HdsQ X hds l) : HdsA X hds (l.map (hdT X)) := by
  induction h with
  | nil => exact .nil
  | cons hg hdb hm hx hn hi hsu r ih => exact .cons (h := hdT X _) ⟨hg, hdb, .inl hm⟩ hi (fun a cls d pn => hsu a pn) ih
theorem hds_sub {X : Cx} {E : XK} {Dd : EndsD} {De : Ends} {sg : Sl} {σ : L2.St} {H0 : Hp} {al0 : List Addr} (ue : UpE (cy X E) H0 al0 Dd De) (rl : RSl X.K H0 al0 sg σ) {hds : List ExceptHandler} {l : List HdD} (h : HdsQ X hds l) :
    ∀ (ex : ExD) (S : Sto) (al : List Addr) (H : Hp) (cls : Value) (d : Option Addr), Fut X.K H0 al0 H al S → ExAt (cy X E) H al ex cls d → wTry Dd sg l ex S → wHd X.K (fun c d _ H => E c d H) De (l.map (hdT X)) cls d σ H := by
  induction h with
  | nil => exact fun ex S al H cls d f xa w => ue.ex ex S al H cls d f xa w
  | @cons h nm st0 sts p1 p2 hds l hg hdb hm hx hn hi hsu r ih =>
    intro ex S al H cls d f xa w
    obtain ⟨xb, dx, v, rfl, rfl, e1, rv⟩ := id xa
    refine ⟨exSub ex.1 h.y, (exB_ok xb).sub _ hn _ (exB_ok hx).ns, fun hb a na => ?_, fun hb => ih ex S al H _ _ f xa (w.2 hb)⟩
    have ne : dx ≠ a := fun z => by
      rw [z, na] at e1
      cases e1
    have f2 : Fut X.K H al (upd H a (ExV (.ref (He.ga X.K ex.1)) (some dx) a)) (al ++ [a]) (S ++ [.exo ex.1 ex.2]) := Fut.push f.rs na ⟨xb, dx, v, upd_same, by rw [upd_ne ne]; exact e1, RD.mono (Keep.laid na) _ _ rv⟩
    refine ⟨_, al ++ [a], _, _, f2.rs, rsl_put ((f.trans f2).rsl rl) (ref_new f.rs _) h.i, w.1 hb, ?_⟩
    have u2 := ue.mono (f.trans f2)
    exact ⟨fun sg' S' al' H' sv' f' r' q => u2.nx _ S' al' H' _ f' (rsl_clr r' h.i) q, u2.rt, fun sg' S' al' H' sv' f' r' q => u2.bk _ S' al' H' _ f' (rsl_clr r' h.i) q, fun sg' S' al' H' sv' f' r' q => u2.ct _ S' al' H' _ f' (rsl_clr r' h.i) q, fun ex' S' al' H' c d f' r' q => q.elim⟩
theorem q_try {X : Cx} {E : XK} {body : List Stmt} {hd0 : ExceptHandler} {hds : List ExceptHandler} {pos : Pos} {t : TSD} {l : List HdD} (hs : X.stack = X.env :: X.outer) (hf : X.env.frame = some X.env.locals) (hex : X.ex = []) (hN : X.N.Nodup) (tk : Takes X (fun c d _ H => E c d H))
    (hb : ∀ (W : WX) (pn : List (Addr × Obj)) (xe : Value → Shared → Prop), Takes (X.tr pn xe) W → QSsw (X.tr pn xe) W body t) (hh : HdsQ X (hd0 :: hds) l) : QS X E (.Try body (hd0 :: hds) [] [] pos) (dTry t l) :=
  ps_imp (ps_tryA (tb := fun W De σ H => LS ⟨X.K, X.mg, fun c d H => W c d σ H⟩ t De σ H) hs hf hex hN tk (fun W pn xe ht _ => hb W pn xe ht) (hds_of hh)) fun De σ H ⟨sg, al, S, Dd, rs, rl, q, ue⟩ =>
    ⟨sg, al, S, { Dd with ex := wTry Dd sg l }, rs, rl, q, ⟨ue.nx, ue.rt, ue.bk, ue.ct, fun ex S' al' H' cls d f xa w => hds_sub ue rl hh ex S' al' H' cls d f xa w⟩⟩
/-! ### e.value -/
def kXv (k : KD) : KD := fun d S => match d with
  | .ref n => ∃ x v, S[n]? = some (.exo x v) ∧ k v S
  | _ => False
def dXv (te : TED) : TED := fun sg S k x => te sg S (kXv k) x
theorem q_xv {X : Cx} {E : XK} {e : Expr} {te : TED} {pos : Pos} (he : QE X E e te) (hb : attributeBase e "value" X.env (eval e X.env) = eval e X.env := by rfl) : QE X E (.Attribute e "value" pos) (dXv te) :=
  pe_imp (pe_xv he hb) fun σ H Q ⟨sg, al, S, kd, xd, rs, rl, q, up, ux⟩ => ⟨sg, al, S, kXv kd, xd, rs, rl, q, fun d S1 al1 H1 v f1 r1 q1 => by
    unfold kXv at q1
    split at q1
    · obtain ⟨x, y, hS, q1⟩ := q1
      obtain ⟨a, rfl, ha⟩ := r1
      obtain ⟨xb, dx, v, e1, e2, rv⟩ := f1.rs.ob _ _ a hS ha
      exact ⟨a, _, dx, _, v, rfl, e1, (exB_ok xb).xf, (exB_ok xb).val, e2, rfl, up.mono f1 y S1 al1 H1 v (.now f1.rs) rv q1⟩
    · exact q1.elim, ux⟩
end Q
namespace Q
open PySem
open Spec PyProof.Rows L2

/-! ### the hook with checks of one's own -/
abbrev Chk : Type := PySem.W.Frag → Bool
def veC : Chk := fun K => match PySem.W.findCls K (.type "ValueError") (.type "type") "__init__" with
  | some (.val (.builtin n)) => n == "ValueError.__init__"
  | _ => false
theorem veC_ok {K : PySem.W.Frag} (h : veC K = true) : PySem.W.findCls K (.type "ValueError") (.type "type") "__init__" = some (.val (.builtin "ValueError.__init__")) := by
  unfold veC at h
  split at h
  · rename_i n e
    rw [e, eq_of_beq h]
  · cases h
abbrev AlC : Type := Bool × AlB
def obsC (cs : List Chk) (bf : List (Str × Value)) (fa : List He.Fa) (fn : List He.DefD) (K : PySem.W.Frag) : AlC := (cs.all fun c => c K, obsB bf fa fn K)
def SaysC (cs : List Chk) (bf : List (Str × Value)) (fa : List He.Fa) (fn : List He.DefD) (K : PySem.W.Frag) : Prop := (cs.all fun c => c K) = true ∧ SaysB bf fa fn K
def obsCG (n : Nat) (cs : List Chk) (bf : List (Str × Value)) (fa : List He.Fa) (fn : List He.DefD) (g : Addr → Option Obj) : AlC := obsC cs bf fa fn (He.frG g (He.asD g n))
def hookC (n : Nat) (cs : List Chk) (bf : List (Str × Value)) (fa : List He.Fa) (fn : List He.DefD) : PySem.W.Hook where
  α := AlC
  obs s := obsCG n cs bf fa fn s.heap.get?
  val _ := (true, true, He.valD fn)
  says _ h := ∃ K : PySem.W.Frag, K.In h ∧ SaysC cs bf fa fn K
  of _ _ e := ⟨_, He.frG_in, congrArg (fun z : AlC => z.1) e, congrArg (fun z : AlC => z.2.1) e, congrArg (fun z : AlC => z.2.2) e⟩
  keeps _ _ _ := fun ⟨K, hK, c⟩ k => ⟨K, PySem.W.Frag.In.keeps hK k, c⟩
theorem obsCG_eq {n : Nat} {cs : List Chk} {bf : List (Str × Value)} {fa : List He.Fa} {fn : List He.DefD} {g : Addr → Option Obj} {s : Shared} (h : ∀ a, g a = s.heap.get? a) : obsCG n cs bf fa fn g = (hookC n cs bf fa fn).obs s :=
  (congrArg (obsCG n cs bf fa fn) (funext h : g = s.heap.get?)).trans rfl
theorem SaysC.chk {cs : List Chk} {bf : List (Str × Value)} {fa : List He.Fa} {fn : List He.DefD} {K : PySem.W.Frag} (c : SaysC cs bf fa fn K) (i : Nat) {p : Chk} (h : cs[i]? = some p := by rfl) : p K = true := List.all_eq_true.mp c.1 p (List.mem_of_getElem? h)
/-- a class's own def -/
def clsDef (i : Nat) : Stmt → Stmt
  | .ClassDef _ _ _ body .. => body.getD i (.Pass ⟨0, 0, 0, 0⟩)
  | s => s
end Q
namespace Q
open PySem
open Spec PyProof.Rows L2

/-! ### len(set(xs)) of any ints -/
section
variable {X : Cx} {E : XK}
def tLenSet (K : PySem.W.Frag) (ta : TE) : TE := fun σ H Q => ta σ H fun x H1 => ∃ (l : Addr) (ns : List Int), x = .ref l ∧ (SqL K H1 l (ns.map V.int) ∨ SqT K H1 l (ns.map V.int)) ∧ ns.length < 1000 ∧ ∀ ms : List Int, ms.Nodup → (∀ i, i ∈ ms ↔ i ∈ ns) → Q (.int ms.length) H1
theorem pe_lenSet {a : Expr} {ta : TE} {p p2 q pos : Pos} (hc : X.calm = true) (hg : Gl X "len") (hm : X.mg "len" = none) (hg2 : Gl X "set") (hm2 : X.mg "set" = none) (ha : PE X a ta)
    (na : starEach [a] X.env = (false, eval a X.env) :: starEach [] X.env := by rfl) : PE X (.Call (.Name "len" p) [.Call (.Name "set" p2) [a] [] q] [] pos) (tLenSet X.K ta) := by
  refine ⟨fun pins s σ H Q I h => Call_ (ld_blt I hg hm boot_len (PyProof.Rows.callWith_builtin1 (PyProof.Rows.args_cons (Call_ (ld_blt I hg2 hm2 boot_set ?_)) rfl) rfl rfl))⟩
  refine PyProof.Rows.callWith_type1 (PyProof.Rows.args_cons (thn (ha.run pins s σ H _ I h) fun v s1 ⟨x, H1, I1, r1, l, ns, ex, hq, h1k, q1⟩ => PyProof.Rows.args_nil ?_) na) na rfl
  subst ex
  cases r1
  have hh := I1.ok.hd hc
  have fin : ∀ (g : Heap) (tk c : Nat), SetR X.w g s1.heap.objs.size (fun j => decide (j ∈ ns)) c → c ≤ ns.length → (∀ b o, s1.heap.get? b = some o → g.get? b = some o) →
      wpAny (model X.prog X.w) X.A (spliced (backTo pos (starEach [] X.env))) (fun vs s₂ => wpAny (model X.prog X.w) X.A (call (.builtin "len") (Value.ref s1.heap.objs.size :: vs)) (EP X pins σ Q) X.xe s₂) X.xe { s1 with heap := g, toks := tk } := fun g tk c R hcn kp => by
    refine PyProof.Rows.args_nil ?_
    have I2 : Inv X pins σ H1 { s1 with heap := g, toks := tk } := I1.kept fun b o e => kp b o e
    obtain ⟨o, es, ep, t, ho, hex, hd, _, nd, hmem, _, hf, hn, _, _⟩ := R
    have q2 := q1 (es.toList.map keyOf) nd fun i => (hmem i).symm.trans decide_eq_true_iff
    rw [List.length_map, Array.length_toList] at q2
    exact call_len_set ho hex hd hf (by omega) ⟨.int es.size, H1, I2.tok _, ⟨_, rfl⟩, q2⟩
  rcases hq with hq | hq
  · obtain ⟨us, rv, pl, _⟩ := I1.list hq
    exact set_of_list ns hh pl.isList (by simpa using ints_of_vals rv) (by unfold scanBound; omega) fin
  · obtain ⟨us, rv, pl, _⟩ := I1.tuple hq
    exact call_set_tupI ns hh (show s1.heap.IsTuple l us.toArray from pl) (by simpa using ints_of_vals rv) (by unfold scanBound; omega) fin
def kLenSet (k : KD) : KD := fun d S => match d with
  | .ref n => ∃ ns : List Int, isL S n (ns.map D.int) ∧ ns.length < 1000 ∧ ∀ ms : List Int, ms.Nodup → (∀ i, i ∈ ms ↔ i ∈ ns) → k (.int ms.length) S
  | .tup ds => ∃ ns : List Int, ds = ns.map D.int ∧ ns.length < 1000 ∧ ∀ ms : List Int, ms.Nodup → (∀ i, i ∈ ms ↔ i ∈ ns) → k (.int ms.length) S
  | _ => False
def dLenSet (te : TED) : TED := fun sg S k x => te sg S (kLenSet k) x
theorem q_lenSet {a : Expr} {te : TED} {p p2 q pos : Pos} (hc : X.calm = true) (hm : X.mg "len" = none) (hm2 : X.mg "set" = none) (ha : QE X E a te) (hg : Gl X "len" := by rfl) (hg2 : Gl X "set" := by rfl)
    (na : starEach [a] X.env = (false, eval a X.env) :: starEach [] X.env := by rfl) : QE X E (.Call (.Name "len" p) [.Call (.Name "set" p2) [a] [] q] [] pos) (dLenSet te) :=
  pe_imp (pe_lenSet hc hg hm hg2 hm2 ha na) fun s H Q ⟨sg, al, S, kd, xd, rs, rl, q, up, ux⟩ => ⟨sg, al, S, kLenSet kd, xd, rs, rl, q, fun d S1 al1 H1 v f1 r1 q1 => by
    unfold kLenSet at q1
    split at q1
    · obtain ⟨ns, hl, hz, q1⟩ := q1
      obtain ⟨l, us, e2, _, h1, rv⟩ := isL_at f1.rs hl r1
      rw [rd_ints rv] at h1
      exact ⟨l, ns, e2, .inl h1, hz, fun ms h2 h3 => up_at (up.mono f1) f1.rs (d := .int ms.length) rfl (q1 ms h2 h3)⟩
    · obtain ⟨ns, e, hz, q1⟩ := q1
      subst e
      obtain ⟨l, us, e2, h1, rv⟩ := r1
      rw [rd_ints rv] at h1
      exact ⟨l, ns, e2, .inr h1, hz, fun ms h2 h3 => up_at (up.mono f1) f1.rs (d := .int ms.length) rfl (q1 ms h2 h3)⟩
    · exact q1.elim, ux⟩
end
/-! ### a comprehension whose test and element may change the store -/
theorem lc_indT {it : ItD} {i : Nat} {tt : TTD} {te : TED} {sg : Sl} {k : KD} {S : Sto} (I : List D → List D → Sto → Prop) (h0 : I it.items [] (S ++ [.lst []])) (hend : ∀ acc T, I [] acc T → it.grd T ∧ k (.ref S.length) T)
    (hs : ∀ d r acc T (kk : KD) (nx : Sto → Prop), I (d :: r) acc T → (∀ y T2, T2[S.length]? = some (.lst acc) → acc.length < sizeLine → I r (acc ++ [y]) (T2.set S.length (.lst (acc ++ [y]))) → kk y T2) → (∀ T2, I r acc T2 → nx T2) →
      it.grd T ∧ tt (sg.set i (some d)) T (fun b T2 => (b = true → te (sg.set i (some d)) T2 kk XF) ∧ (b = false → nx T2)) XF) : kLc (gNm i) tt te sg k it S := by
  have go : ∀ (items acc : List D) (T : Sto), I items acc T → wLc it.grd (gNm i) tt te sg S.length (fun S' => k (.ref S.length) S') items T := by
    intro items
    induction items with
    | nil => exact fun acc T h => hend acc T h
    | cons d r ih =>
      intro acc T h
      have q := hs d r acc T (kLc3 S.length (wLc it.grd (gNm i) tt te sg S.length (fun S' => k (.ref S.length) S') r)) (wLc it.grd (gNm i) tt te sg S.length (fun S' => k (.ref S.length) S') r) h (fun y T2 h1 h2 h3 => ⟨acc, h1, h2, ih _ _ h3⟩) fun T2 h1 => ih _ _ h1
      exact ⟨q.1, q.2⟩
  exact go _ _ _ h0
end Q
namespace Q
open PySem
open Spec PyProof.Rows L2

/-! ### xs.index(i) of a list of ints -/
section
variable {X : Cx} {E : XK}
def rIdx : RMD := fun d ds S k _ => match d, ds with
  | .ref n, [.int i] => ∃ (ns : List Int) (j : Nat), isL S n (ns.map D.int) ∧ ns[j]? = some i ∧ (∀ m : Nat, m < j → ns[m]? ≠ some i) ∧ k (.int j) S
  | _, _ => False
theorem m_idx : MtR X "list.index" (LLm (cy X E) rIdx) := by
  intro pins s σ H x xs v us Q I rx rv ⟨d, ds, al, S, kd, xd, rs, rd, rds, q, up, ux⟩
  unfold rIdx at q
  split at q
  · rename_i n i
    obtain ⟨ns, j, hl, hj, hno, q⟩ := q
    obtain ⟨a, us', e1, ha, hH, r1⟩ := isL_at rs hl rd
    obtain ⟨y, e2, ry⟩ := rds1 rds
    cases (show y = _ from ry)
    rw [rd_ints r1] at hH
    refine mt_index pins s σ H x xs v us Q I rx rv ⟨a, ns.map V.int, .int i, j, .int i, e1, e2, hH, rfl, ?_, by rw [List.getElem?_map, hj]; rfl, ?_, fun m z' hm hz' => ?_, up_at up rs (d := .int j) rfl q⟩
    · rw [List.all_map]
      exact List.all_eq_true.mpr fun _ _ => rfl
    · exact decide_eq_true rfl
    · rw [List.getElem?_map] at hz'
      cases h : ns[m]? with
      | none => rw [h] at hz'; cases hz'
      | some u =>
        rw [h] at hz'
        cases hz'
        exact decide_eq_false fun e => hno m hm (by rw [h, e])
  · exact q.elim
/-- a chain of two comparisons as a test -/
theorem q_tchain {op op' : CmpOp} {r r' : R2D} {a b c : Expr} {ta tb tc : TED} {pos : Pos} (ho : OpR X (compareOp op) (LL2 (cy X E) r)) (ho' : OpR X (compareOp op') (LL2 (cy X E) r')) (ha : QE X E a ta) (hb : QE X E b tb) (hc : QE X E c tc)
    (hm : lastMarks [op, op'] [b, c] = false := by with_unfolding_all rfl) : QT X E (.Compare a [op, op'] [b, c] pos) (dTst (dChain r r' ta tb tc)) :=
  pt_imp (pt_chain ho ho' ha hb hc hm) fun _ _ _ q => chain_red (le_tst q)
end
end Q
namespace Q
open PySem
open Spec PyProof.Rows L2
/-- a comprehension whose parts lay new objects behind the list -/
theorem lc_appG {it : ItD} {g : TGD} {tt : TTD} {te : TED} {sg : Sl} {k : KD} {S : Sto} (st : D → Sl) (p : D → Bool) (f : D → D)
    (hs : ∀ d ∈ it.items, ∀ (T : Sto) (K : Sl → Sto → Prop), K (st d) T → g d sg T K XF)
    (ht : ∀ d ∈ it.items, ∀ (acc : List D) (G : Sto) (kk : Bool → Sto → Prop), (∀ G', kk (p d) (S ++ .lst acc :: G')) → tt (st d) (S ++ .lst acc :: G) kk XF)
    (he : ∀ d ∈ it.items, p d = true → ∀ (acc : List D) (G : Sto) (kk : KD), (∀ G', kk (f d) (S ++ .lst acc :: G')) → te (st d) (S ++ .lst acc :: G) kk XF) (hg : ∀ acc G, it.grd (S ++ .lst acc :: G)) (hl : it.items.length ≤ sizeLine)
    (hk : ∀ G, k (.ref S.length) (S ++ .lst ((it.items.filter p).map f) :: G)) : kLc g tt te sg k it S := by
  have go : ∀ (rest acc : List D) (G : Sto), (∀ d ∈ rest, d ∈ it.items) → acc.length + rest.length ≤ sizeLine → (∀ G, k (.ref S.length) (S ++ .lst (acc ++ (rest.filter p).map f) :: G)) →
      wLc it.grd g tt te sg S.length (fun S' => k (.ref S.length) S') rest (S ++ .lst acc :: G) := by
    intro rest
    induction rest with
    | nil => exact fun acc G _ _ h => ⟨hg acc G, by simpa using h G⟩
    | cons d r ih =>
      intro acc G hm hz h
      rw [List.length_cons] at hz
      have hd := hm d List.mem_cons_self
      have hr : ∀ e ∈ r, e ∈ it.items := fun e he => hm e (List.mem_cons_of_mem _ he)
      refine ⟨hg acc G, hs d hd _ _ (ht d hd acc G _ fun G1 => ⟨fun hp => he d hd hp acc G1 _ fun G2 => ?_, fun hp => ?_⟩)⟩
      · refine ⟨acc, by simp, by omega, ?_⟩
        rw [set_at0]
        refine ih (acc ++ [f d]) G2 hr (by rw [List.length_append, List.length_singleton]; omega) fun G => ?_
        have := h G
        rw [List.filter_cons_of_pos hp, List.map_cons] at this
        rw [List.append_assoc]
        exact this
      · refine ih acc G1 hr (by omega) fun G => ?_
        have := h G
        rwa [List.filter_cons_of_neg (by rw [hp]; decide)] at this
  unfold kLc
  refine go it.items [] [] (fun d hd => hd) (by simpa using hl) fun G => ?_
  rw [List.nil_append]
  exact hk G
/-- .. of a name, with a test -/
theorem lc_appF {it : ItD} {i : Nat} {tt : TTD} {te : TED} {sg : Sl} {k : KD} {S : Sto} (p : D → Bool) (f : D → D)
    (ht : ∀ d ∈ it.items, ∀ (acc : List D) (G : Sto) (kk : Bool → Sto → Prop), (∀ G', kk (p d) (S ++ .lst acc :: G')) → tt (sg.set i (some d)) (S ++ .lst acc :: G) kk XF)
    (he : ∀ d ∈ it.items, p d = true → ∀ (acc : List D) (G : Sto) (kk : KD), (∀ G', kk (f d) (S ++ .lst acc :: G')) → te (sg.set i (some d)) (S ++ .lst acc :: G) kk XF) (hg : ∀ acc G, it.grd (S ++ .lst acc :: G)) (hl : it.items.length ≤ sizeLine)
    (hk : ∀ G, k (.ref S.length) (S ++ .lst ((it.items.filter p).map f) :: G)) : kLc (gNm i) tt te sg k it S :=
  lc_appG (fun d => sg.set i (some d)) p f (fun d hd T K hK => hK) ht he hg hl hk
/-- .. with none -/
theorem lc_appM {it : ItD} {i : Nat} {te : TED} {sg : Sl} {k : KD} {S : Sto} (f : D → D)
    (he : ∀ d ∈ it.items, ∀ (acc : List D) (G : Sto) (kk : KD), (∀ G', kk (f d) (S ++ .lst acc :: G')) → te (sg.set i (some d)) (S ++ .lst acc :: G) kk XF) (hg : ∀ acc G, it.grd (S ++ .lst acc :: G)) (hl : it.items.length ≤ sizeLine)
    (hk : ∀ G, k (.ref S.length) (S ++ .lst (it.items.map f) :: G)) : kLc (gNm i) dYes te sg k it S := by
  refine lc_appF (fun _ => true) f (fun d hd acc G kk h => h G) (fun d hd _ acc G kk h => he d hd acc G kk h) hg hl fun G => ?_
  rw [List.filter_eq_self.mpr (fun _ _ => rfl)]
  exact hk G
theorem lget_two {A G H : Sto} {o : O} {ds : List D} {n : Nat} (h : A.length + (G.length + 1) = n) : lget (A ++ o :: (G ++ .lst ds :: H)) n = some ds := by
  subst h
  rw [lget_at, lget_tl]
  exact lget_at0
theorem lget_in {A G H : Sto} {ds : List D} {n : Nat} (h : A.length + G.length = n) : lget (A ++ (G ++ .lst ds :: H)) n = some ds := by
  subst h
  rw [lget_at]
  exact lget_at0
end Q
open Q
local macro_rules | `(tactic| walk_at "dx") => `(tactic| try simp only [dSeq, dDrop, kDrop, dRet, dRetN, dIf, kIf, dNever, dNext, dBreak, dCont, dSet, kSet, dPar, kPar, dPar3, kPar3, dAug, kAug, dAsg, kAsg, gNm, gsNil, gsCons, gTp, gUl, gSb, kGs1, kGs2, rSet, dFor, kFor, dLc, dYes, wipeD, dRaise, kRaise, dTry, wTry, clrM, clrD, putD', dXv, kXv,
  dC, dVar, dUn, dOp, kOp1, kOp2, dTst, kB, dAnd, kAnd, dOr, kOr, dNot, kNot, dAndV, kAndV, dOrV, kOrV, dNotV, kNotV, dIfE, kIfE, dNil, dCons, kCons1, kCons2, dTup, kTup, dLst, kLst, dCall, kCall, spN, dCallK, kCK1, kCK2, pick, dMet, kM1, kM2, isLst, rApp, dSl, kSl1, kSl2, kSl3, rSl, dNoP, dPart, kPart,
  rAdd, rSub, rMul, rMulT, rInP, rFdiv, rMod, rPow, rShl, rShr, rAnd, rXor, rNeg, rEq, rNe, rLt, rLe, rGt, rGe, rIs, rIsNot, isNon, rIx, rIsi, rIsi2, isTy, spLen, spInt, spTuple, spAll, spAny, spMax, spMin, spAbs, spList, rIn, rNotIn, rIns, dRevL, kRev, dBack, kBack, dLc2, iEn, kEn, dSrtSet, kSrtSet, dChain, kCh1, kCh2, kCh3, iZp, kZp, dLenNew, dLenSet, kLenSet, kLenNew, dDicE, isDic, rDset, dDget, kDg1, kDg2, dDget2, kDh1, kDh2, kDh3, rDget, gDb, kGd1, kGd2, dStp, kSt0, kSt1, kSt2, spSumB, rDin, dBits, kBits, rDnin, spLenD, dAugS, kAs1, kAs2, kAs3, kAs4, rRem, rIdx, spStr, dJoin, kJoin1, kJoin2, rPop1, rPop0, rRev, dDc, dTupRg, kTupRg, dLstRg, kLstRg, iSq, iRg1, kRg1, iRg2, kRg2, rIAdd, endsD,
  isL_iff, atI0, atI1, atI2, get_at0, get_at, List.set_set, List.length_set, lget_at0, lget_at, lget_hd, lget_tl, set_at0, set_at, app1, List.nil_append, List.cons_append, List.length_cons, List.length_nil, List.length_append,
  List.getElem?_cons_zero, List.getElem?_cons_succ, List.set_cons_zero, List.set_cons_succ, List.getElem?_nil, List.filterMap_cons, List.filterMap_nil, List.append_nil,
  Option.some.injEq, O.lst.injEq, exists_eq_left', exists_eq_left, exists_eq', List.cons.injEq, D.int.injEq, D.bl.injEq, D.tup.injEq, D.ref.injEq, D.str.injEq, Int.natCast_inj, true_and, and_true, and_self, Nat.reduceAdd, Nat.zero_add, Bool.not_true, Bool.not_false, reduceCtorEq, forall_const, imp_self, not_true_eq_false, not_false_eq_true, false_implies, true_implies, implies_true, Bool.true_eq_false, Bool.false_eq_true, Bool.true_or, Bool.or_true, Bool.false_or, Bool.or_false, Bool.and_true, Bool.true_and, decide_eq_true_eq, decide_eq_false_iff_not, Bool.not_eq_true', Bool.not_eq_false', decide_true, decide_false, or_false, false_or, exists_false, exists_and_left, and_assoc])
local macro_rules | `(tactic| walk_at "dz") => `(tactic| try simp only [dDrop, kDrop, dRet, dRetN, dIf, kIf, dNever, dNext, dBreak, dCont, dSet, kSet, dPar, kPar, dPar3, kPar3, dAug, kAug, dAsg, kAsg, gNm, gsNil, gsCons, gTp, gUl, gSb, kGs1, kGs2, rSet, dFor, kFor, dLc, dYes, wipeD, dRaise, kRaise, dTry, wTry, clrM, clrD, putD', dXv, kXv,
  dC, dVar, dUn, dOp, kOp1, kOp2, dTst, kB, dAnd, kAnd, dOr, kOr, dNot, kNot, dAndV, kAndV, dOrV, kOrV, dNotV, kNotV, dIfE, kIfE, dNil, dCons, kCons1, kCons2, dTup, kTup, dLst, kLst, dCall, kCall, spN, dCallK, kCK1, kCK2, pick, dMet, kM1, kM2, isLst, rApp, dSl, kSl1, kSl2, kSl3, rSl, dNoP, dPart, kPart,
  rAdd, rSub, rMul, rMulT, rInP, rFdiv, rMod, rPow, rShl, rShr, rAnd, rXor, rNeg, rEq, rNe, rLt, rLe, rGt, rGe, rIs, rIsNot, isNon, rIx, rIsi, rIsi2, isTy, spLen, spInt, spTuple, spAll, spAny, spMax, spMin, spAbs, spList, rIn, rNotIn, rIns, dRevL, kRev, dBack, kBack, dLc2, iEn, kEn, dSrtSet, kSrtSet, dChain, kCh1, kCh2, kCh3, iZp, kZp, dLenNew, dLenSet, kLenSet, kLenNew, dDicE, isDic, rDset, dDget, kDg1, kDg2, dDget2, kDh1, kDh2, kDh3, rDget, gDb, kGd1, kGd2, dStp, kSt0, kSt1, kSt2, spSumB, rDin, dBits, kBits, rDnin, spLenD, dAugS, kAs1, kAs2, kAs3, kAs4, rRem, rIdx, spStr, dJoin, kJoin1, kJoin2, rPop1, rPop0, rRev, dDc, dTupRg, kTupRg, dLstRg, kLstRg, iSq, iRg1, kRg1, iRg2, kRg2, rIAdd, endsD,
  isL_iff, atI0, atI1, atI2, get_at0, get_at, List.set_set, List.length_set, lget_at0, lget_at, lget_hd, lget_tl, set_at0, set_at, app1, List.nil_append, List.cons_append, List.length_cons, List.length_nil, List.length_append,
  List.getElem?_cons_zero, List.getElem?_cons_succ, List.set_cons_zero, List.set_cons_succ, List.getElem?_nil, List.filterMap_cons, List.filterMap_nil, List.append_nil,
  Option.some.injEq, O.lst.injEq, exists_eq_left', exists_eq_left, exists_eq', List.cons.injEq, D.int.injEq, D.bl.injEq, D.tup.injEq, D.ref.injEq, D.str.injEq, Int.natCast_inj, true_and, and_true, and_self, Nat.reduceAdd, Nat.zero_add, Bool.not_true, Bool.not_false, reduceCtorEq, forall_const, imp_self, not_true_eq_false, not_false_eq_true, false_implies, true_implies, implies_true, Bool.true_eq_false, Bool.false_eq_true, Bool.true_or, Bool.or_true, Bool.false_or, Bool.or_false, Bool.and_true, Bool.true_and, decide_eq_true_eq, decide_eq_false_iff_not, Bool.not_eq_true', Bool.not_eq_false', decide_true, decide_false, or_false, false_or, exists_false, exists_and_left, and_assoc])
namespace Q
open PySem
open Spec PyProof.Rows L2
/-! ### fresh.py: what a value is -/
/-- a value that may be looked at -/
def okD (S : Sto) (d : D) : Prop := ∀ n, d = .ref n → ∃ ds, lget S n = some ds
theorem okD_int {S : Sto} {i : Int} : okD S (.int i) := fun _ e => nomatch e
theorem okD_tup {S : Sto} {ds : List D} : okD S (.tup ds) := fun _ e => nomatch e
theorem okD_app {S : Sto} {d : D} (G : Sto) (h : okD S d) : okD (S ++ G) d := fun n e => by
  obtain ⟨ds, q⟩ := h n e
  exact ⟨ds, lget_app q⟩
def isIntD : D → Bool
  | .int _ => true
  | _ => false
def isNatD : D → Bool
  | .int i => decide (0 ≤ i)
  | _ => false
def isBelowD (m : Int) : D → Bool
  | .int i => decide (0 ≤ i) && decide (i < m)
  | _ => false
def isPairD : D → Bool
  | .tup ds => decide (ds.length = 2)
  | _ => false
def ascB (ns : List Int) : Bool := (List.range (ns.length - 1)).all fun j => decide (ns.getD j 0 < ns.getD (j + 1) 0)
def intD : D → Int
  | .int i => i
  | _ => 0
def isAscD (m : Int) : D → Bool
  | .tup ds => ds.all (isBelowD m) && ascB (ds.map intD)
  | _ => false
def sp_is_integer : SpD := fun ds S k _ => ∃ d, ds = [d] ∧ okD S d ∧ k (.bl (isIntD d)) S
def sp_is_natural : SpD := fun ds S k _ => ∃ d, ds = [d] ∧ okD S d ∧ k (.bl (isNatD d)) S
/-- a value whose parts may be looked at -/
def okT (S : Sto) (d : D) : Prop := okD S d ∧ ∀ ds, d = .tup ds → ds.length ≤ sizeLine ∧ ∀ e ∈ ds, okD S e
/-- is_integer(value); slots: 0 value -/
def t_is_integer : TSD := (dRet (dAndV (dUn (rIsi .int) (dVar 0)) (dNotV (dUn (rIsi .bool) (dVar 0)))))
/-- is_natural(value); slots: 0 value -/
def t_is_natural : TSD := (dRet (dAndV (dCall (spN 1 sp_is_integer) (dCons (dVar 0) dNil)) (dOp rGe (dVar 0) (dC (.int 0)))))

local macro_rules | `(tactic| walk_at "dzs") => `(tactic| try simp only [sp_is_integer, sp_is_natural, isIntD, isNatD, dDrop, kDrop, dRet, dRetN, dIf, kIf, dNever, dNext, dBreak, dCont, dSet, kSet, dPar, kPar, dPar3, kPar3, dAug, kAug, dAsg, kAsg, gNm, gsNil, gsCons, gTp, gUl, gSb, kGs1, kGs2, rSet, dFor, kFor, dLc, dYes, wipeD, dRaise, kRaise, dTry, wTry, clrM, clrD, putD', dXv, kXv,
  dC, dVar, dUn, dOp, kOp1, kOp2, dTst, kB, dAnd, kAnd, dOr, kOr, dNot, kNot, dAndV, kAndV, dOrV, kOrV, dNotV, kNotV, dIfE, kIfE, dNil, dCons, kCons1, kCons2, dTup, kTup, dLst, kLst, dCall, kCall, spN, dCallK, kCK1, kCK2, pick, dMet, kM1, kM2, isLst, rApp, dSl, kSl1, kSl2, kSl3, rSl, dNoP, dPart, kPart,
  rAdd, rSub, rMul, rMulT, rInP, rFdiv, rMod, rPow, rShl, rShr, rAnd, rXor, rNeg, rEq, rNe, rLt, rLe, rGt, rGe, rIs, rIsNot, isNon, rIx, rIsi, rIsi2, isTy, spLen, spInt, spTuple, spAll, spAny, spMax, spMin, spAbs, spList, rIn, rNotIn, rIns, dRevL, kRev, dBack, kBack, dLc2, iEn, kEn, dSrtSet, kSrtSet, dChain, kCh1, kCh2, kCh3, iZp, kZp, dLenNew, dLenSet, kLenSet, kLenNew, dDicE, isDic, rDset, dDget, kDg1, kDg2, dDget2, kDh1, kDh2, kDh3, rDget, gDb, kGd1, kGd2, dStp, kSt0, kSt1, kSt2, spSumB, rDin, dBits, kBits, rDnin, spLenD, dAugS, kAs1, kAs2, kAs3, kAs4, rRem, rIdx, spStr, dJoin, kJoin1, kJoin2, rPop1, rPop0, rRev, dDc, dTupRg, kTupRg, dLstRg, kLstRg, iSq, iRg1, kRg1, iRg2, kRg2, rIAdd, endsD,
  isL_iff, atI0, atI1, atI2, get_at0, get_at, List.set_set, List.length_set, lget_at0, lget_at, lget_hd, lget_tl, set_at0, set_at, app1, List.nil_append, List.cons_append, List.length_cons, List.length_nil, List.length_append,
  List.getElem?_cons_zero, List.getElem?_cons_succ, List.set_cons_zero, List.set_cons_succ, List.getElem?_nil, List.filterMap_cons, List.filterMap_nil, List.append_nil,
  Option.some.injEq, O.lst.injEq, exists_eq_left', exists_eq_left, exists_eq', List.cons.injEq, D.int.injEq, D.bl.injEq, D.tup.injEq, D.ref.injEq, D.str.injEq, Int.natCast_inj, true_and, and_true, and_self, Nat.reduceAdd, Nat.zero_add, Bool.not_true, Bool.not_false, reduceCtorEq, forall_const, imp_self, not_true_eq_false, not_false_eq_true, false_implies, true_implies, implies_true, Bool.true_eq_false, Bool.false_eq_true, Bool.true_or, Bool.or_true, Bool.false_or, Bool.or_false, Bool.and_true, Bool.true_and, decide_eq_true_eq, decide_eq_false_iff_not, Bool.not_eq_true', Bool.not_eq_false', decide_true, decide_false, or_false, false_or, exists_false, exists_and_left, and_assoc])
local macro_rules | `(tactic| walk_at "ds") => `(tactic| try simp only [sp_is_integer, sp_is_natural, isIntD, isNatD, dSeq, dDrop, kDrop, dRet, dRetN, dIf, kIf, dNever, dNext, dBreak, dCont, dSet, kSet, dPar, kPar, dPar3, kPar3, dAug, kAug, dAsg, kAsg, gNm, gsNil, gsCons, gTp, gUl, gSb, kGs1, kGs2, rSet, dFor, kFor, dLc, dYes, wipeD, dRaise, kRaise, dTry, wTry, clrM, clrD, putD', dXv, kXv,
  dC, dVar, dUn, dOp, kOp1, kOp2, dTst, kB, dAnd, kAnd, dOr, kOr, dNot, kNot, dAndV, kAndV, dOrV, kOrV, dNotV, kNotV, dIfE, kIfE, dNil, dCons, kCons1, kCons2, dTup, kTup, dLst, kLst, dCall, kCall, spN, dCallK, kCK1, kCK2, pick, dMet, kM1, kM2, isLst, rApp, dSl, kSl1, kSl2, kSl3, rSl, dNoP, dPart, kPart,
  rAdd, rSub, rMul, rMulT, rInP, rFdiv, rMod, rPow, rShl, rShr, rAnd, rXor, rNeg, rEq, rNe, rLt, rLe, rGt, rGe, rIs, rIsNot, isNon, rIx, rIsi, rIsi2, isTy, spLen, spInt, spTuple, spAll, spAny, spMax, spMin, spAbs, spList, rIn, rNotIn, rIns, dRevL, kRev, dBack, kBack, dLc2, iEn, kEn, dSrtSet, kSrtSet, dChain, kCh1, kCh2, kCh3, iZp, kZp, dLenNew, dLenSet, kLenSet, kLenNew, dDicE, isDic, rDset, dDget, kDg1, kDg2, dDget2, kDh1, kDh2, kDh3, rDget, gDb, kGd1, kGd2, dStp, kSt0, kSt1, kSt2, spSumB, rDin, dBits, kBits, rDnin, spLenD, dAugS, kAs1, kAs2, kAs3, kAs4, rRem, rIdx, spStr, dJoin, kJoin1, kJoin2, rPop1, rPop0, rRev, dDc, dTupRg, kTupRg, dLstRg, kLstRg, iSq, iRg1, kRg1, iRg2, kRg2, rIAdd, endsD,
  isL_iff, atI0, atI1, atI2, get_at0, get_at, List.set_set, List.length_set, lget_at0, lget_at, lget_hd, lget_tl, set_at0, set_at, app1, List.nil_append, List.cons_append, List.length_cons, List.length_nil, List.length_append,
  List.getElem?_cons_zero, List.getElem?_cons_succ, List.set_cons_zero, List.set_cons_succ, List.getElem?_nil, List.filterMap_cons, List.filterMap_nil, List.append_nil,
  Option.some.injEq, O.lst.injEq, exists_eq_left', exists_eq_left, exists_eq', List.cons.injEq, D.int.injEq, D.bl.injEq, D.tup.injEq, D.ref.injEq, D.str.injEq, Int.natCast_inj, true_and, and_true, and_self, Nat.reduceAdd, Nat.zero_add, Bool.not_true, Bool.not_false, reduceCtorEq, forall_const, imp_self, not_true_eq_false, not_false_eq_true, false_implies, true_implies, implies_true, Bool.true_eq_false, Bool.false_eq_true, Bool.true_or, Bool.or_true, Bool.false_or, Bool.or_false, Bool.and_true, Bool.true_and, decide_eq_true_eq, decide_eq_false_iff_not, Bool.not_eq_true', Bool.not_eq_false', decide_true, decide_false, or_false, false_or, exists_false, exists_and_left, and_assoc])
theorem k_is_integer : Keeps 1 1 t_is_integer sp_is_integer := by
  intro ds S k x hl cS cd h
  obtain ⟨d, rfl, hd, h⟩ := h
  show t_is_integer (endsD S.length k x) [some d] S
  have h' := wk_now (n := S.length) h
  cases d with
  | ref n =>
    obtain ⟨xs, hx⟩ := hd n rfl
    simp only [t_is_integer]
    walk_at "dx"
    simp only [tyR_of hx, Option.some.injEq, exists_eq_left', isTy]
    exact ⟨fun z => (nomatch z), fun _ => h'⟩
  | _ => simp only [t_is_integer]; walk_at "dx"; exact h'
theorem k_is_natural : Keeps 1 1 t_is_natural sp_is_natural := by
  intro ds S k x hl cS cd h
  obtain ⟨d, rfl, hd, h⟩ := h
  show t_is_natural (endsD S.length k x) [some d] S
  have h' := wk_now (n := S.length) h
  simp only [t_is_natural]
  walk_at "dx"
  refine ⟨d, rfl, hd, ?_⟩
  cases d <;> (simp only [isIntD]; walk_at "dx"; simpa [isNatD] using h')
end Q
open Q
local macro_rules | `(tactic| walk_at "dx") => `(tactic| try simp only [dSeq, dDrop, kDrop, dRet, dRetN, dIf, kIf, dNever, dNext, dBreak, dCont, dSet, kSet, dPar, kPar, dPar3, kPar3, dAug, kAug, dAsg, kAsg, gNm, gsNil, gsCons, gTp, gUl, gSb, kGs1, kGs2, rSet, dFor, kFor, dLc, dYes, wipeD, dRaise, kRaise, dTry, wTry, clrM, clrD, putD', dXv, kXv,
  dC, dVar, dUn, dOp, kOp1, kOp2, dTst, kB, dAnd, kAnd, dOr, kOr, dNot, kNot, dAndV, kAndV, dOrV, kOrV, dNotV, kNotV, dIfE, kIfE, dNil, dCons, kCons1, kCons2, dTup, kTup, dLst, kLst, dCall, kCall, spN, dCallK, kCK1, kCK2, pick, dMet, kM1, kM2, isLst, rApp, dSl, kSl1, kSl2, kSl3, rSl, dNoP, dPart, kPart,
  rAdd, rSub, rMul, rMulT, rInP, rFdiv, rMod, rPow, rShl, rShr, rAnd, rXor, rNeg, rEq, rNe, rLt, rLe, rGt, rGe, rIs, rIsNot, isNon, rIx, rIsi, rIsi2, isTy, spLen, spInt, spTuple, spAll, spAny, spMax, spMin, spAbs, spList, rIn, rNotIn, rIns, dRevL, kRev, dBack, kBack, dLc2, iEn, kEn, dSrtSet, kSrtSet, dChain, kCh1, kCh2, kCh3, iZp, kZp, dLenNew, dLenSet, kLenSet, kLenNew, dDicE, isDic, rDset, dDget, kDg1, kDg2, dDget2, kDh1, kDh2, kDh3, rDget, gDb, kGd1, kGd2, dStp, kSt0, kSt1, kSt2, spSumB, rDin, dBits, kBits, rDnin, spLenD, dAugS, kAs1, kAs2, kAs3, kAs4, rRem, rIdx, spStr, dJoin, kJoin1, kJoin2, rPop1, rPop0, rRev, dDc, dTupRg, kTupRg, dLstRg, kLstRg, iSq, iRg1, kRg1, iRg2, kRg2, rIAdd, endsD,
  isL_iff, atI0, atI1, atI2, get_at0, get_at, List.set_set, List.length_set, lget_at0, lget_at, lget_hd, lget_tl, set_at0, set_at, app1, List.nil_append, List.cons_append, List.length_cons, List.length_nil, List.length_append,
  List.getElem?_cons_zero, List.getElem?_cons_succ, List.set_cons_zero, List.set_cons_succ, List.getElem?_nil, List.filterMap_cons, List.filterMap_nil, List.append_nil,
  Option.some.injEq, O.lst.injEq, exists_eq_left', exists_eq_left, exists_eq', List.cons.injEq, D.int.injEq, D.bl.injEq, D.tup.injEq, D.ref.injEq, D.str.injEq, Int.natCast_inj, true_and, and_true, and_self, Nat.reduceAdd, Nat.zero_add, Bool.not_true, Bool.not_false, reduceCtorEq, forall_const, imp_self, not_true_eq_false, not_false_eq_true, false_implies, true_implies, implies_true, Bool.true_eq_false, Bool.false_eq_true, Bool.true_or, Bool.or_true, Bool.false_or, Bool.or_false, Bool.and_true, Bool.true_and, decide_eq_true_eq, decide_eq_false_iff_not, Bool.not_eq_true', Bool.not_eq_false', decide_true, decide_false, or_false, false_or, exists_false, exists_and_left, and_assoc])
local macro_rules | `(tactic| walk_at "dz") => `(tactic| try simp only [dDrop, kDrop, dRet, dRetN, dIf, kIf, dNever, dNext, dBreak, dCont, dSet, kSet, dPar, kPar, dPar3, kPar3, dAug, kAug, dAsg, kAsg, gNm, gsNil, gsCons, gTp, gUl, gSb, kGs1, kGs2, rSet, dFor, kFor, dLc, dYes, wipeD, dRaise, kRaise, dTry, wTry, clrM, clrD, putD', dXv, kXv,
  dC, dVar, dUn, dOp, kOp1, kOp2, dTst, kB, dAnd, kAnd, dOr, kOr, dNot, kNot, dAndV, kAndV, dOrV, kOrV, dNotV, kNotV, dIfE, kIfE, dNil, dCons, kCons1, kCons2, dTup, kTup, dLst, kLst, dCall, kCall, spN, dCallK, kCK1, kCK2, pick, dMet, kM1, kM2, isLst, rApp, dSl, kSl1, kSl2, kSl3, rSl, dNoP, dPart, kPart,
  rAdd, rSub, rMul, rMulT, rInP, rFdiv, rMod, rPow, rShl, rShr, rAnd, rXor, rNeg, rEq, rNe, rLt, rLe, rGt, rGe, rIs, rIsNot, isNon, rIx, rIsi, rIsi2, isTy, spLen, spInt, spTuple, spAll, spAny, spMax, spMin, spAbs, spList, rIn, rNotIn, rIns, dRevL, kRev, dBack, kBack, dLc2, iEn, kEn, dSrtSet, kSrtSet, dChain, kCh1, kCh2, kCh3, iZp, kZp, dLenNew, dLenSet, kLenSet, kLenNew, dDicE, isDic, rDset, dDget, kDg1, kDg2, dDget2, kDh1, kDh2, kDh3, rDget, gDb, kGd1, kGd2, dStp, kSt0, kSt1, kSt2, spSumB, rDin, dBits, kBits, rDnin, spLenD, dAugS, kAs1, kAs2, kAs3, kAs4, rRem, rIdx, spStr, dJoin, kJoin1, kJoin2, rPop1, rPop0, rRev, dDc, dTupRg, kTupRg, dLstRg, kLstRg, iSq, iRg1, kRg1, iRg2, kRg2, rIAdd, endsD,
  isL_iff, atI0, atI1, atI2, get_at0, get_at, List.set_set, List.length_set, lget_at0, lget_at, lget_hd, lget_tl, set_at0, set_at, app1, List.nil_append, List.cons_append, List.length_cons, List.length_nil, List.length_append,
  List.getElem?_cons_zero, List.getElem?_cons_succ, List.set_cons_zero, List.set_cons_succ, List.getElem?_nil, List.filterMap_cons, List.filterMap_nil, List.append_nil,
  Option.some.injEq, O.lst.injEq, exists_eq_left', exists_eq_left, exists_eq', List.cons.injEq, D.int.injEq, D.bl.injEq, D.tup.injEq, D.ref.injEq, D.str.injEq, Int.natCast_inj, true_and, and_true, and_self, Nat.reduceAdd, Nat.zero_add, Bool.not_true, Bool.not_false, reduceCtorEq, forall_const, imp_self, not_true_eq_false, not_false_eq_true, false_implies, true_implies, implies_true, Bool.true_eq_false, Bool.false_eq_true, Bool.true_or, Bool.or_true, Bool.false_or, Bool.or_false, Bool.and_true, Bool.true_and, decide_eq_true_eq, decide_eq_false_iff_not, Bool.not_eq_true', Bool.not_eq_false', decide_true, decide_false, or_false, false_or, exists_false, exists_and_left, and_assoc])
namespace Q
open PySem
open Spec PyProof.Rows L2
/-! ### values of any kind, bounded -/
/-- a value of at most this depth, its tuples of at most this length -/
def wild (S : Sto) (L : Nat) : Nat → D → Prop
  | _, .non => True
  | _, .bl _ => True
  | _, .int _ => True
  | _, .str z => (PyData.str z).canLay0 = true
  | n + 1, .tup ds => ds.length ≤ L ∧ ∀ e ∈ ds, wild S L n e
  | n + 1, .ref j => ∃ ds, (lget S j = some ds ∧ ds.length ≤ 1000000) ∧ ∀ e ∈ ds, wild S L n e
  | 0, .tup _ => False
  | 0, .ref _ => False
theorem wild_int {S : Sto} {L n : Nat} {i : Int} : wild S L n (.int i) := by cases n <;> trivial
theorem wild_mono {S : Sto} {L L' : Nat} (hL : L ≤ L') : ∀ {n n' : Nat} {d : D}, n ≤ n' → wild S L n d → wild S L' n' d := by
  intro n
  induction n with
  | zero =>
    intro n' d _ h
    cases d with
    | tup ds => exact h.elim
    | ref j => exact h.elim
    | _ => cases n' <;> exact h
  | succ n ih =>
    intro n' d hn h
    obtain ⟨k, rfl⟩ : ∃ k, n' = k + 1 := ⟨n' - 1, by omega⟩
    cases d with
    | tup ds => exact ⟨Nat.le_trans h.1 hL, fun e he => ih (by omega) (h.2 e he)⟩
    | ref j =>
      obtain ⟨ds, h1, h2⟩ := h
      exact ⟨ds, h1, fun e he => ih (by omega) (h2 e he)⟩
    | _ => exact h
theorem wild_sto {S T : Sto} {L : Nat} (hT : ∀ j ds, lget S j = some ds → lget T j = some ds ∨ ∃ es, (lget T j = some es ∧ es.length ≤ 1000000) ∧ ∀ e ∈ es, ∃ i, e = .int i) : ∀ {n : Nat} {d : D}, wild S L n d → wild T L n d := by
  intro n
  induction n with
  | zero =>
    intro d h
    cases d with
    | tup ds => exact h.elim
    | ref j => exact h.elim
    | _ => exact h
  | succ n ih =>
    intro d h
    cases d with
    | tup ds => exact ⟨h.1, fun e he => ih (h.2 e he)⟩
    | ref j =>
      obtain ⟨ds, h1, h2⟩ := h
      rcases hT j ds h1.1 with h3 | ⟨es, h3, h4⟩
      · exact ⟨ds, ⟨h3, h1.2⟩, fun e he => ih (h2 e he)⟩
      · refine ⟨es, h3, fun e he => ?_⟩
        obtain ⟨i, rfl⟩ := h4 e he
        exact wild_int
    | _ => exact h
theorem wild_app {S : Sto} (G : Sto) {L n : Nat} {d : D} (h : wild S L n d) : wild (S ++ G) L n d := wild_sto (fun _ _ q => .inl (lget_app q)) h
theorem wild_ok {S : Sto} {L : Nat} : ∀ {n : Nat} {d : D}, wild S L n d → okD S d := by
  intro n d h j e
  subst e
  cases n with
  | zero => exact h.elim
  | succ n =>
    obtain ⟨ds, h1, _⟩ := h
    exact ⟨ds, h1.1⟩
theorem wild_okT {S : Sto} {L n : Nat} {d : D} (hL : L ≤ 1000000) (h : wild S L n d) : okT S d := by
  refine ⟨wild_ok h, fun ds e => ?_⟩
  subst e
  cases n with
  | zero => exact h.elim
  | succ n => exact ⟨sl_ok _ (Nat.le_trans h.1 hL), fun e he => wild_ok (h.2 e he)⟩
theorem all_py {S : Sto} {n : Nat} : ∀ {ds : List D}, (∀ e ∈ ds, ∃ p, DPy S e p ∧ p.canLay0 = true ∧ p.depth ≤ n) → ∃ ps, DPys S ds ps ∧ PyData.canLayAll0 ps = true ∧ PyData.depthAll ps ≤ n
  | [], _ => ⟨[], .nil, rfl, Nat.zero_le _⟩
  | d :: ds, h => by
    obtain ⟨p, h1, h2, h3⟩ := h d List.mem_cons_self
    obtain ⟨ps, q1, q2, q3⟩ := all_py fun e he => h e (List.mem_cons_of_mem _ he)
    exact ⟨p :: ps, .cons h1 q1, by show (p.canLay0 && PyData.canLayAll0 ps) = true; rw [h2, q2]; rfl, by show max p.depth (PyData.depthAll ps) ≤ n; omega⟩
theorem wild_py {S : Sto} {L : Nat} : ∀ {n : Nat} {d : D}, wild S L n d → ∃ p, DPy S d p ∧ p.canLay0 = true ∧ p.depth ≤ n := by
  intro n
  induction n with
  | zero =>
    intro d h
    cases d with
    | tup ds => exact h.elim
    | ref j => exact h.elim
    | non => exact ⟨_, .non, rfl, Nat.zero_le _⟩
    | bl b => exact ⟨_, .bl b, rfl, Nat.zero_le _⟩
    | int i => exact ⟨_, .int i, rfl, Nat.zero_le _⟩
    | str z => exact ⟨_, .str z, h, Nat.zero_le _⟩
  | succ n ih =>
    intro d h
    cases d with
    | tup ds =>
      obtain ⟨ps, h1, h2, h3⟩ := all_py fun e he => ih (h.2 e he)
      exact ⟨_, .tup h1, h2, by show PyData.depthAll ps + 1 ≤ n + 1; omega⟩
    | ref j =>
      obtain ⟨ds, hj, h⟩ := h
      obtain ⟨ps, h1, h2, h3⟩ := all_py fun e he => ih (h e he)
      exact ⟨_, .ref (isL_iff.mpr hj.1) h1, h2, by show PyData.depthAll ps + 1 ≤ n + 1; omega⟩
    | non => exact ⟨_, .non, rfl, Nat.zero_le _⟩
    | bl b => exact ⟨_, .bl b, rfl, Nat.zero_le _⟩
    | int i => exact ⟨_, .int i, rfl, Nat.zero_le _⟩
    | str z => exact ⟨_, .str z, h, Nat.zero_le _⟩
theorem dpys_nil {S : Sto} {ds : List D} {ps : List PyData} (h : DPys S ds ps) : PyData.eqvAll ps [] = ds.isEmpty := by
  cases h <;> rfl
theorem eqG_wild {S : Sto} {L n : Nat} {ds : List D} {k : Bool → Prop} (h : ∀ e ∈ ds, wild S L n e) (hk : k ds.isEmpty) (hn : n ≤ 60 := by decide) : eqG (.tup ds) (.tup []) S k := by
  obtain ⟨ps, h1, h2, h3⟩ := all_py fun e he => wild_py (h e he)
  refine ⟨_, _, .tup h1, .tup .nil, shaped_of (n := n + 1) h2 (by show PyData.depthAll ps + 1 ≤ n + 1; omega) (by omega), shaped_of (n := 1) rfl (Nat.le_refl _) (by decide), ?_⟩
  rw [← dpys_nil h1] at hk
  rw [PyData.eqv]
  exact hk
theorem eqG_wildL {S : Sto} {L n a b : Nat} {ds : List D} {k : Bool → Prop} (ha : lget S a = some ds) (hb : lget S b = some []) (h : ∀ e ∈ ds, wild S L n e) (hk : k ds.isEmpty) (hn : n ≤ 60 := by decide) : eqG (.ref a) (.ref b) S k := by
  obtain ⟨ps, h1, h2, h3⟩ := all_py fun e he => wild_py (h e he)
  refine ⟨_, _, .ref (isL_iff.mpr ha) h1, .ref (isL_iff.mpr hb) .nil, shaped_of (n := n + 1) h2 (by show PyData.depthAll ps + 1 ≤ n + 1; omega) (by omega), shaped_of (n := 1) rfl (Nat.le_refl _) (by decide), ?_⟩
  rw [← dpys_nil h1] at hk
  rw [PyData.eqv]
  exact hk
/-! ### mixings.py -/
abbrev natsD (l : List Nat) : List D := l.map fun c : Nat => D.int (c : Int)
def pairD (q : Nat × Nat) : D := .tup [.int (q.1 : Int), .int (q.2 : Int)]
def mixD (m p : Nat) (ps : List (Nat × Nat)) (q : Nat × Nat) : D := .tup [.int (m : Int), .int (p : Int), .tup (ps.map pairD), pairD q]
structure MixOk (m p : Nat) (ps : List (Nat × Nat)) (q : Nat × Nat) : Prop where
  m1 : 1 ≤ m
  m2 : m ≤ 1000
  p1 : 2 ≤ p
  p2 : p ≤ 5000
  ne : ps ≠ []
  len : ps.length ≤ 30
  ps : ∀ r ∈ ps, r.1 < p ∧ r.2 < p
  q : q.1 < p ∧ q.2 < p
def isPairB (p : Int) : D → Bool
  | .tup ds => decide (ds.length = 2) && ds.all (isBelowD p)
  | _ => false
def isMixD : D → Bool
  | .tup [.int m, .int p, .tup ps, q] => decide (1 ≤ m) && decide (2 ≤ p) && !ps.isEmpty && (isPairB p q && ps.all (isPairB p))
  | _ => false
def led (q : Nat × Nat) (p x : Nat) : Nat := (q.1 * x + q.2) % p
def rowN (m p : Nat) (ps : List (Nat × Nat)) (x : Nat) : List Nat := (List.range m).filter fun c => ps.any fun q => decide (led q p x % m = c)
def sdP (p s : Nat) (q : Nat × Nat) : Nat × Nat := ((q.1 * (2 * s + 1) + s) % p, (q.2 + s * s) % p)
def bkM (m p : Nat) (ps : List (Nat × Nat)) (ns : List Nat) : D := .tup [.int (m : Int), .tup (ns.map fun x => D.tup (natsD (rowN m p ps x)))]
/-- a list or a tuple of these numbers -/
def numsAt (S : Sto) (d : D) (ns : List Nat) : Prop := d = .tup (natsD ns) ∨ ∃ j, d = .ref j ∧ lget S j = some (natsD ns)
def NumsOk (ns : List Nat) : Prop := ns.Nodup ∧ ns.length < 60 ∧ ∀ x ∈ ns, x < 2 ^ 100
def sp_is_pair_below : SpD := fun ds S k _ => ∃ d p, ds = [.int p, d] ∧ okT S d ∧ k (.bl (isPairB p d)) S
def sp_is_mixing_told : SpD := fun ds S k _ => ∃ d, ds = [d] ∧ wild S 1000 7 d ∧ k (.bl (isMixD d)) S
def sp_check_mixing : SpD := fun ds S k _ => ∃ m p ps q, ds = [mixD m p ps q] ∧ MixOk m p ps q ∧ k .non S
def sp_check_from : SpD := fun ds S k _ => ∃ i j : Int, ds = [.int i, .int j] ∧ j ≤ i ∧ k .non S
def sp_check_numbers : SpD := fun ds S k _ => ∃ d ns, ds = [d] ∧ numsAt S d ns ∧ NumsOk ns ∧ k .non S
def sp_mixed : SpD := fun ds S k _ => ∃ (r : Nat × Nat) (p x : Nat), ds = [pairD r, .int p, .int x] ∧ 0 < p ∧ r.1 < 2 ^ 60 ∧ k (.int (led r p x : Nat)) S
def sp_row_by : SpD := fun ds S k _ => ∃ m p ps q x, ds = [mixD m p ps q, .int (x : Nat)] ∧ MixOk m p ps q ∧ k (.tup (natsD (rowN m p ps x))) S
def sp_mark_by : SpD := fun ds S k _ => ∃ m p ps q w x, ds = [mixD m p ps q, .int (w : Nat), .int (x : Nat)] ∧ MixOk m p ps q ∧ w ≤ 1000 ∧ k (.int (led q p x % 2 ^ w : Nat)) S
def sp_book_by : SpD := fun ds S k _ => ∃ m p ps q d ns, ds = [mixD m p ps q, d] ∧ MixOk m p ps q ∧ numsAt S d ns ∧ NumsOk ns ∧ k (bkM m p ps ns) S
def sp_seeded_by : SpD := fun ds S k _ => ∃ m p ps q s, ds = [mixD m p ps q, .int (s : Nat)] ∧ MixOk m p ps q ∧ s < 2 ^ 60 ∧ k (mixD m p (ps.map (sdP p s)) (sdP p s q)) S
def sp_is_mixing : SpD := sp_is_mixing_told
def sp_row_of : SpD := sp_row_by
def sp_mark_of : SpD := fun ds S k _ => ∃ m p ps q w x, ds = [mixD m p ps q, .int (w : Nat), .int (x : Nat)] ∧ MixOk m p ps q ∧ 1 ≤ w ∧ w ≤ 1000 ∧ k (.int (led q p x % 2 ^ w : Nat)) S
def sp_book_of : SpD := sp_book_by
def sp_seeded : SpD := sp_seeded_by
/-- is_pair_below(p, told); slots: 0 p, 1 told, 2 number -/
def t_is_pair_below : TSD := (dSeq (dIf (dOr (dNot (dTst (dUn (rIsi .tuple) (dVar 1)))) (dTst (dOp rNe (dCall spLen (dCons (dVar 1) dNil)) (dC (.int 2))))) (dRet (dC (.bl false))) dNext) (dRet (dCall spAll (dCons (dLc (iSq (dVar 1)) (gNm 2) dYes (dAndV (dCall (spN 1 sp_is_integer) (dCons (dVar 2) dNil)) (dChain rLe rLt (dC (.int 0)) (dVar 2) (dVar 0))) [2]) dNil))))
/-- is_mixing_told(told); slots: 0 told, 1 m, 2 p, 3 pairs, 4 mark, 5 pair -/
def t_is_mixing_told : TSD := (dSeq (dIf (dOr (dNot (dTst (dUn (rIsi .tuple) (dVar 0)))) (dTst (dOp rNe (dCall spLen (dCons (dVar 0) dNil)) (dC (.int 4))))) (dRet (dC (.bl false))) dNext) (dSeq (dAsg (dVar 0) (gTp 4 (gsCons (gNm 1) (gsCons (gNm 2) (gsCons (gNm 3) (gsCons (gNm 4) gsNil)))))) (dSeq (dIf (dOr (dNot (dTst (dCall (spN 1 sp_is_integer) (dCons (dVar 1) dNil)))) (dOr (dTst (dOp rLt (dVar 1) (dC (.int 1)))) (dOr (dNot (dTst (dCall (spN 1 sp_is_integer) (dCons (dVar 2) dNil)))) (dOr (dTst (dOp rLt (dVar 2) (dC (.int 2)))) (dOr (dNot (dTst (dUn (rIsi .tuple) (dVar 3)))) (dTst (dOp rEq (dVar 3) (dTup dNil)))))))) (dRet (dC (.bl false))) dNext) (dRet (dAndV (dCall (spN 2 sp_is_pair_below) (dCons (dVar 2) (dCons (dVar 4) dNil))) (dCall spAll (dCons (dLc (iSq (dVar 3)) (gNm 5) dYes (dCall (spN 2 sp_is_pair_below) (dCons (dVar 2) (dCons (dVar 5) dNil))) [5]) dNil)))))))
/-- check_from(number, least); slots: 0 number, 1 least -/
def t_check_from : TSD := (dIf (dOr (dNot (dTst (dCall (spN 1 sp_is_integer) (dCons (dVar 0) dNil)))) (dTst (dOp rLt (dVar 0) (dVar 1)))) (dRaise "InvalidNumber" (dCons (dVar 0) dNil)) dNext)
/-- check_numbers(numbers); slots: 0 numbers, 1 good, 2 number -/
def t_check_numbers : TSD := (dSeq (dSet 1 (dAndV (dUn (rIsi2 .list .tuple) (dVar 0)) (dCall spAll (dCons (dLc (iSq (dVar 0)) (gNm 2) dYes (dAndV (dCall (spN 1 sp_is_integer) (dCons (dVar 2) dNil)) (dOp rGe (dVar 2) (dC (.int 0)))) [2]) dNil)))) (dIf (dOr (dNot (dTst (dVar 1))) (dTst (dOp rLt (dLenNew (dVar 0)) (dCall spLen (dCons (dVar 0) dNil))))) (dRaise "InvalidValues" (dCons (dVar 0) dNil)) dNext))
/-- mixed(pair, p, x); slots: 0 pair, 1 p, 2 x -/
def t_mixed : TSD := (dRet (dOp rMod (dOp rAdd (dOp rMul (dOp rIx (dVar 0) (dC (.int 0))) (dVar 2)) (dOp rIx (dVar 0) (dC (.int 1)))) (dVar 1)))
/-- row_by(mixing, x); slots: 0 mixing, 1 x, 2 m, 3 p, 4 pairs, 5 mark, 6 pair -/
def t_row_by : TSD := (dSeq (dAsg (dVar 0) (gTp 4 (gsCons (gNm 2) (gsCons (gNm 3) (gsCons (gNm 4) (gsCons (gNm 5) gsNil)))))) (dRet (dCall spTuple (dCons (dSrtSet (dLc (iSq (dVar 4)) (gNm 6) dYes (dOp rMod (dCall (spN 3 sp_mixed) (dCons (dVar 6) (dCons (dVar 3) (dCons (dVar 1) dNil)))) (dVar 2)) [6])) dNil))))
/-- mark_by(mixing, w, x); slots: 0 mixing, 1 w, 2 x -/
def t_mark_by : TSD := (dRet (dOp rMod (dCall (spN 3 sp_mixed) (dCons (dOp rIx (dVar 0) (dC (.int 3))) (dCons (dOp rIx (dVar 0) (dC (.int 1))) (dCons (dVar 2) dNil)))) (dOp rShl (dC (.int 1)) (dVar 1))))

local macro_rules | `(tactic| walk_at "dzs") => `(tactic| try simp only [sp_is_integer, sp_is_pair_below, sp_is_mixing_told, sp_check_from, sp_check_numbers, sp_row_by, isIntD, dDrop, kDrop, dRet, dRetN, dIf, kIf, dNever, dNext, dBreak, dCont, dSet, kSet, dPar, kPar, dPar3, kPar3, dAug, kAug, dAsg, kAsg, gNm, gsNil, gsCons, gTp, gUl, gSb, kGs1, kGs2, rSet, dFor, kFor, dLc, dYes, wipeD, dRaise, kRaise, dTry, wTry, clrM, clrD, putD', dXv, kXv,
  dC, dVar, dUn, dOp, kOp1, kOp2, dTst, kB, dAnd, kAnd, dOr, kOr, dNot, kNot, dAndV, kAndV, dOrV, kOrV, dNotV, kNotV, dIfE, kIfE, dNil, dCons, kCons1, kCons2, dTup, kTup, dLst, kLst, dCall, kCall, spN, dCallK, kCK1, kCK2, pick, dMet, kM1, kM2, isLst, rApp, dSl, kSl1, kSl2, kSl3, rSl, dNoP, dPart, kPart,
  rAdd, rSub, rMul, rMulT, rInP, rFdiv, rMod, rPow, rShl, rShr, rAnd, rXor, rNeg, rEq, rNe, rLt, rLe, rGt, rGe, rIs, rIsNot, isNon, rIx, rIsi, rIsi2, isTy, spLen, spInt, spTuple, spAll, spAny, spMax, spMin, spAbs, spList, rIn, rNotIn, rIns, dRevL, kRev, dBack, kBack, dLc2, iEn, kEn, dSrtSet, kSrtSet, dChain, kCh1, kCh2, kCh3, iZp, kZp, dLenNew, dLenSet, kLenSet, kLenNew, dDicE, isDic, rDset, dDget, kDg1, kDg2, dDget2, kDh1, kDh2, kDh3, rDget, gDb, kGd1, kGd2, dStp, kSt0, kSt1, kSt2, spSumB, rDin, dBits, kBits, rDnin, spLenD, dAugS, kAs1, kAs2, kAs3, kAs4, rRem, rIdx, spStr, dJoin, kJoin1, kJoin2, rPop1, rPop0, rRev, dDc, dTupRg, kTupRg, dLstRg, kLstRg, iSq, iRg1, kRg1, iRg2, kRg2, rIAdd, endsD,
  isL_iff, atI0, atI1, atI2, get_at0, get_at, List.set_set, List.length_set, lget_at0, lget_at, lget_hd, lget_tl, set_at0, set_at, app1, List.nil_append, List.cons_append, List.length_cons, List.length_nil, List.length_append,
  List.getElem?_cons_zero, List.getElem?_cons_succ, List.set_cons_zero, List.set_cons_succ, List.getElem?_nil, List.filterMap_cons, List.filterMap_nil, List.append_nil,
  Option.some.injEq, O.lst.injEq, exists_eq_left', exists_eq_left, exists_eq', List.cons.injEq, D.int.injEq, D.bl.injEq, D.tup.injEq, D.ref.injEq, D.str.injEq, Int.natCast_inj, true_and, and_true, and_self, Nat.reduceAdd, Nat.zero_add, Bool.not_true, Bool.not_false, reduceCtorEq, forall_const, imp_self, not_true_eq_false, not_false_eq_true, false_implies, true_implies, implies_true, Bool.true_eq_false, Bool.false_eq_true, Bool.true_or, Bool.or_true, Bool.false_or, Bool.or_false, Bool.and_true, Bool.true_and, decide_eq_true_eq, decide_eq_false_iff_not, Bool.not_eq_true', Bool.not_eq_false', decide_true, decide_false, or_false, false_or, exists_false, exists_and_left, and_assoc])
local macro_rules | `(tactic| walk_at "ds") => `(tactic| try simp only [sp_is_integer, sp_is_pair_below, sp_is_mixing_told, sp_check_from, sp_check_numbers, sp_row_by, isIntD, dSeq, dDrop, kDrop, dRet, dRetN, dIf, kIf, dNever, dNext, dBreak, dCont, dSet, kSet, dPar, kPar, dPar3, kPar3, dAug, kAug, dAsg, kAsg, gNm, gsNil, gsCons, gTp, gUl, gSb, kGs1, kGs2, rSet, dFor, kFor, dLc, dYes, wipeD, dRaise, kRaise, dTry, wTry, clrM, clrD, putD', dXv, kXv,
  dC, dVar, dUn, dOp, kOp1, kOp2, dTst, kB, dAnd, kAnd, dOr, kOr, dNot, kNot, dAndV, kAndV, dOrV, kOrV, dNotV, kNotV, dIfE, kIfE, dNil, dCons, kCons1, kCons2, dTup, kTup, dLst, kLst, dCall, kCall, spN, dCallK, kCK1, kCK2, pick, dMet, kM1, kM2, isLst, rApp, dSl, kSl1, kSl2, kSl3, rSl, dNoP, dPart, kPart,
  rAdd, rSub, rMul, rMulT, rInP, rFdiv, rMod, rPow, rShl, rShr, rAnd, rXor, rNeg, rEq, rNe, rLt, rLe, rGt, rGe, rIs, rIsNot, isNon, rIx, rIsi, rIsi2, isTy, spLen, spInt, spTuple, spAll, spAny, spMax, spMin, spAbs, spList, rIn, rNotIn, rIns, dRevL, kRev, dBack, kBack, dLc2, iEn, kEn, dSrtSet, kSrtSet, dChain, kCh1, kCh2, kCh3, iZp, kZp, dLenNew, dLenSet, kLenSet, kLenNew, dDicE, isDic, rDset, dDget, kDg1, kDg2, dDget2, kDh1, kDh2, kDh3, rDget, gDb, kGd1, kGd2, dStp, kSt0, kSt1, kSt2, spSumB, rDin, dBits, kBits, rDnin, spLenD, dAugS, kAs1, kAs2, kAs3, kAs4, rRem, rIdx, spStr, dJoin, kJoin1, kJoin2, rPop1, rPop0, rRev, dDc, dTupRg, kTupRg, dLstRg, kLstRg, iSq, iRg1, kRg1, iRg2, kRg2, rIAdd, endsD,
  isL_iff, atI0, atI1, atI2, get_at0, get_at, List.set_set, List.length_set, lget_at0, lget_at, lget_hd, lget_tl, set_at0, set_at, app1, List.nil_append, List.cons_append, List.length_cons, List.length_nil, List.length_append,
  List.getElem?_cons_zero, List.getElem?_cons_succ, List.set_cons_zero, List.set_cons_succ, List.getElem?_nil, List.filterMap_cons, List.filterMap_nil, List.append_nil,
  Option.some.injEq, O.lst.injEq, exists_eq_left', exists_eq_left, exists_eq', List.cons.injEq, D.int.injEq, D.bl.injEq, D.tup.injEq, D.ref.injEq, D.str.injEq, Int.natCast_inj, true_and, and_true, and_self, Nat.reduceAdd, Nat.zero_add, Bool.not_true, Bool.not_false, reduceCtorEq, forall_const, imp_self, not_true_eq_false, not_false_eq_true, false_implies, true_implies, implies_true, Bool.true_eq_false, Bool.false_eq_true, Bool.true_or, Bool.or_true, Bool.false_or, Bool.or_false, Bool.and_true, Bool.true_and, decide_eq_true_eq, decide_eq_false_iff_not, Bool.not_eq_true', Bool.not_eq_false', decide_true, decide_false, or_false, false_or, exists_false, exists_and_left, and_assoc])
theorem len4 {α : Type} {l : List α} (h : l.length = 4) : ∃ a b c d, l = [a, b, c, d] := match l, h with | [a, b, c, d], _ => ⟨a, b, c, d, rfl⟩
theorem pair_below {p : Nat} {r : Nat × Nat} (h : r.1 < p ∧ r.2 < p) : isPairB (p : Int) (pairD r) = true := by
  show (true && ([D.int (r.1 : Int), D.int (r.2 : Int)].all (isBelowD p))) = true
  show (decide (0 ≤ (r.1 : Int)) && decide ((r.1 : Int) < (p : Int)) && ((decide (0 ≤ (r.2 : Int)) && decide ((r.2 : Int) < (p : Int))) && true)) = true
  rw [decide_eq_true (by omega), decide_eq_true (by omega), decide_eq_true (by omega), decide_eq_true (by omega)]
  rfl
theorem isMix_of {m p : Nat} {ps : List (Nat × Nat)} {q : Nat × Nat} (h : MixOk m p ps q) : isMixD (mixD m p ps q) = true := by
  show (decide (1 ≤ (m : Int)) && decide (2 ≤ (p : Int)) && !(ps.map pairD).isEmpty && (isPairB p (pairD q) && (ps.map pairD).all (isPairB p))) = true
  rw [decide_eq_true (by have := h.m1; omega), decide_eq_true (by have := h.p1; omega), pair_below h.q, List.isEmpty_map, List.all_map]
  have e : ps.isEmpty = false := by
    cases hp : ps with
    | nil => exact absurd hp h.ne
    | cons a l => rfl
  rw [e]
  exact List.all_eq_true.mpr fun r hr => pair_below (h.ps r hr)
theorem wild_pair {S : Sto} {n : Nat} (r : Nat × Nat) : wild S 1000 (n + 1) (pairD r) := ⟨show 2 ≤ 1000 by decide, fun e he => by
  simp only [List.mem_cons, List.not_mem_nil, or_false] at he
  rcases he with rfl | rfl <;> exact wild_int⟩
theorem wild_mixN {S : Sto} {n m p : Nat} {ps : List (Nat × Nat)} {q : Nat × Nat} {L : Nat} (h : ps.length ≤ L) (hL : 4 ≤ L) : wild S L (n + 3) (mixD m p ps q) := ⟨hL, fun e he => by
  have two : ∀ r : Nat × Nat, ∀ n, wild S L (n + 1) (pairD r) := fun r n => ⟨by show 2 ≤ L; omega, fun e he => by
    simp only [List.mem_cons, List.not_mem_nil, or_false] at he
    rcases he with rfl | rfl <;> exact wild_int⟩
  simp only [List.mem_cons, List.not_mem_nil, or_false] at he
  rcases he with rfl | rfl | rfl | rfl
  · exact wild_int
  · exact wild_int
  · refine ⟨by rw [List.length_map]; exact h, fun e he => ?_⟩
    obtain ⟨r, _, rfl⟩ := List.mem_map.mp he
    exact two r n
  · exact two q (n + 1)⟩
theorem wild_mix {S : Sto} {m p : Nat} {ps : List (Nat × Nat)} {q : Nat × Nat} (h : MixOk m p ps q) : wild S 1000 7 (mixD m p ps q) := wild_mixN (n := 4) (Nat.le_trans h.len (by decide)) (by decide)
theorem k_is_pair_below : Keeps 2 3 t_is_pair_below sp_is_pair_below := by
  intro ds S k x hl cS cd h
  obtain ⟨d, p, rfl, ⟨hd, hT⟩, h⟩ := h
  show t_is_pair_below (endsD S.length k x) [some (.int p), some d, none] S
  have h' := wk_now (n := S.length) h
  simp only [t_is_pair_below]
  cases d with
  | ref n =>
    obtain ⟨xs, hx⟩ := hd n rfl
    walk_at "dx"
    simp only [tyR_of hx, Option.some.injEq, exists_eq_left', isTy]
    exact ⟨fun _ => h', fun z => (nomatch z)⟩
  | tup ds =>
    obtain ⟨hz, he⟩ := hT ds rfl
    walk_at "dx"
    refine ⟨fun q => ?_, fun q => lc_map (fun d => .bl (isBelowD p d)) (fun d hd acc kk hk => ?_) (fun _ => trivial) hz ?_⟩
    · have e : isPairB p (.tup ds) = false := by
        show (decide (ds.length = 2) && _) = false
        rw [decide_eq_false (by omega)]
        rfl
      rw [e] at h'
      exact h'
    · walk_at "dx"
      refine ⟨d, rfl, okD_app _ (he d hd), ?_⟩
      cases d with
      | int i =>
        simp only [isIntD]
        walk_at "dx"
        by_cases h0 : 0 ≤ i
        · rw [decide_eq_true h0]
          simpa [isBelowD, h0] using hk
        · rw [decide_eq_false h0]
          simpa [isBelowD, h0] using hk
      | _ => simp only [isIntD]; walk_at "dx"; exact hk
    · walk_at "dx"
      refine ⟨ds.map (isBelowD p), by rw [List.map_map]; rfl, ?_⟩
      have e1 : (ds.map (isBelowD p)).all id = ds.all (isBelowD p) := by rw [List.all_map]; rfl
      have e2 : isPairB p (.tup ds) = ds.all (isBelowD p) := by
        show (decide (ds.length = 2) && _) = _
        rw [decide_eq_true (by omega), Bool.true_and]
      rw [e1, ← e2]
      exact wk_drop rfl cS trivial h
  | _ => walk_at "dx"; simpa [isPairB] using h'
theorem k_is_mixing_told : Keeps 1 6 t_is_mixing_told sp_is_mixing_told := by
  intro ds S k x hl cS cd h
  obtain ⟨d, rfl, hd, h⟩ := h
  show t_is_mixing_told (endsD S.length k x) [some d, none, none, none, none, none] S
  have h' := wk_now (n := S.length) h
  simp only [t_is_mixing_told]
  cases d with
  | ref n =>
    obtain ⟨xs, hx⟩ := wild_ok hd n rfl
    walk_at "dx"
    simp only [tyR_of hx, Option.some.injEq, exists_eq_left', isTy]
    exact ⟨fun _ => h', fun z => (nomatch z)⟩
  | tup ds =>
    by_cases h4 : ds.length = 4
    · obtain ⟨a, b, c, q, rfl⟩ := len4 h4
      have wa := hd.2 a (by simp)
      have wb := hd.2 b (by simp)
      have wc := hd.2 c (by simp)
      have wq := hd.2 q (by simp)
      refine dSeq_go ?_
      walk_at "dz"
      refine ⟨fun z => absurd rfl z, fun _ => ?_⟩
      refine dSeq_go ?_
      walk_at "dz"
      refine dSeq_go ?_
      walk_at "dz"
      refine ⟨a, rfl, wild_ok wa, ?_⟩
      cases a with
      | int m =>
        simp only [isIntD]
        walk_at "dz"
        refine ⟨fun q1 => ?_, fun q1 => ?_⟩
        · have e : isMixD (.tup [.int m, b, c, q]) = false := by
            unfold isMixD
            split
            · rename_i e
              simp only [D.tup.injEq, List.cons.injEq, D.int.injEq] at e
              rw [← e.1, decide_eq_false (by omega)]
              rfl
            · rfl
          rw [e] at h'
          exact h'
        · refine ⟨b, rfl, wild_ok wb, ?_⟩
          cases b with
          | int p =>
            simp only [isIntD]
            walk_at "dz"
            refine ⟨fun q2 => ?_, fun q2 => ?_⟩
            · have e : isMixD (.tup [.int m, .int p, c, q]) = false := by
                unfold isMixD
                split
                · rename_i e
                  simp only [D.tup.injEq, List.cons.injEq, D.int.injEq] at e
                  rw [← e.2.1, decide_eq_false (p := 2 ≤ p) (by omega), Bool.and_false]
                  rfl
                · rfl
              rw [e] at h'
              exact h'
            · cases c with
              | ref n =>
                obtain ⟨xs, hx⟩ := wild_ok wc n rfl
                walk_at "dx"
                simp only [tyR_of hx, Option.some.injEq, exists_eq_left', isTy]
                exact ⟨fun _ => h', fun z => (nomatch z)⟩
              | tup rows =>
                have e : isMixD (.tup [.int m, .int p, .tup rows, q]) = (!rows.isEmpty && (isPairB p q && rows.all (isPairB p))) := by
                  show (decide (1 ≤ m) && decide (2 ≤ p) && !rows.isEmpty && (isPairB p q && rows.all (isPairB p))) = _
                  rw [decide_eq_true (by omega), decide_eq_true (by omega)]
                  rfl
                rw [e] at h' h
                walk_at "dx"
                refine ⟨Nat.zero_le _, eqG_wild (n := 5) wc.2 ?_⟩
                refine ⟨fun q3 => ?_, fun q3 => ?_⟩
                · rw [q3] at h'
                  exact h'
                · rw [q3] at h' h
                  refine ⟨q, p, rfl, wild_okT (by decide) wq, ?_⟩
                  cases q4 : isPairB p q with
                  | false =>
                    rw [q4] at h'
                    walk_at "dx"
                    exact h'
                  | true =>
                    walk_at "dx"
                    refine lc_map (fun d => .bl (isPairB p d)) (fun d hd acc kk hk => ?_) (fun _ => trivial) (sl_ok _ (Nat.le_trans wc.1 (by decide))) ?_
                    · walk_at "dx"
                      exact ⟨d, p, rfl, wild_okT (by decide) (wild_app _ (wc.2 d hd)), hk⟩
                    · walk_at "dx"
                      refine ⟨rows.map (isPairB p), by rw [List.map_map]; rfl, ?_⟩
                      have e1 : (rows.map (isPairB p)).all id = rows.all (isPairB p) := by rw [List.all_map]; rfl
                      rw [e1]
                      rw [q4] at h
                      exact wk_drop rfl cS trivial h
              | _ => walk_at "dx"; exact h'
          | _ => simp only [isIntD]; walk_at "dx"; exact h'
      | _ => simp only [isIntD]; walk_at "dx"; exact h'
    · have e : isMixD (.tup ds) = false := by
        unfold isMixD
        split
        · rename_i e
          simp only [D.tup.injEq] at e
          rw [e] at h4
          exact absurd rfl h4
        · rfl
      rw [e] at h'
      walk_at "dx"
      exact ⟨fun _ => h', fun z => absurd (by omega) h4⟩
  | _ => walk_at "dx"; simpa [isMixD] using h'
theorem cl_nats (n : Nat) : ∀ l : List Nat, clDs n (l.map fun c : Nat => D.int (c : Int))
  | [] => trivial
  | _ :: l => ⟨trivial, cl_nats n l⟩
theorem k_check_from : Keeps 2 2 t_check_from sp_check_from := by
  intro ds S k x hl cS cd h
  obtain ⟨i, j, rfl, hij, h⟩ := h
  show t_check_from (endsD S.length k x) [some (.int i), some (.int j)] S
  simp only [t_check_from]
  walk_at "dx"
  refine ⟨_, rfl, okD_int, ?_⟩
  simp only [isIntD]
  walk_at "dx"
  exact ⟨fun z => by omega, fun _ => wk_now h⟩
theorem k_check_numbers : Keeps 1 3 t_check_numbers sp_check_numbers := by
  intro ds S k x hl cS cd h
  obtain ⟨d, ns, rfl, hd, hN, h⟩ := h
  show t_check_numbers (endsD S.length k x) [some d, none, none] S
  simp only [t_check_numbers]
  refine dSeq_go ?_
  have hz : ns.length ≤ sizeLine := sl_ok _ (by have := hN.2.1; omega)
  have hna : (natsD ns).map (fun d => D.bl (isNatD d)) = (ns.map fun _ => true).map D.bl := by
    rw [List.map_map, List.map_map]
    refine List.map_congr_left fun c _ => ?_
    show D.bl (decide (0 ≤ (c : Int))) = D.bl true
    rw [decide_eq_true (by omega)]
  have hal : (ns.map fun _ => true).all id = true := by
    rw [List.all_map]
    exact List.all_eq_true.mpr fun _ _ => rfl
  have hnd : (ns.map fun c : Nat => (c : Int)).Nodup := List.pairwise_map.mpr (hN.1.imp fun h e => h (by omega))
  have hl2 : (ns.map fun c : Nat => (c : Int)).length < 1000 := by rw [List.length_map]; have := hN.2.1; omega
  rcases hd with rfl | ⟨j, rfl, hj⟩
  · walk_at "dz"
    refine lc_map (fun d => .bl (isNatD d)) (fun d hd acc kk hk => ?_) (fun _ => trivial) (by rw [List.length_map]; exact hz) ?_
    · obtain ⟨c, _, rfl⟩ := List.mem_map.mp hd
      walk_at "dx"
      refine ⟨_, rfl, okD_int, ?_⟩
      simp only [isIntD]
      walk_at "dx"
      exact hk
    · rw [hna]
      walk_at "dz"
      refine ⟨_, rfl, ?_⟩
      rw [hal]
      walk_at "dx"
      refine ⟨_, (map_natint ns).symm, hnd, hl2, ?_⟩
      walk_at "dx"
      exact ⟨fun z => absurd z (by simp), fun _ => wk_drop rfl cS trivial h⟩
  · walk_at "dz"
    simp only [tyR_of hj, Option.some.injEq, exists_eq_left', isTy]
    walk_at "dz"
    refine ⟨_, hj, ?_⟩
    refine lc_map (fun d => .bl (isNatD d)) (fun d hd acc kk hk => ?_) (fun _ => lget_app hj) (by rw [List.length_map]; exact hz) ?_
    · obtain ⟨c, _, rfl⟩ := List.mem_map.mp hd
      walk_at "dx"
      refine ⟨_, rfl, okD_int, ?_⟩
      simp only [isIntD]
      walk_at "dx"
      exact hk
    · rw [hna]
      walk_at "dz"
      refine ⟨_, rfl, ?_⟩
      rw [hal]
      walk_at "dx"
      refine ⟨_, by rw [map_natint]; exact lget_app hj, hnd, hl2, ?_⟩
      walk_at "dx"
      refine ⟨_, lget_app hj, ?_⟩
      exact ⟨fun z => absurd z (by simp), fun _ => wk_drop rfl cS trivial h⟩
theorem k_mixed : Keeps 3 3 t_mixed sp_mixed := by
  intro ds S k x hl cS cd h
  obtain ⟨r, p, y, rfl, hp, hr, h⟩ := h
  show t_mixed (endsD S.length k x) [some (pairD r), some (.int p), some (.int y)] S
  simp only [t_mixed, pairD]
  walk_at "dx"
  refine ⟨.inl (.inl ⟨by omega, by omega⟩), by omega, ?_⟩
  have e : ((r.1 : Int) * (y : Int) + (r.2 : Int)) % (p : Int) = ((led r p y : Nat) : Int) := by
    unfold led
    push_cast
    rfl
  rw [e]
  exact wk_now h
def unP : D → Nat × Nat
  | .tup [.int a, .int b] => (a.toNat, b.toNat)
  | _ => (0, 0)
theorem unP_pair (r : Nat × Nat) : unP (pairD r) = r := rfl
theorem rowN_mem {m p x c : Nat} {ps : List (Nat × Nat)} (hm : 0 < m) : c ∈ rowN m p ps x ↔ ∃ r ∈ ps, led r p x % m = c := by
  unfold rowN
  rw [List.mem_filter, List.mem_range, List.any_eq_true]
  constructor
  · rintro ⟨_, r, hr, e⟩
    exact ⟨r, hr, of_decide_eq_true e⟩
  · rintro ⟨r, hr, e⟩
    exact ⟨by rw [← e]; exact Nat.mod_lt _ hm, r, hr, decide_eq_true e⟩
theorem rowN_asc (m p x : Nat) (ps : List (Nat × Nat)) : (rowN m p ps x).Pairwise (· < ·) := List.Pairwise.filter _ List.pairwise_lt_range
theorem asc_extI : ∀ {a b : List Int}, a.Pairwise (· < ·) → b.Pairwise (· < ·) → (∀ c, c ∈ a ↔ c ∈ b) → a = b
  | [], [], _, _, _ => rfl
  | [], y :: b, _, _, h => absurd ((h y).mpr List.mem_cons_self) (by simp)
  | x :: a, [], _, _, h => absurd ((h x).mp List.mem_cons_self) (by simp)
  | x :: a, y :: b, ha, hb, h => by
    rw [List.pairwise_cons] at ha hb
    have h1 := (h x).mp List.mem_cons_self
    have h2 := (h y).mpr List.mem_cons_self
    have e : x = y := by
      rcases List.mem_cons.mp h1 with e | e
      · exact e
      · rcases List.mem_cons.mp h2 with e' | e'
        · exact e'.symm
        · have := hb.1 x e
          have := ha.1 y e'
          omega
    subst e
    rw [asc_extI ha.2 hb.2 fun c => ?_]
    constructor
    · intro hc
      rcases List.mem_cons.mp ((h c).mp (List.mem_cons_of_mem _ hc)) with e | e
      · have := ha.1 c hc
        omega
      · exact e
    · intro hc
      rcases List.mem_cons.mp ((h c).mpr (List.mem_cons_of_mem _ hc)) with e | e
      · have := hb.1 c hc
        omega
      · exact e
theorem rowN_of {m p x : Nat} {ps : List (Nat × Nat)} (hm : 0 < m) {ms : List Int} (h1 : ms.Pairwise (· < ·)) (h2 : ∀ i : Int, i ∈ ms ↔ ∃ r ∈ ps, ((led r p x % m : Nat) : Int) = i) : ms = (rowN m p ps x).map fun c : Nat => (c : Int) := by
  refine asc_extI h1 (List.pairwise_map.mpr ((rowN_asc m p x ps).imp fun h => by omega)) fun i => ?_
  rw [h2 i, List.mem_map]
  constructor
  · rintro ⟨r, hr, e⟩
    exact ⟨_, (rowN_mem hm).mpr ⟨r, hr, rfl⟩, e⟩
  · rintro ⟨c, hc, e⟩
    obtain ⟨r, hr, e2⟩ := (rowN_mem hm).mp hc
    exact ⟨r, hr, by rw [e2]; exact e⟩
theorem k_row_by : Keeps 2 7 t_row_by sp_row_by := by
  intro ds S k x hl cS cd h
  obtain ⟨m, p, ps, q, y, rfl, hM, h⟩ := h
  show t_row_by (endsD S.length k x) [some (mixD m p ps q), some (.int y), none, none, none, none, none] S
  simp only [t_row_by, mixD]
  walk_at "dx"
  have hm := hM.m1
  have hlen := hM.len
  refine lc_map (fun d => .int (led (unP d) p y % m : Nat)) (fun d hd acc kk hk => ?_) (fun _ => trivial) (by rw [List.length_map, sl16]; omega) ?_
  · obtain ⟨r, hr, rfl⟩ := List.mem_map.mp hd
    rw [unP_pair] at hk
    walk_at "dx"
    refine ⟨r, p, y, rfl, by have := hM.p1; omega, by have := (hM.ps r hr).1; have := hM.p2; omega, ?_⟩
    walk_at "dx"
    refine ⟨by omega, ?_⟩
    rw [show ((led r p y : Nat) : Int) % (m : Int) = ((led r p y % m : Nat) : Int) by push_cast; rfl]
    exact hk
  · have e : (ps.map pairD).map (fun d => D.int (led (unP d) p y % m : Nat)) = (ps.map fun r => ((led r p y % m : Nat) : Int)).map D.int := by
      rw [List.map_map, List.map_map]
      exact List.map_congr_left fun r _ => rfl
    simp only [kSrtSet, isL_iff]
    refine ⟨ps.map fun r => ((led r p y % m : Nat) : Int), by rw [← e]; exact lget_end rfl, by rw [List.length_map]; omega, fun ms h1 h2 => ?_⟩
    rw [rowN_of (m := m) (p := p) (x := y) (ps := ps) (by omega) h1 fun i => by rw [h2 i, List.mem_map]]
    walk_at "dx"
    rw [map_natint]
    exact wk_drop rfl cS (cl_nats _ (rowN m p ps y)) h
theorem k_mark_by : Keeps 3 3 t_mark_by sp_mark_by := by
  intro ds S k x hl cS cd h
  obtain ⟨m, p, ps, q, w, y, rfl, hM, hw, h⟩ := h
  show t_mark_by (endsD S.length k x) [some (mixD m p ps q), some (.int w), some (.int y)] S
  simp only [t_mark_by, mixD]
  walk_at "dx"
  refine ⟨pairD q, atI3 _ _ _ _ _, q, p, y, rfl, by have := hM.p1; omega, by have := hM.q.1; have := hM.p2; omega, ?_⟩
  walk_at "dx"
  have e2 : (1 : Int) * 2 ^ ((w : Int)).toNat = ((2 ^ w : Nat) : Int) := by
    rw [Int.toNat_natCast, Int.one_mul]
    push_cast
    rfl
  rw [e2]
  have h2 : 0 < 2 ^ w := Nat.pow_pos (by decide)
  refine ⟨⟨by omega, by omega, by decide⟩, by omega, ?_⟩
  rw [show ((led q p y : Nat) : Int) % ((2 ^ w : Nat) : Int) = ((led q p y % 2 ^ w : Nat) : Int) by push_cast; rfl]
  exact wk_now h
theorem cl_rowsM (n m p : Nat) (ps : List (Nat × Nat)) : ∀ ns : List Nat, clDs n (ns.map fun x => D.tup (natsD (rowN m p ps x)))
  | [] => trivial
  | x :: ns => ⟨cl_nats n _, cl_rowsM n m p ps ns⟩
theorem cl_bkM (n m p : Nat) (ps : List (Nat × Nat)) (ns : List Nat) : clD n (bkM m p ps ns) := ⟨trivial, cl_rowsM n m p ps ns, trivial⟩
theorem atI_last {α : Type} (l : List α) (a : α) : atI (l ++ [a]) (-1) = some a := by
  have e : ixN (l ++ [a]).length (-1) = some l.length := by
    unfold ixN
    rw [List.length_append, List.length_singleton]
    rw [if_neg (by decide), if_pos (by omega)]
    congr 1
    omega
  unfold atI
  rw [e]
  exact List.getElem?_concat_length ..
theorem cut_init (l : List D) (a : D) : cutD (l ++ [a]) none (some (-1)) = l := by
  unfold cutD
  have e : HT.sIx (l ++ [a]).length (l ++ [a]).length (some (-1)) = l.length := by
    rw [List.length_append, List.length_singleton]
    show (if (-1 : Int) < 0 then ((-1 : Int) + ((l.length + 1 : Nat) : Int)).toNat else min (-1 : Int).toNat (l.length + 1)) = l.length
    rw [if_pos (by decide)]
    omega
  rw [e]
  show (List.drop 0 (l ++ [a])).take (l.length - 0) = l
  rw [List.drop_zero, Nat.sub_zero, List.take_append_of_le_length (Nat.le_refl _), List.take_length]
theorem cl_pairs (n : Nat) : ∀ l : List (Nat × Nat), clDs n (l.map pairD)
  | [] => trivial
  | _ :: l => ⟨⟨trivial, trivial, trivial⟩, cl_pairs n l⟩
theorem cl_mixD (n m p : Nat) (ps : List (Nat × Nat)) (q : Nat × Nat) : clD n (mixD m p ps q) := ⟨trivial, trivial, cl_pairs n ps, ⟨trivial, trivial, trivial⟩, trivial⟩
end Q
open Q
local macro_rules | `(tactic| walk_at "dx") => `(tactic| try simp only [dSeq, dDrop, kDrop, dRet, dRetN, dIf, kIf, dNever, dNext, dBreak, dCont, dSet, kSet, dPar, kPar, dPar3, kPar3, dAug, kAug, dAsg, kAsg, gNm, gsNil, gsCons, gTp, gUl, gSb, kGs1, kGs2, rSet, dFor, kFor, dLc, dYes, wipeD, dRaise, kRaise, dTry, wTry, clrM, clrD, putD', dXv, kXv,
  dC, dVar, dUn, dOp, kOp1, kOp2, dTst, kB, dAnd, kAnd, dOr, kOr, dNot, kNot, dAndV, kAndV, dOrV, kOrV, dNotV, kNotV, dIfE, kIfE, dNil, dCons, kCons1, kCons2, dTup, kTup, dLst, kLst, dCall, kCall, spN, dCallK, kCK1, kCK2, pick, dMet, kM1, kM2, isLst, rApp, dSl, kSl1, kSl2, kSl3, rSl, dNoP, dPart, kPart,
  rAdd, rSub, rMul, rMulT, rInP, rFdiv, rMod, rPow, rShl, rShr, rAnd, rXor, rNeg, rEq, rNe, rLt, rLe, rGt, rGe, rIs, rIsNot, isNon, rIx, rIsi, rIsi2, isTy, spLen, spInt, spTuple, spAll, spAny, spMax, spMin, spAbs, spList, rIn, rNotIn, rIns, dRevL, kRev, dBack, kBack, dLc2, iEn, kEn, dSrtSet, kSrtSet, dChain, kCh1, kCh2, kCh3, iZp, kZp, dLenNew, dLenSet, kLenSet, kLenNew, dDicE, isDic, rDset, dDget, kDg1, kDg2, dDget2, kDh1, kDh2, kDh3, rDget, gDb, kGd1, kGd2, dStp, kSt0, kSt1, kSt2, spSumB, rDin, dBits, kBits, rDnin, spLenD, dAugS, kAs1, kAs2, kAs3, kAs4, rRem, rIdx, spStr, dJoin, kJoin1, kJoin2, rPop1, rPop0, rRev, dDc, dTupRg, kTupRg, dLstRg, kLstRg, iSq, iRg1, kRg1, iRg2, kRg2, rIAdd, endsD,
  isL_iff, atI0, atI1, atI2, get_at0, get_at, List.set_set, List.length_set, lget_at0, lget_at, lget_hd, lget_tl, set_at0, set_at, app1, List.nil_append, List.cons_append, List.length_cons, List.length_nil, List.length_append,
  List.getElem?_cons_zero, List.getElem?_cons_succ, List.set_cons_zero, List.set_cons_succ, List.getElem?_nil, List.filterMap_cons, List.filterMap_nil, List.append_nil,
  Option.some.injEq, O.lst.injEq, exists_eq_left', exists_eq_left, exists_eq', List.cons.injEq, D.int.injEq, D.bl.injEq, D.tup.injEq, D.ref.injEq, D.str.injEq, Int.natCast_inj, true_and, and_true, and_self, Nat.reduceAdd, Nat.zero_add, Bool.not_true, Bool.not_false, reduceCtorEq, forall_const, imp_self, not_true_eq_false, not_false_eq_true, false_implies, true_implies, implies_true, Bool.true_eq_false, Bool.false_eq_true, Bool.true_or, Bool.or_true, Bool.false_or, Bool.or_false, Bool.and_true, Bool.true_and, decide_eq_true_eq, decide_eq_false_iff_not, Bool.not_eq_true', Bool.not_eq_false', decide_true, decide_false, or_false, false_or, exists_false, exists_and_left, and_assoc])
local macro_rules | `(tactic| walk_at "dz") => `(tactic| try simp only [dDrop, kDrop, dRet, dRetN, dIf, kIf, dNever, dNext, dBreak, dCont, dSet, kSet, dPar, kPar, dPar3, kPar3, dAug, kAug, dAsg, kAsg, gNm, gsNil, gsCons, gTp, gUl, gSb, kGs1, kGs2, rSet, dFor, kFor, dLc, dYes, wipeD, dRaise, kRaise, dTry, wTry, clrM, clrD, putD', dXv, kXv,
  dC, dVar, dUn, dOp, kOp1, kOp2, dTst, kB, dAnd, kAnd, dOr, kOr, dNot, kNot, dAndV, kAndV, dOrV, kOrV, dNotV, kNotV, dIfE, kIfE, dNil, dCons, kCons1, kCons2, dTup, kTup, dLst, kLst, dCall, kCall, spN, dCallK, kCK1, kCK2, pick, dMet, kM1, kM2, isLst, rApp, dSl, kSl1, kSl2, kSl3, rSl, dNoP, dPart, kPart,
  rAdd, rSub, rMul, rMulT, rInP, rFdiv, rMod, rPow, rShl, rShr, rAnd, rXor, rNeg, rEq, rNe, rLt, rLe, rGt, rGe, rIs, rIsNot, isNon, rIx, rIsi, rIsi2, isTy, spLen, spInt, spTuple, spAll, spAny, spMax, spMin, spAbs, spList, rIn, rNotIn, rIns, dRevL, kRev, dBack, kBack, dLc2, iEn, kEn, dSrtSet, kSrtSet, dChain, kCh1, kCh2, kCh3, iZp, kZp, dLenNew, dLenSet, kLenSet, kLenNew, dDicE, isDic, rDset, dDget, kDg1, kDg2, dDget2, kDh1, kDh2, kDh3, rDget, gDb, kGd1, kGd2, dStp, kSt0, kSt1, kSt2, spSumB, rDin, dBits, kBits, rDnin, spLenD, dAugS, kAs1, kAs2, kAs3, kAs4, rRem, rIdx, spStr, dJoin, kJoin1, kJoin2, rPop1, rPop0, rRev, dDc, dTupRg, kTupRg, dLstRg, kLstRg, iSq, iRg1, kRg1, iRg2, kRg2, rIAdd, endsD,
  isL_iff, atI0, atI1, atI2, get_at0, get_at, List.set_set, List.length_set, lget_at0, lget_at, lget_hd, lget_tl, set_at0, set_at, app1, List.nil_append, List.cons_append, List.length_cons, List.length_nil, List.length_append,
  List.getElem?_cons_zero, List.getElem?_cons_succ, List.set_cons_zero, List.set_cons_succ, List.getElem?_nil, List.filterMap_cons, List.filterMap_nil, List.append_nil,
  Option.some.injEq, O.lst.injEq, exists_eq_left', exists_eq_left, exists_eq', List.cons.injEq, D.int.injEq, D.bl.injEq, D.tup.injEq, D.ref.injEq, D.str.injEq, Int.natCast_inj, true_and, and_true, and_self, Nat.reduceAdd, Nat.zero_add, Bool.not_true, Bool.not_false, reduceCtorEq, forall_const, imp_self, not_true_eq_false, not_false_eq_true, false_implies, true_implies, implies_true, Bool.true_eq_false, Bool.false_eq_true, Bool.true_or, Bool.or_true, Bool.false_or, Bool.or_false, Bool.and_true, Bool.true_and, decide_eq_true_eq, decide_eq_false_iff_not, Bool.not_eq_true', Bool.not_eq_false', decide_true, decide_false, or_false, false_or, exists_false, exists_and_left, and_assoc])
namespace Q
open PySem
open Spec PyProof.Rows L2
/-! ### words, sums, draws (k34, k35) -/
def bitsFrom (p : Nat) : Nat → Nat → List Nat
  | 0, _ => []
  | fuel + 1, r => if r = 0 then [] else if r % 2 = 1 then p :: bitsFrom (p + 1) fuel (r / 2) else bitsFrom (p + 1) fuel (r / 2)
/-- the places of the bits of a word -/
def bitsN (n : Nat) : List Nat := bitsFrom 0 n n
def intsN (l : List Nat) : List D := l.map fun i : Nat => D.int (i : Int)
theorem pds_ints (n : Nat) : ∀ l : List Nat, pds n (intsN l) = true
  | [] => rfl
  | a :: l => by
    show (pd n (.int a) && pds n (intsN l)) = true
    rw [pds_ints n l]
    cases n <;> rfl
def sp_bits_of : SpD := fun ds S k _ => ∃ n : Nat, ds = [.int n] ∧ n < 2 ^ 100000 ∧ k (.tup (intsN (bitsN n))) S
/-- the least width -/
def widthN (n : Nat) : Nat := if n = 0 then 1 else n.log2 + 1
def sp_width_of : SpD := fun ds S k _ => ∃ n : Nat, ds = [.int n] ∧ n < 2 ^ 100000 ∧ k (.int (widthN n)) S
def isWordD (w : Nat) : D → Bool
  | .int i => decide (0 ≤ i ∧ i < 2 ^ w)
  | _ => false
def sp_is_word_of : SpD := fun ds S k _ => ∃ (w : Nat) (d : D), ds = [.int w, d] ∧ okD S d ∧ 1 ≤ w ∧ (∀ i, d = .int i → i < 2 ^ 100000) ∧ k (.bl (isWordD w d)) S
/-- the sum of words -/
def xorN (l : List Nat) : Nat := l.foldl (· ^^^ ·) 0
def pickN (tb row : List Nat) : List Nat := row.map fun c => tb.getD c 0
def sp_sum_of_words : SpD := fun ds S k _ => ∃ (j : Nat) (ns : List Nat), ds = [.ref j] ∧ lget S j = some (natsD ns) ∧ k (.int (xorN ns : Nat)) S
def sp_told_by_row : SpD := fun ds S k _ => ∃ tb row : List Nat, ds = [.tup (natsD tb), .tup (natsD row)] ∧ (∀ c ∈ row, c < tb.length) ∧ row.length ≤ 1000 ∧ k (.int (xorN (pickN tb row) : Nat)) S
abbrev wellO (a b c : Nat) : O := .lst [.int (a : Int), .int (b : Int), .int (c : Int)]
def sp__law_well : SpD := fun ds S k _ => ∃ (n p : Nat) (ns : List Int), ds = [.ref n, .int p] ∧ S[n]? = some (.ro (ns.map D.int)) ∧ p < 2 ^ 32 ∧ ns.length ≤ sizeLine ∧ ∀ a b : Nat, b < 2 ^ 100 → k (.ref S.length) (S ++ [wellO a b 0])
def sp__law_dip : SpD := fun ds S k _ => ∃ n a b c many : Nat, ds = [.ref n, .int many] ∧ 0 < many ∧ many < 2 ^ 300 ∧ S[n]? = some (wellO a b c) ∧ b < 2 ^ 100 ∧ c < 2 ^ 60 ∧ ∀ r a' c' : Nat, r < many → c' ≤ c + 1 → k (.int r) (S.set n (wellO a' b c'))
def spr__law_same : Nat → SpD
  | 0 => fun _ _ _ _ => False
  | n + 1 => fun ds S k _ => ∃ d e, ds = [d, e] ∧ sameD S n d e ∧ k (.bl true) S
def sp__law_same : SpD := spr__law_same 9
theorem spr__law_same_zero {ds : List D} {S : Sto} {k : KD} {x : XD} (h : spr__law_same 0 ds S k x) : False := h
def sp__law_sum : SpD := fun ds S k _ => ∃ (j : Nat) (ns : List Nat), ds = [.ref j] ∧ lget S j = some (natsD ns) ∧ k (.int (xorN ns : Nat)) S
def sp__law_power : SpD := fun ds S k _ => ∃ n : Nat, ds = [.int n] ∧ n ≤ 1000 ∧ k (.int (2 ^ n : Nat)) S
/-- bits_of(a); slots: 0 a, 1 found, 2 place, 3 rest -/
def t_bits_of : TSD := (dSeq (dPar3 1 2 3 (dCons (dLst dNil) (dCons (dC (.int 0)) (dCons (dVar 0) dNil)))) (dSeq (dWhile (dTst (dOp rGt (dVar 3) (dC (.int 0)))) (dSeq (dIf (dTst (dOp rEq (dOp rMod (dVar 3) (dC (.int 2))) (dC (.int 1)))) (dDrop (dMet rApp (dVar 1) (dCons (dVar 2) dNil))) dNext) (dPar 3 2 (dCons (dOp rFdiv (dVar 3) (dC (.int 2))) (dCons (dOp rAdd (dVar 2) (dC (.int 1))) dNil))))) (dRet (dCall spTuple (dCons (dVar 1) dNil)))))
/-- width_of(a); slots: 0 a, 1 places -/
def t_width_of : TSD := (dSeq (dSet 1 (dCall (spN 1 sp_bits_of) (dCons (dVar 0) dNil))) (dRet (dIfE (dTst (dOp rNe (dVar 1) (dTup dNil))) (dOp rAdd (dOp rIx (dVar 1) (dUn rNeg (dC (.int 1)))) (dC (.int 1))) (dC (.int 1)))))
/-- is_word_of(w, told); slots: 0 w, 1 told -/
def t_is_word_of : TSD := (dRet (dAndV (dCall (spN 1 sp_is_natural) (dCons (dVar 1) dNil)) (dOp rLe (dCall (spN 1 sp_width_of) (dCons (dVar 1) dNil)) (dVar 0))))
/-- sum_of_words(words); slots: 0 words, 1 total, 2 word -/
def t_sum_of_words : TSD := (dSeq (dSet 1 (dC (.int 0))) (dSeq (dFor (iSq (dVar 0)) (gNm 2) (dSet 1 (dOp rXor (dVar 1) (dVar 2)))) (dRet (dVar 1))))
/-- told_by_row(table, row); slots: 0 table, 1 row, 2 cell -/
def t_told_by_row : TSD := (dRet (dCall (spN 1 sp_sum_of_words) (dCons (dLc (iSq (dVar 1)) (gNm 2) dYes (dOp rIx (dVar 0) (dVar 2)) [2]) dNil)))
/-- _law_well(_law_script, _law_place); slots: 0 _law_script, 1 _law_place, 2 _law_cell -/
def t__law_well : TSD := (dSeq (dSet 2 (dIfE (dTst (dOp rLt (dVar 1) (dCall spLen (dCons (dVar 0) dNil)))) (dOp rIx (dVar 0) (dVar 1)) (dOp rAdd (dOp rMul (dVar 1) (dC (.int 7919))) (dOp rMul (dCall spLen (dCons (dVar 0) dNil)) (dC (.int 104729)))))) (dRet (dLst (dCons (dCall spMax (dCons (dC (.int 0)) (dCons (dOp rSub (dCall spAbs (dCons (dVar 2) dNil)) (dOp rPow (dC (.int 10)) (dC (.int 18)))) dNil))) (dCons (dOp rMod (dCall spInt (dCons (dOp rAdd (dOp rAdd (dOp rMul (dVar 2) (dC (.int 48611))) (dOp rMul (dVar 1) (dC (.int 6700417)))) (dC (.int 31337))) dNil)) (dOp rAdd (dOp rPow (dC (.int 10)) (dC (.int 24))) (dC (.int 7)))) (dCons (dC (.int 0)) dNil))))))
/-- _law_dip(_law_well_here, _law_many); slots: 0 _law_well_here, 1 _law_many, 2 _law_figure, 3 _law_mixed -/
def t__law_dip : TSD := (dSeq (dIf (dTst (dOp rGt (dOp rIx (dVar 0) (dC (.int 0))) (dC (.int 0)))) (dSeq (dSet 2 (dOp rMod (dCall spInt (dCons (dOp rIx (dVar 0) (dC (.int 0))) dNil)) (dVar 1))) (dSeq (dAsg (dOp rFdiv (dOp rIx (dVar 0) (dC (.int 0))) (dVar 1)) (gSb (dVar 0) (dC (.int 0)))) (dRet (dVar 2)))) dNext) (dSeq (dAsg (dOp rAdd (dOp rIx (dVar 0) (dC (.int 2))) (dC (.int 1))) (gSb (dVar 0) (dC (.int 2)))) (dSeq (dSet 3 (dOp rMod (dOp rPow (dCall spInt (dCons (dOp rAdd (dOp rIx (dVar 0) (dC (.int 1))) (dOp rMul (dC (.int 1000003)) (dOp rIx (dVar 0) (dC (.int 2))))) dNil)) (dC (.int 3))) (dOp rAdd (dOp rPow (dC (.int 10)) (dC (.int 25))) (dC (.int 13))))) (dSeq (dSet 3 (dOp rMod (dOp rPow (dCall spInt (dCons (dOp rAdd (dVar 3) (dOp rMul (dC (.int 77347)) (dOp rIx (dVar 0) (dC (.int 2))))) dNil)) (dC (.int 2))) (dOp rAdd (dOp rPow (dC (.int 10)) (dC (.int 24))) (dC (.int 7))))) (dRet (dOp rMod (dCall spInt (dCons (dOp rFdiv (dVar 3) (dC (.int 4096))) dNil)) (dVar 1)))))))
/-- _law_same(_law_told, _law_due); slots: 0 _law_told, 1 _law_due, 2 _law_kind, 3 _law_spot -/
def t__law_same (r : SpD) : TSD := (dSeq (dIf (dTst (dOp rIs (dVar 1) (dC .non))) (dRet (dOp rIs (dVar 0) (dC .non))) dNext) (dSeq (dIf (dTst (dUn (rIsi .bool) (dVar 1))) (dRet (dAndV (dUn (rIsi .bool) (dVar 0)) (dOp rEq (dVar 0) (dVar 1)))) dNext) (dSeq (dIf (dOr (dTst (dUn (rIsi .tuple) (dVar 1))) (dTst (dUn (rIsi .list) (dVar 1)))) (dSeq (dSet 2 (dIfE (dTst (dUn (rIsi .tuple) (dVar 1))) (dUn (rIsi .tuple) (dVar 0)) (dUn (rIsi .list) (dVar 0)))) (dSeq (dIf (dOr (dNot (dTst (dVar 2))) (dTst (dOp rNe (dCall spLen (dCons (dVar 0) dNil)) (dCall spLen (dCons (dVar 1) dNil))))) (dRet (dC (.bl false))) dNext) (dSeq (dFor (iRg1 (dCons (dCall spLen (dCons (dVar 1) dNil)) dNil)) (gNm 3) (dIf (dNot (dTst (dCall (spN 2 r) (dCons (dOp rIx (dVar 0) (dVar 3)) (dCons (dOp rIx (dVar 1) (dVar 3)) dNil))))) (dRet (dC (.bl false))) dNext)) (dRet (dC (.bl true)))))) dNext) (dSeq (dIf (dTst (dUn (rIsi .str) (dVar 1))) (dRet (dAndV (dUn (rIsi .str) (dVar 0)) (dOp rEq (dVar 0) (dVar 1)))) dNext) (dRet (dAndV (dUn (rIsi .int) (dVar 0)) (dAndV (dNotV (dUn (rIsi .bool) (dVar 0))) (dOp rEq (dVar 0) (dVar 1)))))))))
/-- _law_sum(_law_some); slots: 0 _law_some, 1 _law_total, 2 _law_word -/
def t__law_sum : TSD := (dSeq (dSet 1 (dC (.int 0))) (dSeq (dFor (iSq (dVar 0)) (gNm 2) (dSet 1 (dOp rXor (dVar 1) (dVar 2)))) (dRet (dVar 1))))
/-- _law_power(_law_many); slots: 0 _law_many, 1 _law_found, 2 _law_turn -/
def t__law_power : TSD := (dSeq (dSet 1 (dC (.int 1))) (dSeq (dFor (iRg1 (dCons (dVar 0) dNil)) (gNm 2) (dSet 1 (dOp rMul (dC (.int 2)) (dVar 1)))) (dRet (dVar 1))))

local macro_rules | `(tactic| walk_at "dzs") => `(tactic| try simp only [sp_is_natural, sp_bits_of, sp_width_of, sp_is_word_of, isNatD, dDrop, kDrop, dRet, dRetN, dIf, kIf, dNever, dNext, dBreak, dCont, dSet, kSet, dPar, kPar, dPar3, kPar3, dAug, kAug, dAsg, kAsg, gNm, gsNil, gsCons, gTp, gUl, gSb, kGs1, kGs2, rSet, dFor, kFor, dLc, dYes, wipeD, dRaise, kRaise, dTry, wTry, clrM, clrD, putD', dXv, kXv,
  dC, dVar, dUn, dOp, kOp1, kOp2, dTst, kB, dAnd, kAnd, dOr, kOr, dNot, kNot, dAndV, kAndV, dOrV, kOrV, dNotV, kNotV, dIfE, kIfE, dNil, dCons, kCons1, kCons2, dTup, kTup, dLst, kLst, dCall, kCall, spN, dCallK, kCK1, kCK2, pick, dMet, kM1, kM2, isLst, rApp, dSl, kSl1, kSl2, kSl3, rSl, dNoP, dPart, kPart,
  rAdd, rSub, rMul, rMulT, rInP, rFdiv, rMod, rPow, rShl, rShr, rAnd, rXor, rNeg, rEq, rNe, rLt, rLe, rGt, rGe, rIs, rIsNot, isNon, rIx, rIsi, rIsi2, isTy, spLen, spInt, spTuple, spAll, spAny, spMax, spMin, spAbs, spList, rIn, rNotIn, rIns, dRevL, kRev, dBack, kBack, dLc2, iEn, kEn, dSrtSet, kSrtSet, dChain, kCh1, kCh2, kCh3, iZp, kZp, dLenNew, dLenSet, kLenSet, kLenNew, dDicE, isDic, rDset, dDget, kDg1, kDg2, dDget2, kDh1, kDh2, kDh3, rDget, gDb, kGd1, kGd2, dStp, kSt0, kSt1, kSt2, spSumB, rDin, dBits, kBits, rDnin, spLenD, dAugS, kAs1, kAs2, kAs3, kAs4, rRem, rIdx, spStr, dJoin, kJoin1, kJoin2, rPop1, rPop0, rRev, dDc, dTupRg, kTupRg, dLstRg, kLstRg, iSq, iRg1, kRg1, iRg2, kRg2, rIAdd, endsD,
  isL_iff, atI0, atI1, atI2, get_at0, get_at, List.set_set, List.length_set, lget_at0, lget_at, lget_hd, lget_tl, set_at0, set_at, app1, List.nil_append, List.cons_append, List.length_cons, List.length_nil, List.length_append,
  List.getElem?_cons_zero, List.getElem?_cons_succ, List.set_cons_zero, List.set_cons_succ, List.getElem?_nil, List.filterMap_cons, List.filterMap_nil, List.append_nil,
  Option.some.injEq, O.lst.injEq, exists_eq_left', exists_eq_left, exists_eq', List.cons.injEq, D.int.injEq, D.bl.injEq, D.tup.injEq, D.ref.injEq, D.str.injEq, Int.natCast_inj, true_and, and_true, and_self, Nat.reduceAdd, Nat.zero_add, Bool.not_true, Bool.not_false, reduceCtorEq, forall_const, imp_self, not_true_eq_false, not_false_eq_true, false_implies, true_implies, implies_true, Bool.true_eq_false, Bool.false_eq_true, Bool.true_or, Bool.or_true, Bool.false_or, Bool.or_false, Bool.and_true, Bool.true_and, decide_eq_true_eq, decide_eq_false_iff_not, Bool.not_eq_true', Bool.not_eq_false', decide_true, decide_false, or_false, false_or, exists_false, exists_and_left, and_assoc])
local macro_rules | `(tactic| walk_at "ds") => `(tactic| try simp only [sp_is_natural, sp_bits_of, sp_width_of, sp_is_word_of, isNatD, dSeq, dDrop, kDrop, dRet, dRetN, dIf, kIf, dNever, dNext, dBreak, dCont, dSet, kSet, dPar, kPar, dPar3, kPar3, dAug, kAug, dAsg, kAsg, gNm, gsNil, gsCons, gTp, gUl, gSb, kGs1, kGs2, rSet, dFor, kFor, dLc, dYes, wipeD, dRaise, kRaise, dTry, wTry, clrM, clrD, putD', dXv, kXv,
  dC, dVar, dUn, dOp, kOp1, kOp2, dTst, kB, dAnd, kAnd, dOr, kOr, dNot, kNot, dAndV, kAndV, dOrV, kOrV, dNotV, kNotV, dIfE, kIfE, dNil, dCons, kCons1, kCons2, dTup, kTup, dLst, kLst, dCall, kCall, spN, dCallK, kCK1, kCK2, pick, dMet, kM1, kM2, isLst, rApp, dSl, kSl1, kSl2, kSl3, rSl, dNoP, dPart, kPart,
  rAdd, rSub, rMul, rMulT, rInP, rFdiv, rMod, rPow, rShl, rShr, rAnd, rXor, rNeg, rEq, rNe, rLt, rLe, rGt, rGe, rIs, rIsNot, isNon, rIx, rIsi, rIsi2, isTy, spLen, spInt, spTuple, spAll, spAny, spMax, spMin, spAbs, spList, rIn, rNotIn, rIns, dRevL, kRev, dBack, kBack, dLc2, iEn, kEn, dSrtSet, kSrtSet, dChain, kCh1, kCh2, kCh3, iZp, kZp, dLenNew, dLenSet, kLenSet, kLenNew, dDicE, isDic, rDset, dDget, kDg1, kDg2, dDget2, kDh1, kDh2, kDh3, rDget, gDb, kGd1, kGd2, dStp, kSt0, kSt1, kSt2, spSumB, rDin, dBits, kBits, rDnin, spLenD, dAugS, kAs1, kAs2, kAs3, kAs4, rRem, rIdx, spStr, dJoin, kJoin1, kJoin2, rPop1, rPop0, rRev, dDc, dTupRg, kTupRg, dLstRg, kLstRg, iSq, iRg1, kRg1, iRg2, kRg2, rIAdd, endsD,
  isL_iff, atI0, atI1, atI2, get_at0, get_at, List.set_set, List.length_set, lget_at0, lget_at, lget_hd, lget_tl, set_at0, set_at, app1, List.nil_append, List.cons_append, List.length_cons, List.length_nil, List.length_append,
  List.getElem?_cons_zero, List.getElem?_cons_succ, List.set_cons_zero, List.set_cons_succ, List.getElem?_nil, List.filterMap_cons, List.filterMap_nil, List.append_nil,
  Option.some.injEq, O.lst.injEq, exists_eq_left', exists_eq_left, exists_eq', List.cons.injEq, D.int.injEq, D.bl.injEq, D.tup.injEq, D.ref.injEq, D.str.injEq, Int.natCast_inj, true_and, and_true, and_self, Nat.reduceAdd, Nat.zero_add, Bool.not_true, Bool.not_false, reduceCtorEq, forall_const, imp_self, not_true_eq_false, not_false_eq_true, false_implies, true_implies, implies_true, Bool.true_eq_false, Bool.false_eq_true, Bool.true_or, Bool.or_true, Bool.false_or, Bool.or_false, Bool.and_true, Bool.true_and, decide_eq_true_eq, decide_eq_false_iff_not, Bool.not_eq_true', Bool.not_eq_false', decide_true, decide_false, or_false, false_or, exists_false, exists_and_left, and_assoc])
theorem bits_fuel : ∀ (f g p r : Nat), r ≤ f → r ≤ g → bitsFrom p f r = bitsFrom p g r
  | 0, 0, _, _, _, _ => rfl
  | 0, g + 1, p, r, h, _ => by
    have : r = 0 := by omega
    subst this
    simp [bitsFrom]
  | f + 1, 0, p, r, _, h => by
    have : r = 0 := by omega
    subst this
    simp [bitsFrom]
  | f + 1, g + 1, p, r, h, h' => by
    unfold bitsFrom
    rw [bits_fuel f g (p + 1) (r / 2) (by omega) (by omega)]
theorem bits_step (p r : Nat) (h : 0 < r) : bitsFrom p r r = (if r % 2 = 1 then [p] else []) ++ bitsFrom (p + 1) (r / 2) (r / 2) := by
  obtain ⟨f, rfl⟩ : ∃ f, r = f + 1 := ⟨r - 1, by omega⟩
  rw [bitsFrom, if_neg (by omega), bits_fuel f ((f + 1) / 2) (p + 1) ((f + 1) / 2) (by omega) (by omega)]
  split <;> simp
theorem cl_ints (m : Nat) : ∀ l : List Nat, clDs m (intsN l)
  | [] => trivial
  | a :: l => ⟨trivial, cl_ints m l⟩
theorem intsN_app (l m : List Nat) : intsN (l ++ m) = intsN l ++ intsN m := by simp [intsN]
theorem intsN_len (l : List Nat) : (intsN l).length = l.length := by simp [intsN]
theorem k_bits_of : Keeps 1 4 t_bits_of sp_bits_of := by
  intro ds S k x hl cS cd h
  obtain ⟨n, rfl, hn, h⟩ := h
  show t_bits_of (endsD S.length k x) [some (.int n), none, none, none] S
  simp only [t_bits_of]
  walk_at "dx"
  refine ⟨by decide, dWhile_by (fun m sg S' => ∃ (p r : Nat) (acc : List Nat), sg = [some (.int n), some (.ref S.length), some (.int p), some (.int r)] ∧ S' = S ++ [.lst (intsN acc)] ∧ acc ++ bitsFrom p r r = bitsN n ∧ m = r ∧ acc.length ≤ p ∧ r * 2 ^ p ≤ n) n
    ⟨0, n, [], rfl, rfl, rfl, rfl, Nat.le_refl _, by omega⟩ ?_⟩
  rintro m sg S' nx ⟨p, r, acc, rfl, rfl, hb, rfl, ha, hp⟩ hnx
  walk_at "dx"
  refine ⟨fun h0 => ?_, fun h0 => ?_⟩
  · have h0 : 0 < m := by omega
    have hp2 : 2 ^ p < 2 ^ 100000 := Nat.lt_of_le_of_lt (Nat.le_trans (Nat.le_mul_of_pos_left _ h0) hp) hn
    have hpl : p < 100000 := (Nat.pow_lt_pow_iff_right (by decide)).mp hp2
    have hc : CDivW (m : Int) 2 := ⟨by decide, by decide⟩
    have hq : m / 2 * 2 ^ (p + 1) ≤ n := by
      rw [Nat.pow_succ, Nat.mul_comm (2 ^ p) 2, ← Nat.mul_assoc]
      exact Nat.le_trans (Nat.mul_le_mul_right _ (Nat.div_mul_le_self m 2)) hp
    refine ⟨by decide, fun h1 => ⟨by rw [intsN_len, sl16]; omega, hc, hnx (m / 2) _ _ (by omega) ⟨p + 1, m / 2, acc ++ [p], by simp, by rw [intsN_app]; rfl, ?_, rfl, by simp; omega, hq⟩⟩, fun h1 => ⟨hc, hnx (m / 2) _ _ (by omega) ⟨p + 1, m / 2, acc, by simp, rfl, ?_, rfl, by omega, hq⟩⟩⟩
    · rw [← hb, bits_step p m h0, if_pos (by omega), List.append_assoc]
    · rw [← hb, bits_step p m h0, if_neg (by omega), List.nil_append]
  · have h0 : m = 0 := by omega
    subst h0
    rw [show bitsFrom p 0 0 = [] from rfl, List.append_nil] at hb
    rw [hb]
    exact wk_drop rfl cS (cl_ints _ _) h
theorem bits_last : ∀ (n p : Nat), 0 < n → ∃ l, bitsFrom p n n = l ++ [p + n.log2] := by
  intro n
  induction n using Nat.strongRecOn with
  | ind n ih =>
    intro p h
    rw [bits_step p n h]
    by_cases h1 : n / 2 = 0
    · have : n = 1 := by omega
      subst this
      exact ⟨[], rfl⟩
    · obtain ⟨l, hl⟩ := ih (n / 2) (by omega) (p + 1) (by omega)
      rw [hl]
      refine ⟨(if n % 2 = 1 then [p] else []) ++ l, ?_⟩
      rw [List.append_assoc]
      congr 2
      have : n.log2 = (n / 2).log2 + 1 := by
        rw [Nat.log2_def, if_pos (by omega)]
      rw [this]
      simp
      omega
theorem k_width_of : Keeps 1 2 t_width_of sp_width_of := by
  intro ds S k x hl cS cd h
  obtain ⟨n, rfl, hn, h⟩ := h
  show t_width_of (endsD S.length k x) [some (.int n), none] S
  have h' := wk_now (n := S.length) h
  simp only [t_width_of]
  walk_at "ds"
  refine ⟨hn, Nat.zero_le _, eqG_pure 1 1 (pds_ints 0 _) rfl ?_⟩
  rw [eqD_tup, eqDs_nil]
  by_cases h0 : n = 0
  · subst h0
    exact ⟨fun z => (by cases z), fun _ => h'⟩
  · obtain ⟨l, hl⟩ := bits_last n 0 (by omega)
    have e : intsN (bitsN n) = intsN l ++ [.int (n.log2 : Nat)] := by
      unfold bitsN
      rw [hl, intsN_app, Nat.zero_add]
      rfl
    rw [e]
    refine ⟨fun _ => ⟨_, atI_last _ _, ?_⟩, fun z => (by simp at z)⟩
    unfold widthN at h'
    rw [if_neg h0] at h'
    exact h'
theorem width_le (w n : Nat) (h : 1 ≤ w) : widthN n ≤ w ↔ n < 2 ^ w := by
  unfold widthN
  by_cases h0 : n = 0
  · subst h0
    rw [if_pos rfl]
    exact ⟨fun _ => Nat.two_pow_pos w, fun _ => h⟩
  · rw [if_neg h0, ← Nat.log2_lt h0]
    exact Iff.rfl
theorem k_is_word_of : Keeps 2 2 t_is_word_of sp_is_word_of := by
  intro ds S k x hl cS cd h
  obtain ⟨w, d, rfl, hd, h1, hi, h⟩ := h
  show t_is_word_of (endsD S.length k x) [some (.int w), some d] S
  have h' := wk_now (n := S.length) h
  simp only [t_is_word_of]
  walk_at "ds"
  refine ⟨hd, ?_⟩
  cases d <;> (simp only [isNatD]; walk_at "ds"; try simpa [isWordD] using h')
  rename_i i
  refine ⟨fun h0 => ⟨i.toNat, by omega, ?_, ?_⟩, fun h0 => by simpa [isWordD, h0] using h'⟩
  · have := hi i rfl
    have e : i = (i.toNat : Int) := by omega
    rw [e] at this
    exact_mod_cast this
  · have e : isWordD w (.int i) = decide ((widthN i.toNat : Int) ≤ w) := by
      have q := width_le w i.toNat h1
      have e3 : (i < 2 ^ w) ↔ (i.toNat < 2 ^ w) := by
        conv => lhs; rw [show i = (i.toNat : Int) by omega]
        exact_mod_cast Iff.rfl
      show decide (0 ≤ i ∧ i < 2 ^ w) = _
      rw [decide_eq_decide, e3, ← q]
      constructor
      · intro z; exact_mod_cast z.2
      · intro z; exact ⟨h0, by exact_mod_cast z⟩
    rw [e] at h'
    exact h'
theorem add_eq (m : Nat) : ∀ n : Nat, m + n = (m ^^^ n) + 2 * (m &&& n) := by
  induction m using Nat.strongRecOn with
  | ind m ih =>
    intro n
    by_cases h : m = 0
    · subst h; simp
    · have i := ih (m / 2) (by omega) (n / 2)
      have b := Nat.and_div_two (a := m) (b := n)
      have c := Nat.xor_div_two (a := m) (b := n)
      have e := @Nat.and_mod_two_eq_one m n
      have f := @Nat.xor_mod_two_eq_one m n
      omega
theorem xor_nat (m n : Nat) : Builtin.bitXor (m : Int) (n : Int) = ((m ^^^ n : Nat) : Int) := by
  rw [PyProof.Rows.bitXor_and]
  have h : Builtin.bitAnd (m : Int) (n : Int) = ((m &&& n : Nat) : Int) := by
    unfold Builtin.bitAnd
    rw [decide_eq_true (Int.natCast_nonneg m), decide_eq_true (Int.natCast_nonneg n)]
    rfl
  rw [h]
  have := add_eq m n
  omega
theorem xorN_snoc (l : List Nat) (a : Nat) : xorN (l ++ [a]) = xorN l ^^^ a := by
  unfold xorN
  rw [List.foldl_append]
  rfl
theorem k_sum_of_words : Keeps 1 3 t_sum_of_words sp_sum_of_words := by
  intro ds S k x hl cS cd h
  obtain ⟨j, ns, rfl, hj, h⟩ := h
  show t_sum_of_words (endsD S.length k x) [some (.ref j), none, none] S
  simp only [t_sum_of_words]
  walk_at "dx"
  refine ⟨_, hj, ?_⟩
  refine wFor_ind (fun items sg S' => ∃ (ds rest : List Nat) (d2 : Option D), ns = ds ++ rest ∧ items = natsD rest ∧ sg = [some (.ref j), some (.int (xorN ds : Nat)), d2] ∧ S' = S) ?_ ?_ _ _ _ ⟨[], ns, none, rfl, rfl, rfl, rfl⟩
  · rintro sg S' ⟨ds, rest, d2, rfl, hit, rfl, rfl⟩
    cases rest with
    | cons a b => exact nomatch hit
    | nil =>
      refine ⟨hj, ?_⟩
      rw [List.append_nil] at h
      walk_at "dx"
      exact wk_now h
  · rintro d r sg S' nx2 ⟨ds, rest, d2, rfl, hit, rfl, rfl⟩ hnx2
    cases rest with
    | nil => exact nomatch hit
    | cons a rest =>
      obtain ⟨rfl, rfl⟩ := List.cons.inj hit
      refine ⟨hj, ?_⟩
      walk_at "dx"
      rw [xor_nat, ← xorN_snoc]
      exact hnx2 _ _ ⟨ds ++ [a], rest, _, by simp, rfl, rfl, rfl⟩
theorem k_told_by_row : Keeps 2 3 t_told_by_row sp_told_by_row := by
  intro ds S k x hl cS cd h
  obtain ⟨tb, row, rfl, hlt, hrl, h⟩ := h
  show t_told_by_row (endsD S.length k x) [some (.tup (natsD tb)), some (.tup (natsD row)), none] S
  simp only [t_told_by_row]
  walk_at "dx"
  refine lc_map (fun d => .int (tb.getD (intD d).toNat 0 : Nat)) (fun d hd acc kk hk => ?_) (fun _ => trivial) (by show (natsD row).length ≤ _; rw [List.length_map, sl16]; omega) ?_
  · obtain ⟨c, hc, rfl⟩ := List.mem_map.mp hd
    walk_at "dx"
    exact ⟨_, atI_nat (by rw [List.getElem?_map, List.getElem?_eq_getElem (hlt c hc)]; rfl), by
      rw [show (intD (D.int (c : Int))).toNat = c from rfl, List.getD_eq_getElem?_getD, List.getElem?_eq_getElem (hlt c hc)] at hk
      exact hk⟩
  · walk_at "dx"
    refine ⟨_, pickN tb row, rfl, lget_k 0 (by simp) ?_, ?_⟩
    · show some ((natsD row).map _) = _
      unfold pickN natsD
      rw [List.map_map, List.map_map]
      rfl
    · exact wk_drop rfl cS trivial h
theorem ix30 : ixN 3 0 = some 0 := by decide
theorem ix32 : ixN 3 2 = some 2 := by decide
theorem divW {a m : Nat} (h0 : 0 < m) (hm : m < 2 ^ 300) : CDivW (a : Int) (m : Int) := ⟨by omega, Nat.lt_of_lt_of_le (log_lt (n := 300) (by simpa using hm) (by decide)) (by decide)⟩
theorem k__law_well : Keeps 2 3 t__law_well sp__law_well := by
  intro ds S k x hl cS cd h
  obtain ⟨n, p, ns, rfl, hd, hp, hz, h⟩ := h
  show t__law_well (endsD S.length k x) [some (.ref n), some (.int p), none] S
  have hL : lget S n = some (ns.map D.int) := by unfold lget; rw [hd]
  simp only [t__law_well]
  refine dSeq_cut (fun sg S' => S' = S ∧ ∃ c : Int, sg = [some (.ref n), some (.int p), some (.int c)]) (fun nx hnx => ?_) ?_
  · walk_at "dx"
    have m1 : MulOk (p : Int) 7919 := .inl (.inr ⟨by decide, by decide⟩)
    have m2 : MulOk ((ns.map D.int).length : Int) 104729 := .inl (.inr ⟨by decide, by decide⟩)
    refine ⟨_, hL, fun hlt => ⟨_, hL, ?_⟩, fun _ => ⟨m1, _, hL, m2, hnx _ _ ⟨rfl, _, rfl⟩⟩⟩
    have hlt : p < ns.length := by simpa using hlt
    exact ⟨.int ns[p], atI_nat (by rw [List.getElem?_map, List.getElem?_eq_getElem hlt]; rfl), hnx _ _ ⟨rfl, _, rfl⟩⟩
  · rintro sg S' ⟨rfl, c, rfl⟩
    walk_at "dx"
    have m1 : MulOk c 48611 := .inl (.inr ⟨by decide, by decide⟩)
    have m2 : MulOk (p : Int) 6700417 := .inl (.inr ⟨by decide, by decide⟩)
    have p1 : PowOk 10 18 := .inl ⟨by decide, by decide, by decide⟩
    have p2 : PowOk 10 24 := .inl ⟨by decide, by decide, by decide⟩
    have e1 : (10 : Int) ^ Int.toNat 18 = 1000000000000000000 := by decide
    have e2 : (10 : Int) ^ Int.toNat 24 = 1000000000000000000000000 := by decide
    rw [e1, e2]
    generalize (c * 48611 + (p : Int) * 6700417 + 31337) = t
    refine ⟨p1, m1, m2, p2, by decide, by decide, .inl ?_⟩
    obtain ⟨a, ha⟩ : ∃ a : Nat, (if (if c < 0 then -c else c) - 1000000000000000000 > 0 then (if c < 0 then -c else c) - 1000000000000000000 else 0) = (a : Int) := by
      generalize (if c < 0 then -c else c) = y
      split
      · exact ⟨(y - 1000000000000000000).toNat, by omega⟩
      · exact ⟨0, rfl⟩
    obtain ⟨b, hb, hb2⟩ : ∃ b : Nat, t % (1000000000000000000000000 + 7) = (b : Int) ∧ b < 2 ^ 100 := ⟨(t % (1000000000000000000000000 + 7)).toNat, by omega, by omega⟩
    rw [ha, hb]
    exact h a b hb2
theorem k__law_dip : Keeps 2 4 t__law_dip sp__law_dip := by
  intro ds S k x hl cS cd h
  obtain ⟨n, a, b, c, many, rfl, h0, hm, hd, hb, hc, h⟩ := h
  show t__law_dip (endsD S.length k x) [some (.ref n), some (.int many), none, none] S
  have hL := lget_lst hd
  have hlt := get_lt hd
  simp only [t__law_dip]
  walk_at "dx"
  simp only [hL, hd, atI0, atI1, atI2, Option.some.injEq, exists_eq_left', lget_set_self hd, O.lst.injEq, ix30, ix32, List.length_cons, List.length_nil, Nat.reduceAdd, List.set_cons_zero, List.set_cons_succ]
  have e1 : (10 : Int) ^ Int.toNat 25 = 10000000000000000000000000 := by decide
  have e2 : (10 : Int) ^ Int.toNat 24 = 1000000000000000000000000 := by decide
  rw [e1, e2]
  have m1 : MulOk 1000003 ((c : Int) + 1) := .inl (.inl ⟨by decide, by decide⟩)
  have m2 : MulOk 77347 ((c : Int) + 1) := .inl (.inl ⟨by decide, by decide⟩)
  have p1 : PowOk 10 25 := .inl ⟨by decide, by decide, by decide⟩
  have p2 : PowOk 10 24 := .inl ⟨by decide, by decide, by decide⟩
  have big : (2 : Nat) ^ 110 ≤ 2 ^ 10000 := Nat.pow_le_pow_right (by decide) (by decide)
  have q1 : PowOk ((b : Int) + 1000003 * ((c : Int) + 1)) 3 := .inr ⟨by decide, by decide, Nat.lt_of_lt_of_le (by omega) big⟩
  refine ⟨fun ha => ⟨by omega, divW h0 hm, wk_now (h (a % many) (a / many) c (Nat.mod_lt _ h0) (by omega))⟩, fun _ => ⟨m1, q1, p1, by decide, m2, ?_, p2, by decide, ⟨by decide, by decide⟩, by omega, ?_⟩⟩
  · generalize ((b : Int) + 1000003 * ((c : Int) + 1)) ^ Int.toNat 3 = y
    exact .inr ⟨by decide, by decide, Nat.lt_of_lt_of_le (by omega) big⟩
  · generalize _ / (4096 : Int) = y
    obtain ⟨r, hr, hr2⟩ : ∃ r : Nat, y % (many : Int) = (r : Int) ∧ r < many := ⟨(y % (many : Int)).toNat, by have := Int.emod_nonneg y (show (many : Int) ≠ 0 by omega); omega, by have := Int.emod_lt_of_pos y (show (0 : Int) < many by omega); have := Int.emod_nonneg y (show (many : Int) ≠ 0 by omega); omega⟩
    rw [hr]
    exact wk_now (h r a (c + 1) hr2 (Nat.le_refl _))
theorem k__law_same (n : Nat) : Keeps 2 4 (t__law_same (spr__law_same n)) (spr__law_same (n + 1)) := by
  intro ds S k x hl cS cd h
  obtain ⟨d, e, rfl, hs, h⟩ := h
  show t__law_same (spr__law_same n) (endsD S.length k x) [some d, some e, none, none] S
  have h' := wk_now (n := S.length) h
  have flat : flatD d = true → d = e → t__law_same (spr__law_same n) (endsD S.length k x) [some d, some e, none, none] S := by
    intro f e1
    subst e1
    cases d <;> first | (exact absurd f Bool.false_ne_true) | (simp only [t__law_same]; walk_at "dx"; simpa using h')
  cases n with
  | zero => exact flat hs.1 hs.2
  | succ n =>
    rcases hs with ⟨f, e1⟩ | ⟨xs, ys, rfl, rfl, hz, hp⟩ | ⟨a, b, xs, ys, rfl, rfl, ha, hb, hz, hp⟩
    · exact flat f e1
    · have hlen := paired_len hp
      have hz' := hz
      rw [sl16] at hz'
      simp only [t__law_same]
      walk_at "dx"
      simp only [hlen]
      walk_at "dx"
      refine ⟨by omega, by omega, wFor_rng _ (fun i sg S' => ∃ t : Option D, sg = [some (.tup xs), some (.tup ys), some (.bl true), t] ∧ S' = S) ⟨none, rfl, rfl⟩ ?_ ?_⟩
      · rintro sg S' ⟨t, rfl, rfl⟩
        refine ⟨trivial, ?_⟩
        walk_at "dx"
        exact h'
      · rintro i sg S' nx hi ⟨t, rfl, rfl⟩ hnx
        refine ⟨trivial, ?_⟩
        walk_at "dx"
        have hj : i < ys.length := by omega
        have h1 : xs[i]? = some xs[i] := List.getElem?_eq_getElem (by omega)
        have h2 : ys[i]? = some ys[i] := List.getElem?_eq_getElem hj
        simp only [Int.zero_add, atI_nat h1, atI_nat h2, Option.some.injEq, exists_eq_left']
        refine ⟨_, _, rfl, paired_get hp h1 h2, ?_⟩
        walk_at "dx"
        exact hnx _ _ ⟨_, rfl, rfl⟩
    · have hlen := paired_len hp
      have hz' := hz
      rw [sl16] at hz'
      simp only [t__law_same]
      walk_at "dx"
      simp only [ha, hb, tyR_of ha, tyR_of hb, Option.some.injEq, exists_eq_left', hlen, isTy]
      walk_at "dx"
      refine ⟨by omega, by omega, wFor_rng _ (fun i sg S' => ∃ t : Option D, sg = [some (.ref a), some (.ref b), some (.bl true), t] ∧ S' = S) ⟨none, rfl, rfl⟩ ?_ ?_⟩
      · rintro sg S' ⟨t, rfl, rfl⟩
        refine ⟨trivial, ?_⟩
        walk_at "dx"
        exact h'
      · rintro i sg S' nx hi ⟨t, rfl, rfl⟩ hnx
        refine ⟨trivial, ?_⟩
        walk_at "dx"
        have hj : i < ys.length := by omega
        have h1 : xs[i]? = some xs[i] := List.getElem?_eq_getElem (by omega)
        have h2 : ys[i]? = some ys[i] := List.getElem?_eq_getElem hj
        simp only [ha, hb, Int.zero_add, atI_nat h1, atI_nat h2, Option.some.injEq, exists_eq_left']
        refine ⟨_, _, rfl, paired_get hp h1 h2, ?_⟩
        walk_at "dx"
        exact hnx _ _ ⟨_, rfl, rfl⟩
theorem k__law_sum : Keeps 1 3 t__law_sum sp__law_sum := by
  intro ds S k x hl cS cd h
  obtain ⟨j, ns, rfl, hj, h⟩ := h
  show t__law_sum (endsD S.length k x) [some (.ref j), none, none] S
  simp only [t__law_sum]
  walk_at "dx"
  refine ⟨_, hj, ?_⟩
  refine wFor_ind (fun items sg S' => ∃ (ds rest : List Nat) (d2 : Option D), ns = ds ++ rest ∧ items = natsD rest ∧ sg = [some (.ref j), some (.int (xorN ds : Nat)), d2] ∧ S' = S) ?_ ?_ _ _ _ ⟨[], ns, none, rfl, rfl, rfl, rfl⟩
  · rintro sg S' ⟨ds, rest, d2, rfl, hit, rfl, rfl⟩
    cases rest with
    | cons a b => exact nomatch hit
    | nil =>
      refine ⟨hj, ?_⟩
      rw [List.append_nil] at h
      walk_at "dx"
      exact wk_now h
  · rintro d r sg S' nx2 ⟨ds, rest, d2, rfl, hit, rfl, rfl⟩ hnx2
    cases rest with
    | nil => exact nomatch hit
    | cons a rest =>
      obtain ⟨rfl, rfl⟩ := List.cons.inj hit
      refine ⟨hj, ?_⟩
      walk_at "dx"
      rw [xor_nat, ← xorN_snoc]
      exact hnx2 _ _ ⟨ds ++ [a], rest, _, by simp, rfl, rfl, rfl⟩
theorem k__law_power : Keeps 1 3 t__law_power sp__law_power := by
  intro ds S k x hl cS cd h
  obtain ⟨n, rfl, hn, h⟩ := h
  show t__law_power (endsD S.length k x) [some (.int n), none, none] S
  simp only [t__law_power]
  walk_at "dx"
  refine ⟨by omega, by omega, wFor_rng _ (fun i sg S' => ∃ t : Option D, sg = [some (.int n), some (.int (2 ^ i : Nat)), t] ∧ S' = S) ⟨none, rfl, rfl⟩ ?_ ?_⟩
  · rintro sg S' ⟨t, rfl, rfl⟩
    refine ⟨trivial, ?_⟩
    walk_at "dx"
    rw [Int.toNat_natCast]
    exact wk_now h
  · rintro i sg S' nx hi ⟨t, rfl, rfl⟩ hnx
    refine ⟨trivial, ?_⟩
    walk_at "dx"
    rw [show (2 : Int) * ((2 ^ i : Nat) : Int) = ((2 ^ (i + 1) : Nat) : Int) by rw [Nat.pow_succ]; omega]
    exact ⟨.inl (.inl ⟨by decide, by decide⟩), hnx _ _ ⟨_, rfl, rfl⟩⟩
theorem setT {S G : Sto} {n : Nat} {o u v : O} (hd : S[n]? = some o) : (S.set n u ++ G).set n v = S.set n v ++ G := by
  rw [set_app (by rw [List.length_set]; exact get_lt hd), List.set_set]
theorem dip_set {S G : Sto} {n a b c many : Nat} {z : Int} {o : O} {k : KD} {x : XD} (hd : S[n]? = some o) (hz : z = (many : Int)) (h0 : 0 < many) (hm : many < 2 ^ 300) (hb : b < 2 ^ 100) (hc : c < 2 ^ 60)
    (h : ∀ r a' c' : Nat, r < many → c' ≤ c + 1 → k (.int r) (S.set n (wellO a' b c') ++ G)) : sp__law_dip [.ref n, .int z] (S.set n (wellO a b c) ++ G) k x := by
  subst hz
  refine ⟨n, a, b, c, many, rfl, h0, hm, get_app (get_set_self hd), hb, hc, fun r a' c' hr hc' => ?_⟩
  rw [setT hd]
  exact h r a' c' hr hc'
theorem dip_set0 {S : Sto} {n a b c many : Nat} {z : Int} {o : O} {k : KD} {x : XD} (hd : S[n]? = some o) (hz : z = (many : Int)) (h0 : 0 < many) (hm : many < 2 ^ 300) (hb : b < 2 ^ 100) (hc : c < 2 ^ 60)
    (h : ∀ r a' c' : Nat, r < many → c' ≤ c + 1 → k (.int r) (S.set n (wellO a' b c'))) : sp__law_dip [.ref n, .int z] (S.set n (wellO a b c)) k x := by
  have := dip_set (G := []) (a := a) (k := k) (x := x) hd hz h0 hm hb hc (by simpa using h)
  rwa [List.append_nil] at this
theorem dip_app {S G : Sto} {n a b c many : Nat} {z : Int} {k : KD} {x : XD} (hd : S[n]? = some (wellO a b c)) (hz : z = (many : Int)) (h0 : 0 < many) (hm : many < 2 ^ 300) (hb : b < 2 ^ 100) (hc : c < 2 ^ 60)
    (h : ∀ r a' c' : Nat, r < many → c' ≤ c + 1 → k (.int r) (S.set n (wellO a' b c') ++ G)) : sp__law_dip [.ref n, .int z] (S ++ G) k x := by
  subst hz
  refine ⟨n, a, b, c, many, rfl, h0, hm, get_app hd, hb, hc, fun r a' c' hr hc' => ?_⟩
  rw [set_app (get_lt hd)]
  exact h r a' c' hr hc'
theorem cl_well (m a b c : Nat) : clO m (wellO a b c) := ⟨trivial, trivial, trivial, trivial⟩
theorem natsD_snoc (l : List Nat) (r : Nat) : natsD l ++ [D.int (r : Int)] = natsD (l ++ [r]) := by
  unfold natsD
  rw [List.map_append]
  rfl
end Q
open Q
local macro_rules | `(tactic| walk_at "dx") => `(tactic| try simp only [dSeq, dDrop, kDrop, dRet, dRetN, dIf, kIf, dNever, dNext, dBreak, dCont, dSet, kSet, dPar, kPar, dPar3, kPar3, dAug, kAug, dAsg, kAsg, gNm, gsNil, gsCons, gTp, gUl, gSb, kGs1, kGs2, rSet, dFor, kFor, dLc, dYes, wipeD, dRaise, kRaise, dTry, wTry, clrM, clrD, putD', dXv, kXv,
  dC, dVar, dUn, dOp, kOp1, kOp2, dTst, kB, dAnd, kAnd, dOr, kOr, dNot, kNot, dAndV, kAndV, dOrV, kOrV, dNotV, kNotV, dIfE, kIfE, dNil, dCons, kCons1, kCons2, dTup, kTup, dLst, kLst, dCall, kCall, spN, dCallK, kCK1, kCK2, pick, dMet, kM1, kM2, isLst, rApp, dSl, kSl1, kSl2, kSl3, rSl, dNoP, dPart, kPart,
  rAdd, rSub, rMul, rMulT, rInP, rFdiv, rMod, rPow, rShl, rShr, rAnd, rXor, rNeg, rEq, rNe, rLt, rLe, rGt, rGe, rIs, rIsNot, isNon, rIx, rIsi, rIsi2, isTy, spLen, spInt, spTuple, spAll, spAny, spMax, spMin, spAbs, spList, rIn, rNotIn, rIns, dRevL, kRev, dBack, kBack, dLc2, iEn, kEn, dSrtSet, kSrtSet, dChain, kCh1, kCh2, kCh3, iZp, kZp, dLenNew, dLenSet, kLenSet, kLenNew, dDicE, isDic, rDset, dDget, kDg1, kDg2, dDget2, kDh1, kDh2, kDh3, rDget, gDb, kGd1, kGd2, dStp, kSt0, kSt1, kSt2, spSumB, rDin, dBits, kBits, rDnin, spLenD, dAugS, kAs1, kAs2, kAs3, kAs4, rRem, rIdx, spStr, dJoin, kJoin1, kJoin2, rPop1, rPop0, rRev, dDc, dTupRg, kTupRg, dLstRg, kLstRg, iSq, iRg1, kRg1, iRg2, kRg2, rIAdd, endsD,
  isL_iff, atI0, atI1, atI2, get_at0, get_at, List.set_set, List.length_set, lget_at0, lget_at, lget_hd, lget_tl, set_at0, set_at, app1, List.nil_append, List.cons_append, List.length_cons, List.length_nil, List.length_append,
  List.getElem?_cons_zero, List.getElem?_cons_succ, List.set_cons_zero, List.set_cons_succ, List.getElem?_nil, List.filterMap_cons, List.filterMap_nil, List.append_nil,
  Option.some.injEq, O.lst.injEq, exists_eq_left', exists_eq_left, exists_eq', List.cons.injEq, D.int.injEq, D.bl.injEq, D.tup.injEq, D.ref.injEq, D.str.injEq, Int.natCast_inj, true_and, and_true, and_self, Nat.reduceAdd, Nat.zero_add, Bool.not_true, Bool.not_false, reduceCtorEq, forall_const, imp_self, not_true_eq_false, not_false_eq_true, false_implies, true_implies, implies_true, Bool.true_eq_false, Bool.false_eq_true, Bool.true_or, Bool.or_true, Bool.false_or, Bool.or_false, Bool.and_true, Bool.true_and, decide_eq_true_eq, decide_eq_false_iff_not, Bool.not_eq_true', Bool.not_eq_false', decide_true, decide_false, or_false, false_or, exists_false, exists_and_left, and_assoc])
local macro_rules | `(tactic| walk_at "dz") => `(tactic| try simp only [dDrop, kDrop, dRet, dRetN, dIf, kIf, dNever, dNext, dBreak, dCont, dSet, kSet, dPar, kPar, dPar3, kPar3, dAug, kAug, dAsg, kAsg, gNm, gsNil, gsCons, gTp, gUl, gSb, kGs1, kGs2, rSet, dFor, kFor, dLc, dYes, wipeD, dRaise, kRaise, dTry, wTry, clrM, clrD, putD', dXv, kXv,
  dC, dVar, dUn, dOp, kOp1, kOp2, dTst, kB, dAnd, kAnd, dOr, kOr, dNot, kNot, dAndV, kAndV, dOrV, kOrV, dNotV, kNotV, dIfE, kIfE, dNil, dCons, kCons1, kCons2, dTup, kTup, dLst, kLst, dCall, kCall, spN, dCallK, kCK1, kCK2, pick, dMet, kM1, kM2, isLst, rApp, dSl, kSl1, kSl2, kSl3, rSl, dNoP, dPart, kPart,
  rAdd, rSub, rMul, rMulT, rInP, rFdiv, rMod, rPow, rShl, rShr, rAnd, rXor, rNeg, rEq, rNe, rLt, rLe, rGt, rGe, rIs, rIsNot, isNon, rIx, rIsi, rIsi2, isTy, spLen, spInt, spTuple, spAll, spAny, spMax, spMin, spAbs, spList, rIn, rNotIn, rIns, dRevL, kRev, dBack, kBack, dLc2, iEn, kEn, dSrtSet, kSrtSet, dChain, kCh1, kCh2, kCh3, iZp, kZp, dLenNew, dLenSet, kLenSet, kLenNew, dDicE, isDic, rDset, dDget, kDg1, kDg2, dDget2, kDh1, kDh2, kDh3, rDget, gDb, kGd1, kGd2, dStp, kSt0, kSt1, kSt2, spSumB, rDin, dBits, kBits, rDnin, spLenD, dAugS, kAs1, kAs2, kAs3, kAs4, rRem, rIdx, spStr, dJoin, kJoin1, kJoin2, rPop1, rPop0, rRev, dDc, dTupRg, kTupRg, dLstRg, kLstRg, iSq, iRg1, kRg1, iRg2, kRg2, rIAdd, endsD,
  isL_iff, atI0, atI1, atI2, get_at0, get_at, List.set_set, List.length_set, lget_at0, lget_at, lget_hd, lget_tl, set_at0, set_at, app1, List.nil_append, List.cons_append, List.length_cons, List.length_nil, List.length_append,
  List.getElem?_cons_zero, List.getElem?_cons_succ, List.set_cons_zero, List.set_cons_succ, List.getElem?_nil, List.filterMap_cons, List.filterMap_nil, List.append_nil,
  Option.some.injEq, O.lst.injEq, exists_eq_left', exists_eq_left, exists_eq', List.cons.injEq, D.int.injEq, D.bl.injEq, D.tup.injEq, D.ref.injEq, D.str.injEq, Int.natCast_inj, true_and, and_true, and_self, Nat.reduceAdd, Nat.zero_add, Bool.not_true, Bool.not_false, reduceCtorEq, forall_const, imp_self, not_true_eq_false, not_false_eq_true, false_implies, true_implies, implies_true, Bool.true_eq_false, Bool.false_eq_true, Bool.true_or, Bool.or_true, Bool.false_or, Bool.or_false, Bool.and_true, Bool.true_and, decide_eq_true_eq, decide_eq_false_iff_not, Bool.not_eq_true', Bool.not_eq_false', decide_true, decide_false, or_false, false_or, exists_false, exists_and_left, and_assoc])
namespace Q
open PySem
open Spec PyProof.Rows L2
/-! ### numbers by rests (k34) -/
theorem perm_sub {α : Type} [BEq α] [LawfulBEq α] : ∀ (l1 l2 : List α), l1.Nodup → (∀ x ∈ l1, x ∈ l2) → l2.length ≤ l1.length → l1.Perm l2
  | [], l2, _, _, h => by
    rw [List.length_eq_zero_iff.mp (Nat.le_zero.mp h)]
  | a :: l1, l2, hn, hs, hl => by
    have ha := hs a List.mem_cons_self
    obtain ⟨h1, h2⟩ := List.nodup_cons.mp hn
    have hlen := List.length_erase_of_mem ha
    have hp : 0 < l2.length := List.length_pos_of_mem ha
    refine ((perm_sub l1 (l2.erase a) h2 (fun x hx => ?_) (by rw [List.length_cons] at hl; omega)).cons a).trans (List.perm_cons_erase ha).symm
    exact (List.mem_erase_of_ne (fun e => h1 (by rw [← e]; exact hx))).mpr (hs x (List.mem_cons_of_mem _ hx))
/-- how many below n -/
def cn (P : Nat → Bool) (n : Nat) : Nat := ((List.range n).filter P).length
theorem cn_succ (P : Nat → Bool) (n : Nat) : cn P (n + 1) = cn P n + if P n then 1 else 0 := by
  unfold cn
  rw [List.range_succ, List.filter_append, List.length_append]
  congr 1
  by_cases h : P n <;> simp [h]
theorem cn_mod (g r : Nat) (hr : r < g) : ∀ k, cn (fun j => decide (j % g = r)) (g * k) = k
  | 0 => rfl
  | k + 1 => by
    have : ∀ s, s ≤ g → cn (fun j => decide (j % g = r)) (g * k + s) = k + if r < s then 1 else 0 := by
      intro s
      induction s with
      | zero => intro _; rw [Nat.add_zero, cn_mod g r hr k]; simp
      | succ s ih =>
        intro hs
        rw [← Nat.add_assoc, cn_succ, ih (by omega)]
        rw [Nat.mul_add_mod, Nat.mod_eq_of_lt (show s < g by omega)]
        by_cases h1 : s = r
        · subst h1; simp
        · rw [decide_eq_false h1, if_neg (show ¬ (false = true) from Bool.false_ne_true), Nat.add_zero]
          by_cases h2 : r < s
          · rw [if_pos h2, if_pos (show r < s + 1 by omega)]
          · rw [if_neg h2, if_neg (show ¬ r < s + 1 by omega)]
    rw [Nat.mul_succ, this g (Nat.le_refl _), if_pos hr]
theorem turn_mod {a b : Nat} (i : Nat) (hb : 0 < b) : ((List.range (b / Nat.gcd a b)).map fun t => (i + t * a) % b).Perm ((List.range b).filter fun j => decide (j % Nat.gcd a b = i % Nat.gcd a b)) := by
  have hg : 0 < Nat.gcd a b := Nat.gcd_pos_of_pos_right a hb
  have hdb : Nat.gcd a b ∣ b := Nat.gcd_dvd_right a b
  have hda : Nat.gcd a b ∣ a := Nat.gcd_dvd_left a b
  have eb : Nat.gcd a b * (b / Nat.gcd a b) = b := Nat.mul_div_cancel' hdb
  have ea : Nat.gcd a b * (a / Nat.gcd a b) = a := Nat.mul_div_cancel' hda
  have cop : Nat.Coprime (b / Nat.gcd a b) (a / Nat.gcd a b) := by
    have := Nat.coprime_div_gcd_div_gcd (m := a) (n := b) hg
    exact this.symm
  refine perm_sub _ _ ?_ (fun x hx => ?_) ?_
  · refine List.Pairwise.map _ (R := fun x y : Nat => x < y ∧ y < b / Nat.gcd a b) (fun x y h => ?_) ?_
    · intro e
      obtain ⟨h1, h2⟩ := h
      have e1 : (i + y * a) - (i + x * a) = (y - x) * a := by rw [Nat.sub_mul]; omega
      have e2 : b ∣ (i + y * a) - (i + x * a) := Nat.dvd_of_mod_eq_zero (Nat.sub_mod_eq_zero_of_mod_eq e.symm)
      rw [e1] at e2
      have e3 : Nat.gcd a b * (b / Nat.gcd a b) ∣ Nat.gcd a b * ((y - x) * (a / Nat.gcd a b)) := by
        rw [eb]
        have : Nat.gcd a b * ((y - x) * (a / Nat.gcd a b)) = (y - x) * a := by
          rw [Nat.mul_left_comm, ea]
        rw [this]
        exact e2
      have e4 := Nat.dvd_of_mul_dvd_mul_left hg e3
      have e5 := cop.dvd_of_dvd_mul_right e4
      have := Nat.le_of_dvd (by omega) e5
      omega
    · have h1 : (List.range (b / Nat.gcd a b)).Pairwise (· < ·) := List.pairwise_lt_range
      exact h1.imp_of_mem fun hx hy h => ⟨h, List.mem_range.mp hy⟩
  · obtain ⟨t, ht, rfl⟩ := List.mem_map.mp hx
    refine List.mem_filter.mpr ⟨List.mem_range.mpr (Nat.mod_lt _ hb), decide_eq_true ?_⟩
    rw [Nat.mod_mod_of_dvd _ hdb, Nat.add_mod, Nat.mod_eq_zero_of_dvd (Nat.dvd_trans hda (Nat.dvd_mul_left a t)), Nat.add_zero, Nat.mod_mod]
  · have h1 : ((List.range b).filter fun j => decide (j % Nat.gcd a b = i % Nat.gcd a b)).length = b / Nat.gcd a b := by
      have := cn_mod (Nat.gcd a b) (i % Nat.gcd a b) (Nat.mod_lt _ hg) (b / Nat.gcd a b)
      rw [eb] at this
      exact this
    rw [h1, List.length_map, List.length_range]
    exact Nat.le_refl _
/-- both: sums over what has the same rest -/
theorem sum_map_add {α : Type} (f g : α → Nat) : ∀ l : List α, (l.map fun x => f x + g x).sum = (l.map f).sum + (l.map g).sum
  | [] => rfl
  | a :: l => by simp only [List.map_cons, List.sum_cons, sum_map_add f g l]; omega
theorem len_filter_sum {α : Type} (P : α → Bool) : ∀ l : List α, (l.filter P).length = (l.map fun x => if P x then 1 else 0).sum
  | [] => rfl
  | a :: l => by
    rw [List.map_cons, List.sum_cons, ← len_filter_sum P l, List.filter_cons]
    by_cases h : P a
    · rw [if_pos h, if_pos h, List.length_cons]; omega
    · rw [if_neg h, if_neg h]; omega
theorem perm_sum {l1 l2 : List Nat} (h : l1.Perm l2) : l1.sum = l2.sum := by
  induction h with
  | nil => rfl
  | cons x _ ih => rw [List.sum_cons, List.sum_cons, ih]
  | swap x y l => simp only [List.sum_cons]; omega
  | trans _ _ h1 h2 => rw [h1, h2]
theorem len_flat {α β : Type} (f : α → List β) : ∀ l : List α, (l.flatMap f).length = (l.map fun x => (f x).length).sum
  | [] => rfl
  | a :: l => by rw [List.flatMap_cons, List.length_append, List.map_cons, List.sum_cons, len_flat f l]
/-- all i + t a with i below a and t below m are the numbers below m a -/
theorem turns_perm (a m : Nat) (ha : 0 < a) : ((List.range a).flatMap fun i => (List.range m).map fun t => i + t * a).Perm (List.range (m * a)) := by
  refine perm_sub _ _ ?_ (fun x hx => ?_) ?_
  · refine List.pairwise_flatMap.mpr ⟨fun i hi => ?_, ?_⟩
    · refine List.Pairwise.map _ (R := (· < ·)) (fun x y h e => ?_) List.pairwise_lt_range
      have := Nat.mul_lt_mul_of_lt_of_le h (Nat.le_refl a) ha
      omega
    · have h1 : (List.range a).Pairwise (· < ·) := List.pairwise_lt_range
      refine h1.imp_of_mem fun hx hy h z hz1 w hz2 e => ?_
      obtain ⟨t, _, rfl⟩ := List.mem_map.mp hz1
      obtain ⟨u, _, rfl⟩ := List.mem_map.mp hz2
      have e1 := congrArg (· % a) e
      have hx := List.mem_range.mp hx
      have hy := List.mem_range.mp hy
      simp only [Nat.add_mul_mod_self_right, Nat.mod_eq_of_lt hx, Nat.mod_eq_of_lt hy] at e1
      omega
  · obtain ⟨i, hi, hx⟩ := List.mem_flatMap.mp hx
    obtain ⟨t, ht, rfl⟩ := List.mem_map.mp hx
    have hi := List.mem_range.mp hi
    have ht := List.mem_range.mp ht
    have := Nat.mul_le_mul_right a (show t + 1 ≤ m from ht)
    rw [Nat.succ_mul] at this
    exact List.mem_range.mpr (by omega)
  · rw [List.length_range, len_flat]
    simp only [List.length_map, List.length_range, List.map_const', List.sum_replicate_nat]
    rw [Nat.mul_comm]
    exact Nat.le_refl _
/-- numbers below n that two lists let in, by rests -/
def pp (f s : Nat → Bool) (a b : Nat) (x : Nat) : Bool := f (x % a) && s (x % b)
/-- one full round -/
theorem round_sum (f s : Nat → Bool) {a b : Nat} (ha : 0 < a) (hb : 0 < b) : cn (pp f s a b) (b / Nat.gcd a b * a) = (((List.range a).filter f).map fun i => ((List.range b).filter fun j => decide (j % Nat.gcd a b = i % Nat.gcd a b) && s j).length).sum := by
  have h1 := (turns_perm a (b / Nat.gcd a b) ha).filter (pp f s a b)
  unfold cn
  rw [← h1.length_eq, List.filter_flatMap, len_flat]
  have : ∀ l : List Nat, (∀ i ∈ l, i < a) → (l.map fun x => (List.filter (pp f s a b) ((List.range (b / Nat.gcd a b)).map fun t => x + t * a)).length).sum = ((l.filter f).map fun i => ((List.range b).filter fun j => decide (j % Nat.gcd a b = i % Nat.gcd a b) && s j).length).sum := by
    intro l
    induction l with
    | nil => intro _; rfl
    | cons i l ih =>
      intro hl
      rw [List.map_cons, List.sum_cons, ih fun x hx => hl x (List.mem_cons_of_mem _ hx)]
      have hi := hl i List.mem_cons_self
      have e : List.filter (pp f s a b) ((List.range (b / Nat.gcd a b)).map fun t => i + t * a) = if f i then List.filter (fun x => s (x % b)) ((List.range (b / Nat.gcd a b)).map fun t => i + t * a) else [] := by
        by_cases hf : f i
        · rw [if_pos hf]
          refine List.filter_congr fun x hx => ?_
          obtain ⟨t, _, rfl⟩ := List.mem_map.mp hx
          unfold pp
          rw [Nat.add_mul_mod_self_right, Nat.mod_eq_of_lt hi, hf, Bool.true_and]
        · rw [if_neg hf]
          refine List.filter_eq_nil_iff.mpr fun x hx => ?_
          obtain ⟨t, _, rfl⟩ := List.mem_map.mp hx
          unfold pp
          rw [Nat.add_mul_mod_self_right, Nat.mod_eq_of_lt hi]
          simp [hf]
      rw [e, List.filter_cons]
      by_cases hf : f i
      · rw [if_pos hf, if_pos hf, List.map_cons, List.sum_cons]
        congr 1
        have h2 := ((turn_mod (a := a) i hb).filter s).length_eq
        rw [List.filter_filter, show (List.range (b / Nat.gcd a b)).map (fun t => (i + t * a) % b) = ((List.range (b / Nat.gcd a b)).map fun t => i + t * a).map (· % b) by rw [List.map_map]; rfl, List.filter_map, List.length_map] at h2
        rw [show (fun x => s (x % b)) = s ∘ (· % b) from rfl, h2]
        refine congrArg List.length (List.filter_congr fun j _ => Bool.and_comm ..)
      · rw [if_neg hf, if_neg hf, List.length_nil, Nat.zero_add]
  exact this _ fun i hi => List.mem_range.mp hi

/-- sums by rests -/
theorem rest_sum (f : Nat → Bool) (w : Nat → Nat) {g : Nat} (hg : 0 < g) (l : List Nat) : ((l.filter f).map fun i => w (i % g)).sum = ((List.range g).map fun r => ((l.filter fun i => decide (i % g = r) && f i).length) * w r).sum := by
  induction l with
  | nil =>
    simp [List.map_const']
  | cons i l ih =>
    have hi := Nat.mod_lt i hg
    by_cases hf : f i
    · rw [List.filter_cons_of_pos hf, List.map_cons, List.sum_cons, ih]
      have e : ∀ r, (((i :: l).filter fun i => decide (i % g = r) && f i).length) * w r = ((l.filter fun i => decide (i % g = r) && f i).length) * w r + if i % g = r then w (i % g) else 0 := fun r => by
        rw [List.filter_cons]
        by_cases e : i % g = r
        · rw [if_pos e, if_pos (by simp [e, hf]), List.length_cons, Nat.succ_mul, e]
        · rw [if_neg e, if_neg (by simp [e]), Nat.add_zero]
      rw [List.map_congr_left fun r _ => e r, sum_map_add]
      have one : ∀ n, ((List.range n).map fun r => if i % g = r then w (i % g) else 0).sum = if i % g < n then w (i % g) else 0 := by
        intro n
        induction n with
        | zero => rfl
        | succ n ih =>
          rw [List.range_succ, List.map_append, List.sum_append, ih]
          simp only [List.map_cons, List.map_nil, List.sum_cons, List.sum_nil, Nat.add_zero]
          by_cases e : i % g = n
          · rw [if_neg (by omega), if_pos e, if_pos (by omega), Nat.zero_add]
          · by_cases e2 : i % g < n
            · rw [if_pos e2, if_neg e, if_pos (by omega)]
              rfl
            · rw [if_neg e2, if_neg e, if_neg (by omega)]
      rw [one g, if_pos hi, Nat.add_comm]
    · rw [List.filter_cons_of_neg hf, ih]
      refine congrArg List.sum (List.map_congr_left fun r _ => ?_)
      rw [List.filter_cons_of_neg (by simp [hf])]
theorem in_round (f s : Nat → Bool) {a b : Nat} (ha : 0 < a) (hb : 0 < b) : ((List.range (Nat.gcd a b)).map fun r => ((List.range a).filter fun i => decide (i % Nat.gcd a b = r) && f i).length * ((List.range b).filter fun j => decide (j % Nat.gcd a b = r) && s j).length).sum = cn (pp f s a b) (b / Nat.gcd a b * a) := by
  rw [round_sum f s ha hb, rest_sum f (fun r => ((List.range b).filter fun j => decide (j % Nat.gcd a b = r) && s j).length) (Nat.gcd_pos_of_pos_left b ha)]
/-- below many: whole rounds and what is left -/
theorem by_rounds (P : Nat → Bool) {L : Nat} (hL : 0 < L) (many : Nat) (l : List Nat) (hl : l.Perm (List.range L)) :
    (((l.filter P).filter fun x => decide (x < many)).map fun x => (many - x - 1) / L + 1).sum = many / L * cn P L + cn P (many % L) := by
  have e : ∀ x, x < L → (if x < many then (many - x - 1) / L + 1 else 0) = many / L + if x < many % L then 1 else 0 := fun x hx => by
    have h1 := Nat.div_add_mod many L
    have h2 := Nat.mod_lt many hL
    generalize many / L = q at h1 ⊢
    generalize many % L = r at h1 h2 ⊢
    by_cases h : x < r
    · rw [if_pos h, if_pos (by omega)]
      congr 1
      refine Nat.div_eq_of_lt_le ?_ ?_
      · rw [Nat.mul_comm]; omega
      · rw [Nat.mul_comm, Nat.mul_succ]; omega
    · rw [if_neg h]
      cases q with
      | zero => rw [if_neg (by omega)]
      | succ q =>
        rw [Nat.mul_succ] at h1
        rw [if_pos (by omega)]
        have : (many - x - 1) / L = q := by
          refine Nat.div_eq_of_lt_le ?_ ?_
          · rw [Nat.mul_comm]; omega
          · rw [Nat.mul_comm, Nat.mul_succ]; omega
        rw [this]
  have e2 : ∀ l : List Nat, (∀ x ∈ l, x < L) → (((l.filter P).filter fun x => decide (x < many)).map fun x => (many - x - 1) / L + 1).sum = many / L * (l.filter P).length + (l.filter fun x => P x && decide (x < many % L)).length := by
    intro l
    induction l with
    | nil => intro _; simp
    | cons x l ih =>
      intro hx
      have ih := ih fun y hy => hx y (List.mem_cons_of_mem _ hy)
      have e := e x (hx x List.mem_cons_self)
      by_cases hp : P x
      · rw [List.filter_cons_of_pos hp, List.length_cons, Nat.mul_succ]
        by_cases h1 : x < many
        · rw [List.filter_cons_of_pos (by simpa using h1), List.map_cons, List.sum_cons, ih]
          rw [if_pos h1] at e
          rw [e, List.filter_cons]
          by_cases h2 : x < many % L
          · rw [if_pos h2, if_pos (by simp [hp, h2]), List.length_cons]; omega
          · rw [if_neg h2, if_neg (by simp [h2])]; omega
        · rw [List.filter_cons_of_neg (by simpa using h1), ih]
          rw [if_neg h1] at e
          rw [List.filter_cons]
          by_cases h2 : x < many % L
          · rw [if_pos h2] at e; exact absurd e.symm (Nat.succ_ne_zero _)
          · rw [if_neg h2] at e
            rw [if_neg (by simp [h2])]; omega
      · rw [List.filter_cons_of_neg hp, ih, List.filter_cons_of_neg (by simp [hp])]
  rw [e2 l fun x hx => List.mem_range.mp (hl.mem_iff.mp hx)]
  unfold cn
  rw [(hl.filter P).length_eq, (hl.filter _).length_eq]
  congr 1
  have h2 := Nat.mod_lt many hL
  generalize many % L = r at h2
  obtain ⟨k, rfl⟩ : ∃ k, L = r + k := ⟨L - r, by omega⟩
  rw [List.range_add, List.filter_append, List.length_append]
  have z : List.filter (fun x => P x && decide (x < r)) ((List.range k).map fun x => r + x) = [] := List.filter_eq_nil_iff.mpr fun x hx => by
    obtain ⟨y, _, rfl⟩ := List.mem_map.mp hx
    simp
  rw [z, List.length_nil, Nat.add_zero]
  refine congrArg List.length (List.filter_congr fun x hx => ?_)
  rw [decide_eq_true (List.mem_range.mp hx), Bool.and_true]
def addN (s : Nat → Bool) (b many L x : Nat) : Nat := if s (x % b) && decide (x < many) then (many - x - 1) / L + 1 else 0
theorem sum_filter2 {α : Type} (P R : α → Bool) (g : α → Nat) : ∀ l : List α, (((l.filter P).filter R).map g).sum = (l.map fun x => if P x && R x then g x else 0).sum
  | [] => rfl
  | a :: l => by
    rw [List.map_cons, List.sum_cons, ← sum_filter2 P R g l, List.filter_cons]
    by_cases hp : P a
    · rw [if_pos hp, List.filter_cons]
      by_cases hr : R a
      · rw [if_pos hr, List.map_cons, List.sum_cons, if_pos (by rw [hp, hr]; rfl)]
      · rw [if_neg hr, if_neg (by simp [hr]), Nat.zero_add]
    · rw [if_neg hp, if_neg (by simp [hp]), Nat.zero_add]
theorem sum_flat {α β : Type} (h : α → List β) (F : β → Nat) : ∀ l : List α, ((l.flatMap h).map F).sum = (l.map fun i => ((h i).map F).sum).sum
  | [] => rfl
  | a :: l => by rw [List.flatMap_cons, List.map_append, List.sum_append, sum_flat h F l, List.map_cons, List.sum_cons]
theorem sum_filter1 {α : Type} (P : α → Bool) (g : α → Nat) : ∀ l : List α, ((l.filter P).map g).sum = (l.map fun x => if P x then g x else 0).sum
  | [] => rfl
  | a :: l => by
    rw [List.map_cons, List.sum_cons, ← sum_filter1 P g l, List.filter_cons]
    by_cases hp : P a
    · rw [if_pos hp, if_pos hp, List.map_cons, List.sum_cons]
    · rw [if_neg hp, if_neg hp, Nat.zero_add]
theorem both_loop (f s : Nat → Bool) {a b : Nat} (ha : 0 < a) (hb : 0 < b) (many L : Nat) (hL : L = b / Nat.gcd a b * a) :
    (((List.range a).filter f).map fun i => ((List.range (b / Nat.gcd a b)).map fun t => addN s b many L (i + t * a)).sum).sum = many / L * cn (pp f s a b) L + cn (pp f s a b) (many % L) := by
  have hg : 0 < Nat.gcd a b := Nat.gcd_pos_of_pos_left b ha
  have hm : 0 < b / Nat.gcd a b := Nat.div_pos (Nat.gcd_le_right _ hb) hg
  have hL0 : 0 < L := by rw [hL]; exact Nat.mul_pos hm ha
  have h1 := by_rounds (pp f s a b) hL0 many ((List.range a).flatMap fun i => (List.range (b / Nat.gcd a b)).map fun t => i + t * a) (by rw [hL]; exact turns_perm a (b / Nat.gcd a b) ha)
  rw [← h1, sum_filter2, sum_flat, sum_filter1]
  have : ∀ l : List Nat, (∀ i ∈ l, i < a) → (l.map fun x => if f x then ((List.range (b / Nat.gcd a b)).map fun t => addN s b many L (x + t * a)).sum else 0).sum = (l.map fun i => (((List.range (b / Nat.gcd a b)).map fun t => i + t * a).map fun x => if pp f s a b x && decide (x < many) then (many - x - 1) / L + 1 else 0).sum).sum := by
    intro l
    induction l with
    | nil => intro _; rfl
    | cons i l ih =>
      intro hl
      have hi := hl i List.mem_cons_self
      rw [List.map_cons, List.sum_cons, ih fun x hx => hl x (List.mem_cons_of_mem _ hx), List.map_cons, List.sum_cons]
      congr 1
      rw [List.map_map]
      have e : ∀ t, pp f s a b (i + t * a) = (f i && s ((i + t * a) % b)) := fun t => by
        unfold pp
        rw [Nat.add_mul_mod_self_right, Nat.mod_eq_of_lt hi]
      by_cases hf : f i
      · rw [if_pos hf]
        refine congrArg List.sum (List.map_congr_left fun t _ => ?_)
        show addN s b many L (i + t * a) = if pp f s a b (i + t * a) && decide (i + t * a < many) then _ else _
        rw [e, hf, Bool.true_and]
        rfl
      · rw [if_neg hf]
        have : ∀ l : List Nat, 0 = (l.map ((fun x => if (pp f s a b x && decide (x < many)) = true then (many - x - 1) / L + 1 else 0) ∘ fun t => i + t * a)).sum := by
          intro l
          induction l with
          | nil => rfl
          | cons t l ih =>
            rw [List.map_cons, List.sum_cons, ← ih]
            show 0 = (if (pp f s a b (i + t * a) && decide (i + t * a < many)) = true then _ else 0) + 0
            rw [e, if_neg (by simp [hf])]
        exact this _
  exact this _ fun i hi => List.mem_range.mp hi
end Q
open Q
local macro_rules | `(tactic| walk_at "dx") => `(tactic| try simp only [dSeq, dDrop, kDrop, dRet, dRetN, dIf, kIf, dNever, dNext, dBreak, dCont, dSet, kSet, dPar, kPar, dPar3, kPar3, dAug, kAug, dAsg, kAsg, gNm, gsNil, gsCons, gTp, gUl, gSb, kGs1, kGs2, rSet, dFor, kFor, dLc, dYes, wipeD, dRaise, kRaise, dTry, wTry, clrM, clrD, putD', dXv, kXv,
  dC, dVar, dUn, dOp, kOp1, kOp2, dTst, kB, dAnd, kAnd, dOr, kOr, dNot, kNot, dAndV, kAndV, dOrV, kOrV, dNotV, kNotV, dIfE, kIfE, dNil, dCons, kCons1, kCons2, dTup, kTup, dLst, kLst, dCall, kCall, spN, dCallK, kCK1, kCK2, pick, dMet, kM1, kM2, isLst, rApp, dSl, kSl1, kSl2, kSl3, rSl, dNoP, dPart, kPart,
  rAdd, rSub, rMul, rMulT, rInP, rFdiv, rMod, rPow, rShl, rShr, rAnd, rXor, rNeg, rEq, rNe, rLt, rLe, rGt, rGe, rIs, rIsNot, isNon, rIx, rIsi, rIsi2, isTy, spLen, spInt, spTuple, spAll, spAny, spMax, spMin, spAbs, spList, rIn, rNotIn, rIns, dRevL, kRev, dBack, kBack, dLc2, iEn, kEn, dSrtSet, kSrtSet, dChain, kCh1, kCh2, kCh3, iZp, kZp, dLenNew, dLenSet, kLenSet, kLenNew, dDicE, isDic, rDset, dDget, kDg1, kDg2, dDget2, kDh1, kDh2, kDh3, rDget, gDb, kGd1, kGd2, dStp, kSt0, kSt1, kSt2, spSumB, rDin, dBits, kBits, rDnin, spLenD, dAugS, kAs1, kAs2, kAs3, kAs4, rRem, rIdx, spStr, dJoin, kJoin1, kJoin2, rPop1, rPop0, rRev, dDc, dTupRg, kTupRg, dLstRg, kLstRg, iSq, iRg1, kRg1, iRg2, kRg2, rIAdd, endsD,
  isL_iff, atI0, atI1, atI2, get_at0, get_at, List.set_set, List.length_set, lget_at0, lget_at, lget_hd, lget_tl, set_at0, set_at, app1, List.nil_append, List.cons_append, List.length_cons, List.length_nil, List.length_append,
  List.getElem?_cons_zero, List.getElem?_cons_succ, List.set_cons_zero, List.set_cons_succ, List.getElem?_nil, List.filterMap_cons, List.filterMap_nil, List.append_nil,
  Option.some.injEq, O.lst.injEq, exists_eq_left', exists_eq_left, exists_eq', List.cons.injEq, D.int.injEq, D.bl.injEq, D.tup.injEq, D.ref.injEq, D.str.injEq, Int.natCast_inj, true_and, and_true, and_self, Nat.reduceAdd, Nat.zero_add, Bool.not_true, Bool.not_false, reduceCtorEq, forall_const, imp_self, not_true_eq_false, not_false_eq_true, false_implies, true_implies, implies_true, Bool.true_eq_false, Bool.false_eq_true, Bool.true_or, Bool.or_true, Bool.false_or, Bool.or_false, Bool.and_true, Bool.true_and, decide_eq_true_eq, decide_eq_false_iff_not, Bool.not_eq_true', Bool.not_eq_false', decide_true, decide_false, or_false, false_or, exists_false, exists_and_left, and_assoc])
local macro_rules | `(tactic| walk_at "dz") => `(tactic| try simp only [dDrop, kDrop, dRet, dRetN, dIf, kIf, dNever, dNext, dBreak, dCont, dSet, kSet, dPar, kPar, dPar3, kPar3, dAug, kAug, dAsg, kAsg, gNm, gsNil, gsCons, gTp, gUl, gSb, kGs1, kGs2, rSet, dFor, kFor, dLc, dYes, wipeD, dRaise, kRaise, dTry, wTry, clrM, clrD, putD', dXv, kXv,
  dC, dVar, dUn, dOp, kOp1, kOp2, dTst, kB, dAnd, kAnd, dOr, kOr, dNot, kNot, dAndV, kAndV, dOrV, kOrV, dNotV, kNotV, dIfE, kIfE, dNil, dCons, kCons1, kCons2, dTup, kTup, dLst, kLst, dCall, kCall, spN, dCallK, kCK1, kCK2, pick, dMet, kM1, kM2, isLst, rApp, dSl, kSl1, kSl2, kSl3, rSl, dNoP, dPart, kPart,
  rAdd, rSub, rMul, rMulT, rInP, rFdiv, rMod, rPow, rShl, rShr, rAnd, rXor, rNeg, rEq, rNe, rLt, rLe, rGt, rGe, rIs, rIsNot, isNon, rIx, rIsi, rIsi2, isTy, spLen, spInt, spTuple, spAll, spAny, spMax, spMin, spAbs, spList, rIn, rNotIn, rIns, dRevL, kRev, dBack, kBack, dLc2, iEn, kEn, dSrtSet, kSrtSet, dChain, kCh1, kCh2, kCh3, iZp, kZp, dLenNew, dLenSet, kLenSet, kLenNew, dDicE, isDic, rDset, dDget, kDg1, kDg2, dDget2, kDh1, kDh2, kDh3, rDget, gDb, kGd1, kGd2, dStp, kSt0, kSt1, kSt2, spSumB, rDin, dBits, kBits, rDnin, spLenD, dAugS, kAs1, kAs2, kAs3, kAs4, rRem, rIdx, spStr, dJoin, kJoin1, kJoin2, rPop1, rPop0, rRev, dDc, dTupRg, kTupRg, dLstRg, kLstRg, iSq, iRg1, kRg1, iRg2, kRg2, rIAdd, endsD,
  isL_iff, atI0, atI1, atI2, get_at0, get_at, List.set_set, List.length_set, lget_at0, lget_at, lget_hd, lget_tl, set_at0, set_at, app1, List.nil_append, List.cons_append, List.length_cons, List.length_nil, List.length_append,
  List.getElem?_cons_zero, List.getElem?_cons_succ, List.set_cons_zero, List.set_cons_succ, List.getElem?_nil, List.filterMap_cons, List.filterMap_nil, List.append_nil,
  Option.some.injEq, O.lst.injEq, exists_eq_left', exists_eq_left, exists_eq', List.cons.injEq, D.int.injEq, D.bl.injEq, D.tup.injEq, D.ref.injEq, D.str.injEq, Int.natCast_inj, true_and, and_true, and_self, Nat.reduceAdd, Nat.zero_add, Bool.not_true, Bool.not_false, reduceCtorEq, forall_const, imp_self, not_true_eq_false, not_false_eq_true, false_implies, true_implies, implies_true, Bool.true_eq_false, Bool.false_eq_true, Bool.true_or, Bool.or_true, Bool.false_or, Bool.or_false, Bool.and_true, Bool.true_and, decide_eq_true_eq, decide_eq_false_iff_not, Bool.not_eq_true', Bool.not_eq_false', decide_true, decide_false, or_false, false_or, exists_false, exists_and_left, and_assoc])
namespace Q
open PySem
open Spec PyProof.Rows L2
/-! ### filters.py -/
theorem cn_modf (f : Nat → Bool) (g r : Nat) (hr : r < g) : ∀ k, cn (fun j => decide (j % g = r) && f j) (g * k) = cn (fun t => f (r + g * t)) k
  | 0 => rfl
  | k + 1 => by
    have : ∀ s, s ≤ g → cn (fun j => decide (j % g = r) && f j) (g * k + s) = cn (fun t => f (r + g * t)) k + if r < s ∧ f (r + g * k) = true then 1 else 0 := by
      intro s
      induction s with
      | zero => intro _; rw [Nat.add_zero, cn_modf f g r hr k]; simp
      | succ s ih =>
        intro hs
        rw [← Nat.add_assoc, cn_succ, ih (by omega)]
        rw [Nat.mul_add_mod, Nat.mod_eq_of_lt (show s < g by omega)]
        by_cases h1 : s = r
        · subst h1
          rw [Nat.add_comm (g * k) s]
          by_cases h2 : f (s + g * k) <;> simp [h2]
        · rw [decide_eq_false h1, Bool.false_and, if_neg (show ¬ (false = true) from Bool.false_ne_true), Nat.add_zero]
          by_cases h2 : r < s
          · simp [h2, show r < s + 1 by omega]
          · simp [h2, show ¬ r < s + 1 by omega]
    rw [Nat.mul_succ, this g (Nat.le_refl _), cn_succ]
    simp [hr]
theorem cn_count (P : Nat → Bool) (n : Nat) : ((List.range n).map P).countP id = cn P n := by
  unfold cn
  rw [List.countP_map, List.countP_eq_length_filter]
  rfl
theorem pick_rest (f : Nat → Bool) {g r k : Nat} (hr : r < g) : pickG ((List.range (g * k)).map f) (some (r : Int)) (g : Int) = (List.range k).map fun t => f (r + g * t) := by
  cases k with
  | zero =>
    have : (pickG ((List.range (g * 0)).map f) (some (r : Int)) (g : Int)) = [] := by
      unfold pickG
      refine List.filterMap_eq_nil_iff.mpr fun a _ => by simp
    rw [this]
    rfl
  | succ k =>
    have hgk : g ≤ g * (k + 1) := Nat.le_mul_of_pos_right g (Nat.succ_pos k)
    have hb : sliceBounds (some (r : Int)) none (some (g : Int)) ((List.range (g * (k + 1))).map f).length = ((r : Int), ((g * (k + 1) : Nat) : Int), (g : Int)) := by
      rw [List.length_map, List.length_range]
      unfold sliceBounds
      simp only [Option.getD_some]
      rw [if_pos (show (g : Int) > 0 by omega), if_pos (show (g : Int) > 0 by omega), if_neg (show ¬ ((r : Int) < 0) by omega)]
      congr 1
      omega
    unfold pickG
    rw [hb]
    show (sliceRange (r : Int) ((g * (k + 1) : Nat) : Int) (g : Int)).filterMap _ = _
    have hc : sliceRange (r : Int) ((g * (k + 1) : Nat) : Int) (g : Int) = (List.range (k + 1)).map fun t => r + g * t := by
      unfold sliceRange
      rw [if_pos (show (g : Int) > 0 by omega), if_pos (show (r : Int) < ((g * (k + 1) : Nat) : Int) by omega)]
      have e : (((g * (k + 1) : Nat) : Int) - (r : Int) + (g : Int) - 1) / (g : Int) = ((k + 1 : Nat) : Int) := by
        have e1 : ((g * (k + 1) : Nat) : Int) - (r : Int) + (g : Int) - 1 = ((g - 1 - r : Nat) : Int) + (g : Int) * ((k + 1 : Nat) : Int) := by
          push_cast
          omega
        rw [e1, Int.add_mul_ediv_left _ _ (show (g : Int) ≠ 0 by omega), Int.ediv_eq_zero_of_lt (by omega) (by omega), Int.zero_add]
      rw [e]
      show List.map _ (List.range ((k + 1 : Nat) : Int).toNat) = _
      rw [Int.toNat_natCast]
      refine List.map_congr_left fun t _ => ?_
      have : (r : Int) + (g : Int) * (t : Int) = ((r + g * t : Nat) : Int) := by push_cast; rfl
      rw [this, Int.toNat_natCast]
    rw [hc, List.filterMap_map]
    have all : ∀ l : List Nat, (∀ t ∈ l, t < k + 1) → l.filterMap ((fun x => ((List.range (g * (k + 1))).map f)[x]?) ∘ fun t => r + g * t) = l.map fun t => f (r + g * t) := by
      intro l
      induction l with
      | nil => intro _; rfl
      | cons t l ih =>
        intro hl
        rw [List.filterMap_cons_some (b := f (r + g * t)), ih fun x hx => hl x (List.mem_cons_of_mem _ hx), List.map_cons]
        have ht := hl t List.mem_cons_self
        have hlt : r + g * t < g * (k + 1) := by
          have := Nat.mul_le_mul_left g (show t + 1 ≤ k + 1 from ht)
          rw [Nat.mul_succ] at this
          omega
        show ((List.range (g * (k + 1))).map f)[r + g * t]? = some (f (r + g * t))
        rw [List.getElem?_map, List.getElem?_range hlt]
        rfl
    exact all _ fun t ht => List.mem_range.mp ht
theorem pick_cnt (f : Nat → Bool) {g r a : Nat} (hr : r < g) (hd : g ∣ a) : (pickG ((List.range a).map f) (some (r : Int)) (g : Int)).countP id = ((List.range a).filter fun i => decide (i % g = r) && f i).length := by
  obtain ⟨k, rfl⟩ := hd
  rw [pick_rest f hr, cn_count]
  exact (cn_modf f g r hr k).symm
theorem pickG_map {α β : Type} (f : α → β) (l : List α) (lo : Option Int) (c : Int) : pickG (l.map f) lo c = (pickG l lo c).map f := by
  unfold pickG
  rw [List.length_map, List.map_filterMap]
  congr 1
  funext i
  rw [List.getElem?_map]
theorem rest_at (f : Nat → Bool) {a i : Nat} (h : 0 < a) : atI (((List.range a).map f).map D.bl) ((i : Int) % (a : Int)) = some (.bl (f (i % a))) := by
  rw [show (i : Int) % (a : Int) = ((i % a : Nat) : Int) by push_cast; rfl]
  exact atI_nat (by rw [List.getElem?_map, List.getElem?_map, List.getElem?_range (Nat.mod_lt _ h)]; rfl)
structure Msh where
  m : Nat
  p : Nat
  ps : List (Nat × Nat)
  q : Nat × Nat
  w : Nat
  tb : List Nat
def Msh.d (M : Msh) : D := .tup [mixD M.m M.p M.ps M.q, .int (M.w : Int), .tup (natsD M.tb)]
structure Msh.Ok (M : Msh) : Prop where
  mix : MixOk M.m M.p M.ps M.q
  w1 : 1 ≤ M.w
  w2 : M.w ≤ 60
  len : M.tb.length = M.m
  lt : ∀ t ∈ M.tb, t < 2 ^ M.w
def Msh.lets (M : Msh) (x : Nat) : Bool := decide (xorN (pickN M.tb (rowN M.m M.p M.ps x)) = led M.q M.p x % 2 ^ M.w)
theorem led_mod (r : Nat × Nat) (p x : Nat) : led r p (x % p) = led r p x := by
  unfold led
  rw [Nat.add_mod, Nat.mul_mod, Nat.mod_mod, ← Nat.mul_mod, ← Nat.add_mod]
theorem Msh.lets_mod (M : Msh) (x : Nat) : M.lets (x % M.p) = M.lets x := by
  unfold Msh.lets rowN
  simp only [led_mod]
def Msh.rests (M : Msh) : List D := ((List.range M.p).map M.lets).map D.bl
/-- how many below many -/
def Msh.howN (M : Msh) (many : Nat) : Nat := many / M.p * cn M.lets M.p + cn M.lets (many % M.p)
/-- how many below many both let in -/
def bothN (M N : Msh) (many : Nat) : Nat := many / (N.p / Nat.gcd M.p N.p * M.p) * cn (pp M.lets N.lets M.p N.p) (N.p / Nat.gcd M.p N.p * M.p) + cn (pp M.lets N.lets M.p N.p) (many % (N.p / Nat.gcd M.p N.p * M.p))
def wrongN (M : Msh) (ns : List Nat) (many : Nat) : List Nat := (List.range many).filter fun x => M.lets x && decide (x ∉ ns)
/-- the number of cells of what may be a mixing -/
def m0D : D → Int
  | .tup (.int m :: _) => m
  | _ => 0
def isMeshD : D → Bool
  | .tup [mx, .int w, .tup tb] => isMixD mx && (decide (1 ≤ w) && (decide ((tb.length : Int) = m0D mx) && tb.all (isWordD w.toNat)))
  | _ => false
/-- no word of its table is over great -/
def smallT (d : D) : Prop := ∀ a b tb, d = .tup [a, b, .tup tb] → ∀ e ∈ tb, ∀ i, e = .int i → i < 2 ^ 100000
def oddD (S : Sto) (d : D) : Prop := wild S 1000 6 d ∧ smallT d ∧ isMeshD d = false
def sp_is_mesh : SpD := fun ds S k _ => ∃ d, ds = [d] ∧ wild S 1000 8 d ∧ smallT d ∧ k (.bl (isMeshD d)) S
def sp_is_filter : SpD := sp_is_mesh
def sp_check_mesh : SpD := fun ds S k x => ∃ d, ds = [d] ∧ wild S 1000 8 d ∧ smallT d ∧ (isMeshD d = true → k .non S) ∧ (isMeshD d = false → x ("InvalidFilter", d) S)
def sp_lets : SpD := fun ds S k _ => ∃ (M : Msh) (x : Nat), ds = [M.d, .int x] ∧ M.Ok ∧ k (.bl (M.lets x)) S
def sp_let_rests : SpD := fun ds S k _ => ∃ M : Msh, ds = [M.d] ∧ M.Ok ∧ k (.ref S.length) (S ++ [.lst M.rests])
/-- lets(mesh, x); slots: 0 mesh, 1 x, 2 mixing, 3 w, 4 table -/
def t_lets : TSD := (dSeq (dAsg (dVar 0) (gTp 3 (gsCons (gNm 2) (gsCons (gNm 3) (gsCons (gNm 4) gsNil))))) (dRet (dOp rEq (dCall (spN 2 sp_told_by_row) (dCons (dVar 4) (dCons (dCall (spN 2 sp_row_by) (dCons (dVar 2) (dCons (dVar 1) dNil))) dNil))) (dCall (spN 3 sp_mark_by) (dCons (dVar 2) (dCons (dVar 3) (dCons (dVar 1) dNil)))))))
/-- let_rests(mesh); slots: 0 mesh, 1 x -/
def t_let_rests : TSD := (dRet (dLc (iRg1 (dCons (dOp rIx (dOp rIx (dVar 0) (dC (.int 0))) (dC (.int 1))) dNil)) (gNm 1) dYes (dCall (spN 2 sp_lets) (dCons (dVar 0) (dCons (dVar 1) dNil))) [1]))

local macro_rules | `(tactic| walk_at "dzs") => `(tactic| try simp only [sp_lets, isIntD, dDrop, kDrop, dRet, dRetN, dIf, kIf, dNever, dNext, dBreak, dCont, dSet, kSet, dPar, kPar, dPar3, kPar3, dAug, kAug, dAsg, kAsg, gNm, gsNil, gsCons, gTp, gUl, gSb, kGs1, kGs2, rSet, dFor, kFor, dLc, dYes, wipeD, dRaise, kRaise, dTry, wTry, clrM, clrD, putD', dXv, kXv,
  dC, dVar, dUn, dOp, kOp1, kOp2, dTst, kB, dAnd, kAnd, dOr, kOr, dNot, kNot, dAndV, kAndV, dOrV, kOrV, dNotV, kNotV, dIfE, kIfE, dNil, dCons, kCons1, kCons2, dTup, kTup, dLst, kLst, dCall, kCall, spN, dCallK, kCK1, kCK2, pick, dMet, kM1, kM2, isLst, rApp, dSl, kSl1, kSl2, kSl3, rSl, dNoP, dPart, kPart,
  rAdd, rSub, rMul, rMulT, rInP, rFdiv, rMod, rPow, rShl, rShr, rAnd, rXor, rNeg, rEq, rNe, rLt, rLe, rGt, rGe, rIs, rIsNot, isNon, rIx, rIsi, rIsi2, isTy, spLen, spInt, spTuple, spAll, spAny, spMax, spMin, spAbs, spList, rIn, rNotIn, rIns, dRevL, kRev, dBack, kBack, dLc2, iEn, kEn, dSrtSet, kSrtSet, dChain, kCh1, kCh2, kCh3, iZp, kZp, dLenNew, dLenSet, kLenSet, kLenNew, dDicE, isDic, rDset, dDget, kDg1, kDg2, dDget2, kDh1, kDh2, kDh3, rDget, gDb, kGd1, kGd2, dStp, kSt0, kSt1, kSt2, spSumB, rDin, dBits, kBits, rDnin, spLenD, dAugS, kAs1, kAs2, kAs3, kAs4, rRem, rIdx, spStr, dJoin, kJoin1, kJoin2, rPop1, rPop0, rRev, dDc, dTupRg, kTupRg, dLstRg, kLstRg, iSq, iRg1, kRg1, iRg2, kRg2, rIAdd, endsD,
  isL_iff, atI0, atI1, atI2, get_at0, get_at, List.set_set, List.length_set, lget_at0, lget_at, lget_hd, lget_tl, set_at0, set_at, app1, List.nil_append, List.cons_append, List.length_cons, List.length_nil, List.length_append,
  List.getElem?_cons_zero, List.getElem?_cons_succ, List.set_cons_zero, List.set_cons_succ, List.getElem?_nil, List.filterMap_cons, List.filterMap_nil, List.append_nil,
  Option.some.injEq, O.lst.injEq, exists_eq_left', exists_eq_left, exists_eq', List.cons.injEq, D.int.injEq, D.bl.injEq, D.tup.injEq, D.ref.injEq, D.str.injEq, Int.natCast_inj, true_and, and_true, and_self, Nat.reduceAdd, Nat.zero_add, Bool.not_true, Bool.not_false, reduceCtorEq, forall_const, imp_self, not_true_eq_false, not_false_eq_true, false_implies, true_implies, implies_true, Bool.true_eq_false, Bool.false_eq_true, Bool.true_or, Bool.or_true, Bool.false_or, Bool.or_false, Bool.and_true, Bool.true_and, decide_eq_true_eq, decide_eq_false_iff_not, Bool.not_eq_true', Bool.not_eq_false', decide_true, decide_false, or_false, false_or, exists_false, exists_and_left, and_assoc])
local macro_rules | `(tactic| walk_at "ds") => `(tactic| try simp only [sp_lets, isIntD, dSeq, dDrop, kDrop, dRet, dRetN, dIf, kIf, dNever, dNext, dBreak, dCont, dSet, kSet, dPar, kPar, dPar3, kPar3, dAug, kAug, dAsg, kAsg, gNm, gsNil, gsCons, gTp, gUl, gSb, kGs1, kGs2, rSet, dFor, kFor, dLc, dYes, wipeD, dRaise, kRaise, dTry, wTry, clrM, clrD, putD', dXv, kXv,
  dC, dVar, dUn, dOp, kOp1, kOp2, dTst, kB, dAnd, kAnd, dOr, kOr, dNot, kNot, dAndV, kAndV, dOrV, kOrV, dNotV, kNotV, dIfE, kIfE, dNil, dCons, kCons1, kCons2, dTup, kTup, dLst, kLst, dCall, kCall, spN, dCallK, kCK1, kCK2, pick, dMet, kM1, kM2, isLst, rApp, dSl, kSl1, kSl2, kSl3, rSl, dNoP, dPart, kPart,
  rAdd, rSub, rMul, rMulT, rInP, rFdiv, rMod, rPow, rShl, rShr, rAnd, rXor, rNeg, rEq, rNe, rLt, rLe, rGt, rGe, rIs, rIsNot, isNon, rIx, rIsi, rIsi2, isTy, spLen, spInt, spTuple, spAll, spAny, spMax, spMin, spAbs, spList, rIn, rNotIn, rIns, dRevL, kRev, dBack, kBack, dLc2, iEn, kEn, dSrtSet, kSrtSet, dChain, kCh1, kCh2, kCh3, iZp, kZp, dLenNew, dLenSet, kLenSet, kLenNew, dDicE, isDic, rDset, dDget, kDg1, kDg2, dDget2, kDh1, kDh2, kDh3, rDget, gDb, kGd1, kGd2, dStp, kSt0, kSt1, kSt2, spSumB, rDin, dBits, kBits, rDnin, spLenD, dAugS, kAs1, kAs2, kAs3, kAs4, rRem, rIdx, spStr, dJoin, kJoin1, kJoin2, rPop1, rPop0, rRev, dDc, dTupRg, kTupRg, dLstRg, kLstRg, iSq, iRg1, kRg1, iRg2, kRg2, rIAdd, endsD,
  isL_iff, atI0, atI1, atI2, get_at0, get_at, List.set_set, List.length_set, lget_at0, lget_at, lget_hd, lget_tl, set_at0, set_at, app1, List.nil_append, List.cons_append, List.length_cons, List.length_nil, List.length_append,
  List.getElem?_cons_zero, List.getElem?_cons_succ, List.set_cons_zero, List.set_cons_succ, List.getElem?_nil, List.filterMap_cons, List.filterMap_nil, List.append_nil,
  Option.some.injEq, O.lst.injEq, exists_eq_left', exists_eq_left, exists_eq', List.cons.injEq, D.int.injEq, D.bl.injEq, D.tup.injEq, D.ref.injEq, D.str.injEq, Int.natCast_inj, true_and, and_true, and_self, Nat.reduceAdd, Nat.zero_add, Bool.not_true, Bool.not_false, reduceCtorEq, forall_const, imp_self, not_true_eq_false, not_false_eq_true, false_implies, true_implies, implies_true, Bool.true_eq_false, Bool.false_eq_true, Bool.true_or, Bool.or_true, Bool.false_or, Bool.or_false, Bool.and_true, Bool.true_and, decide_eq_true_eq, decide_eq_false_iff_not, Bool.not_eq_true', Bool.not_eq_false', decide_true, decide_false, or_false, false_or, exists_false, exists_and_left, and_assoc])
theorem sum_cast : ∀ l : List Nat, (l.map fun c : Nat => (c : Int)).sum = ((l.sum : Nat) : Int)
  | [] => rfl
  | a :: l => by
    rw [List.map_cons, List.sum_cons, List.sum_cons, sum_cast l]
    push_cast
    rfl
theorem k_lets : Keeps 2 5 t_lets sp_lets := by
  intro ds S k x hl cS cd h
  obtain ⟨M, y, rfl, hM, h⟩ := h
  show t_lets (endsD S.length k x) [some M.d, some (.int y), none, none, none] S
  simp only [t_lets, Msh.d]
  refine dSeq_go ?_
  walk_at "dz"
  refine ⟨_, _, _, _, y, rfl, hM.mix, ?_⟩
  walk_at "dz"
  have hrow : ∀ c ∈ rowN M.m M.p M.ps y, c < M.m := fun c hc => List.mem_range.mp (List.mem_filter.mp hc).1
  have hrl : (rowN M.m M.p M.ps y).length ≤ M.m := by
    have := List.length_filter_le (fun c => M.ps.any fun q => decide (led q M.p y % M.m = c)) (List.range M.m)
    rw [List.length_range] at this
    exact this
  have h2 := hM.mix.m2
  refine ⟨M.tb, _, rfl, by rw [hM.len]; exact hrow, by omega, ?_⟩
  walk_at "dz"
  refine ⟨M.m, M.p, M.ps, M.q, M.w, y, rfl, hM.mix, by have := hM.w2; omega, ?_⟩
  walk_at "dz"
  exact wk_now h
theorem k_let_rests : Keeps 1 2 t_let_rests sp_let_rests := by
  intro ds S k x hl cS cd h
  obtain ⟨M, rfl, hM, h⟩ := h
  show t_let_rests (endsD S.length k x) [some M.d, none] S
  simp only [t_let_rests, Msh.d, mixD]
  walk_at "dx"
  have hp1 := hM.mix.p1
  have hp2 := hM.mix.p2
  refine ⟨by omega, by omega, lc_map (fun d => .bl (M.lets (intD d).toNat)) (fun d hd acc kk hk => ?_) (fun _ => trivial) (by show (List.map _ _).length ≤ _; rw [List.length_map, List.length_range, sl16]; omega) ?_⟩
  · obtain ⟨i, hi, rfl⟩ := List.mem_map.mp hd
    rw [show (0 : Int) + (i : Int) = (i : Int) by omega] at hk ⊢
    walk_at "dx"
    exact ⟨M, i, rfl, hM, hk⟩
  · have e : ((List.range (M.p : Int).toNat).map fun i : Nat => D.int (0 + (i : Int))).map (fun d => D.bl (M.lets (intD d).toNat)) = M.rests := by
      unfold Msh.rests
      rw [Int.toNat_natCast, List.map_map, List.map_map]
      refine List.map_congr_left fun i _ => ?_
      show D.bl (M.lets (0 + (i : Int)).toNat) = D.bl (M.lets i)
      rw [Int.zero_add, Int.toNat_natCast]
    show wk _ _ _ (S ++ [O.lst (List.map _ _)])
    rw [e]
    exact wk_now h
end Q
open Q
local macro_rules | `(tactic| walk_at "dx") => `(tactic| try simp only [dSeq, dDrop, kDrop, dRet, dRetN, dIf, kIf, dNever, dNext, dBreak, dCont, dSet, kSet, dPar, kPar, dPar3, kPar3, dAug, kAug, dAsg, kAsg, gNm, gsNil, gsCons, gTp, gUl, gSb, kGs1, kGs2, rSet, dFor, kFor, dLc, dYes, wipeD, dRaise, kRaise, dTry, wTry, clrM, clrD, putD', dXv, kXv,
  dC, dVar, dUn, dOp, kOp1, kOp2, dTst, kB, dAnd, kAnd, dOr, kOr, dNot, kNot, dAndV, kAndV, dOrV, kOrV, dNotV, kNotV, dIfE, kIfE, dNil, dCons, kCons1, kCons2, dTup, kTup, dLst, kLst, dCall, kCall, spN, dCallK, kCK1, kCK2, pick, dMet, kM1, kM2, isLst, rApp, dSl, kSl1, kSl2, kSl3, rSl, dNoP, dPart, kPart,
  rAdd, rSub, rMul, rMulT, rInP, rFdiv, rMod, rPow, rShl, rShr, rAnd, rXor, rNeg, rEq, rNe, rLt, rLe, rGt, rGe, rIs, rIsNot, isNon, rIx, rIsi, rIsi2, isTy, spLen, spInt, spTuple, spAll, spAny, spMax, spMin, spAbs, spList, rIn, rNotIn, rIns, dRevL, kRev, dBack, kBack, dLc2, iEn, kEn, dSrtSet, kSrtSet, dChain, kCh1, kCh2, kCh3, iZp, kZp, dLenNew, dLenSet, kLenSet, kLenNew, dDicE, isDic, rDset, dDget, kDg1, kDg2, dDget2, kDh1, kDh2, kDh3, rDget, gDb, kGd1, kGd2, dStp, kSt0, kSt1, kSt2, spSumB, rDin, dBits, kBits, rDnin, spLenD, dAugS, kAs1, kAs2, kAs3, kAs4, rRem, rIdx, spStr, dJoin, kJoin1, kJoin2, rPop1, rPop0, rRev, dDc, dTupRg, kTupRg, dLstRg, kLstRg, iSq, iRg1, kRg1, iRg2, kRg2, rIAdd, endsD,
  isL_iff, atI0, atI1, atI2, get_at0, get_at, List.set_set, List.length_set, lget_at0, lget_at, lget_hd, lget_tl, set_at0, set_at, app1, List.nil_append, List.cons_append, List.length_cons, List.length_nil, List.length_append,
  List.getElem?_cons_zero, List.getElem?_cons_succ, List.set_cons_zero, List.set_cons_succ, List.getElem?_nil, List.filterMap_cons, List.filterMap_nil, List.append_nil,
  Option.some.injEq, O.lst.injEq, exists_eq_left', exists_eq_left, exists_eq', List.cons.injEq, D.int.injEq, D.bl.injEq, D.tup.injEq, D.ref.injEq, D.str.injEq, Int.natCast_inj, true_and, and_true, and_self, Nat.reduceAdd, Nat.zero_add, Bool.not_true, Bool.not_false, reduceCtorEq, forall_const, imp_self, not_true_eq_false, not_false_eq_true, false_implies, true_implies, implies_true, Bool.true_eq_false, Bool.false_eq_true, Bool.true_or, Bool.or_true, Bool.false_or, Bool.or_false, Bool.and_true, Bool.true_and, decide_eq_true_eq, decide_eq_false_iff_not, Bool.not_eq_true', Bool.not_eq_false', decide_true, decide_false, or_false, false_or, exists_false, exists_and_left, and_assoc])
local macro_rules | `(tactic| walk_at "dz") => `(tactic| try simp only [dDrop, kDrop, dRet, dRetN, dIf, kIf, dNever, dNext, dBreak, dCont, dSet, kSet, dPar, kPar, dPar3, kPar3, dAug, kAug, dAsg, kAsg, gNm, gsNil, gsCons, gTp, gUl, gSb, kGs1, kGs2, rSet, dFor, kFor, dLc, dYes, wipeD, dRaise, kRaise, dTry, wTry, clrM, clrD, putD', dXv, kXv,
  dC, dVar, dUn, dOp, kOp1, kOp2, dTst, kB, dAnd, kAnd, dOr, kOr, dNot, kNot, dAndV, kAndV, dOrV, kOrV, dNotV, kNotV, dIfE, kIfE, dNil, dCons, kCons1, kCons2, dTup, kTup, dLst, kLst, dCall, kCall, spN, dCallK, kCK1, kCK2, pick, dMet, kM1, kM2, isLst, rApp, dSl, kSl1, kSl2, kSl3, rSl, dNoP, dPart, kPart,
  rAdd, rSub, rMul, rMulT, rInP, rFdiv, rMod, rPow, rShl, rShr, rAnd, rXor, rNeg, rEq, rNe, rLt, rLe, rGt, rGe, rIs, rIsNot, isNon, rIx, rIsi, rIsi2, isTy, spLen, spInt, spTuple, spAll, spAny, spMax, spMin, spAbs, spList, rIn, rNotIn, rIns, dRevL, kRev, dBack, kBack, dLc2, iEn, kEn, dSrtSet, kSrtSet, dChain, kCh1, kCh2, kCh3, iZp, kZp, dLenNew, dLenSet, kLenSet, kLenNew, dDicE, isDic, rDset, dDget, kDg1, kDg2, dDget2, kDh1, kDh2, kDh3, rDget, gDb, kGd1, kGd2, dStp, kSt0, kSt1, kSt2, spSumB, rDin, dBits, kBits, rDnin, spLenD, dAugS, kAs1, kAs2, kAs3, kAs4, rRem, rIdx, spStr, dJoin, kJoin1, kJoin2, rPop1, rPop0, rRev, dDc, dTupRg, kTupRg, dLstRg, kLstRg, iSq, iRg1, kRg1, iRg2, kRg2, rIAdd, endsD,
  isL_iff, atI0, atI1, atI2, get_at0, get_at, List.set_set, List.length_set, lget_at0, lget_at, lget_hd, lget_tl, set_at0, set_at, app1, List.nil_append, List.cons_append, List.length_cons, List.length_nil, List.length_append,
  List.getElem?_cons_zero, List.getElem?_cons_succ, List.set_cons_zero, List.set_cons_succ, List.getElem?_nil, List.filterMap_cons, List.filterMap_nil, List.append_nil,
  Option.some.injEq, O.lst.injEq, exists_eq_left', exists_eq_left, exists_eq', List.cons.injEq, D.int.injEq, D.bl.injEq, D.tup.injEq, D.ref.injEq, D.str.injEq, Int.natCast_inj, true_and, and_true, and_self, Nat.reduceAdd, Nat.zero_add, Bool.not_true, Bool.not_false, reduceCtorEq, forall_const, imp_self, not_true_eq_false, not_false_eq_true, false_implies, true_implies, implies_true, Bool.true_eq_false, Bool.false_eq_true, Bool.true_or, Bool.or_true, Bool.false_or, Bool.or_false, Bool.and_true, Bool.true_and, decide_eq_true_eq, decide_eq_false_iff_not, Bool.not_eq_true', Bool.not_eq_false', decide_true, decide_false, or_false, false_or, exists_false, exists_and_left, and_assoc])
namespace Q
open PySem
open Spec PyProof.Rows L2
/-! ### filters judged, of any values (k35) -/
def sp_lets_in : SpD := fun ds S k x => ∃ (d : D) (y : Nat), ds = [d, .int y] ∧ ((∃ M : Msh, d = M.d ∧ M.Ok ∧ k (.bl (M.lets y)) S) ∨ (oddD S d ∧ x ("InvalidFilter", d) S))
def sp_how_many_in : SpD := fun ds S k x => ∃ (d : D) (many : Nat), ds = [d, .int many] ∧ ((∃ M : Msh, d = M.d ∧ M.Ok ∧ M.p ≤ 1000 ∧ many < 2 ^ 200 ∧ k (.int (M.howN many : Nat)) S) ∨ (oddD S d ∧ x ("InvalidFilter", d) S))
def sp_wrongly : SpD := fun ds S k x => ∃ (d e : D) (ns : List Nat) (many : Nat), ds = [d, e, .int many] ∧ ((∃ M : Msh, d = M.d ∧ M.Ok ∧ numsAt S e ns ∧ NumsOk ns ∧ many ≤ 1000 ∧ k (.ref S.length) (S ++ [.lst (natsD (wrongN M ns many))])) ∨ (oddD S d ∧ x ("InvalidFilter", d) S))
def sp_both : SpD := fun ds S k x => ∃ (d e : D) (many : Nat), ds = [d, e, .int many] ∧
  ((∃ M N : Msh, d = M.d ∧ e = N.d ∧ M.Ok ∧ N.Ok ∧ M.p ≤ 1000 ∧ N.p ≤ 1000 ∧ many < 2 ^ 200 ∧ k (.int (bothN M N many : Nat)) S) ∨ (oddD S d ∧ x ("InvalidFilter", d) S) ∨ (∃ M : Msh, d = M.d ∧ M.Ok ∧ oddD S e ∧ x ("InvalidFilter", e) S))
/-- is_mesh(told); slots: 0 told, 1 mixing, 2 w, 3 table, 4 word -/
def t_is_mesh : TSD := (dSeq (dIf (dOr (dNot (dTst (dUn (rIsi .tuple) (dVar 0)))) (dOr (dTst (dOp rNe (dCall spLen (dCons (dVar 0) dNil)) (dC (.int 3)))) (dNot (dTst (dCall (spN 1 sp_is_mixing_told) (dCons (dOp rIx (dVar 0) (dC (.int 0))) dNil)))))) (dRet (dC (.bl false))) dNext) (dSeq (dAsg (dVar 0) (gTp 3 (gsCons (gNm 1) (gsCons (gNm 2) (gsCons (gNm 3) gsNil))))) (dSeq (dIf (dOr (dNot (dTst (dCall (spN 1 sp_is_integer) (dCons (dVar 2) dNil)))) (dOr (dTst (dOp rLt (dVar 2) (dC (.int 1)))) (dOr (dNot (dTst (dUn (rIsi .tuple) (dVar 3)))) (dTst (dOp rNe (dCall spLen (dCons (dVar 3) dNil)) (dOp rIx (dVar 1) (dC (.int 0)))))))) (dRet (dC (.bl false))) dNext) (dRet (dCall spAll (dCons (dLc (iSq (dVar 3)) (gNm 4) dYes (dCall (spN 2 sp_is_word_of) (dCons (dVar 2) (dCons (dVar 4) dNil))) [4]) dNil))))))
/-- check_mesh(mesh); slots: 0 mesh -/
def t_check_mesh : TSD := (dIf (dNot (dTst (dCall (spN 1 sp_is_mesh) (dCons (dVar 0) dNil)))) (dRaise "InvalidFilter" (dCons (dVar 0) dNil)) dNext)
/-- is_filter(told); slots: 0 told -/
def t_is_filter : TSD := (dRet (dCall (spN 1 sp_is_mesh) (dCons (dVar 0) dNil)))
/-- lets_in(mesh, x); slots: 0 mesh, 1 x -/
def t_lets_in : TSD := (dSeq (dDrop (dCall (spN 1 sp_check_mesh) (dCons (dVar 0) dNil))) (dSeq (dDrop (dCall (spN 2 sp_check_from) (dCons (dVar 1) (dCons (dC (.int 0)) dNil)))) (dRet (dCall (spN 2 sp_lets) (dCons (dVar 0) (dCons (dVar 1) dNil))))))
/-- how_many_in(mesh, many); slots: 0 mesh, 1 many, 2 rests -/
def t_how_many_in : TSD := (dSeq (dDrop (dCall (spN 1 sp_check_mesh) (dCons (dVar 0) dNil))) (dSeq (dDrop (dCall (spN 2 sp_check_from) (dCons (dVar 1) (dCons (dC (.int 0)) dNil)))) (dSeq (dSet 2 (dCall (spN 1 sp_let_rests) (dCons (dVar 0) dNil))) (dRet (dOp rAdd (dOp rMul (dOp rFdiv (dVar 1) (dCall spLen (dCons (dVar 2) dNil))) (dCall spSumB (dCons (dVar 2) dNil))) (dCall spSumB (dCons (dSl (dVar 2) dNoP (dPart (dOp rMod (dVar 1) (dCall spLen (dCons (dVar 2) dNil))))) dNil)))))))
/-- wrongly(mesh, numbers, many); slots: 0 mesh, 1 numbers, 2 many, 3 x -/
def t_wrongly : TSD := (dSeq (dDrop (dCall (spN 1 sp_check_mesh) (dCons (dVar 0) dNil))) (dSeq (dDrop (dCall (spN 2 sp_check_from) (dCons (dVar 2) (dCons (dC (.int 0)) dNil)))) (dSeq (dDrop (dCall (spN 1 sp_check_numbers) (dCons (dVar 1) dNil))) (dRet (dLc (iRg1 (dCons (dVar 2) dNil)) (gNm 3) (dAnd (dTst (dCall (spN 2 sp_lets) (dCons (dVar 0) (dCons (dVar 3) dNil)))) (dTst (dOp rNotIn (dVar 3) (dVar 1)))) (dVar 3) [3])))))
/-- both(one, other, many); slots: 0 one, 1 other, 2 many, 3 first, 4 second, 5 common, 6 whole, 7 in_round, 8 rest, 9 left, 10 x -/
def t_both : TSD := (dSeq (dDrop (dCall (spN 1 sp_check_mesh) (dCons (dVar 0) dNil))) (dSeq (dDrop (dCall (spN 1 sp_check_mesh) (dCons (dVar 1) dNil))) (dSeq (dDrop (dCall (spN 2 sp_check_from) (dCons (dVar 2) (dCons (dC (.int 0)) dNil)))) (dSeq (dAsg (dTup (dCons (dCall (spN 1 sp_let_rests) (dCons (dVar 0) dNil)) (dCons (dCall (spN 1 sp_let_rests) (dCons (dVar 1) dNil)) dNil))) (gTp 2 (gsCons (gNm 3) (gsCons (gNm 4) gsNil)))) (dSeq (dSet 5 (dCall spGcd (dCons (dCall spLen (dCons (dVar 3) dNil)) (dCons (dCall spLen (dCons (dVar 4) dNil)) dNil)))) (dSeq (dSet 6 (dOp rMul (dOp rFdiv (dCall spLen (dCons (dVar 3) dNil)) (dVar 5)) (dCall spLen (dCons (dVar 4) dNil)))) (dSeq (dSet 7 (dCall spSum (dCons (dLc (iRg1 (dCons (dVar 5) dNil)) (gNm 8) dYes (dOp rMul (dCall spSumB (dCons (dStp (dVar 3) (dPart (dVar 8)) (dPart (dVar 5))) dNil)) (dCall spSumB (dCons (dStp (dVar 4) (dPart (dVar 8)) (dPart (dVar 5))) dNil))) [8]) dNil))) (dSeq (dSet 9 (dLc (iRg1 (dCons (dOp rMod (dVar 2) (dVar 6)) dNil)) (gNm 10) (dAnd (dTst (dOp rIx (dVar 3) (dOp rMod (dVar 10) (dCall spLen (dCons (dVar 3) dNil))))) (dTst (dOp rIx (dVar 4) (dOp rMod (dVar 10) (dCall spLen (dCons (dVar 4) dNil)))))) (dVar 10) [10])) (dRet (dOp rAdd (dOp rMul (dOp rFdiv (dVar 2) (dVar 6)) (dVar 7)) (dCall spLen (dCons (dVar 9) dNil))))))))))))

theorem smallT_msh {M : Msh} (hM : M.Ok) : smallT M.d := fun a b tb e t ht i hi => by
  simp only [Msh.d, D.tup.injEq, List.cons.injEq] at e
  obtain ⟨rfl, rfl, rfl, _⟩ := e
  obtain ⟨c, hc, rfl⟩ := List.mem_map.mp ht
  cases hi
  have h1 := hM.lt c hc
  have h2 : 2 ^ M.w ≤ 2 ^ 60 := Nat.pow_le_pow_right (by decide) hM.w2
  exact Int.lt_of_lt_of_le (b := 2 ^ 60) (by omega) (by exact_mod_cast Nat.pow_le_pow_right (n := 2) (by decide) (show 60 ≤ 100000 by decide))
theorem wild_msh {S : Sto} {M : Msh} (hM : M.Ok) : wild S 1000 8 M.d := by
  refine ⟨by show 3 ≤ 1000; decide, fun e he => ?_⟩
  simp only [List.mem_cons, List.not_mem_nil, or_false] at he
  rcases he with rfl | rfl | rfl
  · exact wild_mix hM.mix
  · trivial
  · refine ⟨by rw [List.length_map, hM.len]; exact hM.mix.m2, fun t ht => ?_⟩
    obtain ⟨c, _, rfl⟩ := List.mem_map.mp ht
    exact wild_int
theorem isMesh_msh {M : Msh} (hM : M.Ok) : isMeshD M.d = true := by
  show (isMixD _ && (decide ((1 : Int) ≤ (M.w : Int)) && (decide (((natsD M.tb).length : Int) = (M.m : Int)) && (natsD M.tb).all (isWordD ((M.w : Int)).toNat)))) = true
  have w1 := hM.w1
  rw [isMix_of hM.mix, decide_eq_true (by omega), decide_eq_true (by rw [List.length_map, hM.len]), Bool.true_and, Bool.true_and, Bool.true_and, List.all_map]
  refine List.all_eq_true.mpr fun c hc => ?_
  show decide (0 ≤ (c : Int) ∧ (c : Int) < 2 ^ (M.w : Int).toNat) = true
  have := hM.lt c hc
  refine decide_eq_true ⟨by omega, ?_⟩
  rw [Int.toNat_natCast]
  exact_mod_cast this
theorem isMix_shape {a : D} (h : isMixD a = true) : ∃ (m : Int) (r : List D), a = .tup (.int m :: r) := by
  unfold isMixD at h
  split at h
  · exact ⟨_, _, rfl⟩
  · cases h
theorem k_is_mesh : Keeps 1 5 t_is_mesh sp_is_mesh := by
  intro ds S k x hl cS cd h
  obtain ⟨d, rfl, hd, hsm, h⟩ := h
  show t_is_mesh (endsD S.length k x) [some d, none, none, none, none] S
  have h' := wk_now (n := S.length) h
  simp only [t_is_mesh]
  cases d with
  | ref n =>
    obtain ⟨xs, hx⟩ := wild_ok hd n rfl
    walk_at "dx"
    simp only [tyR_of hx, Option.some.injEq, exists_eq_left', isTy]
    exact ⟨fun _ => h', fun z => (nomatch z)⟩
  | tup ds =>
    by_cases h3 : ds.length = 3
    · obtain ⟨a, b, c, rfl⟩ := len3 h3
      have wa := hd.2 a (by simp)
      have wb := hd.2 b (by simp)
      have wc := hd.2 c (by simp)
      refine dSeq_go ?_
      walk_at "dz"
      refine ⟨fun z => absurd rfl z, fun _ => ⟨a, rfl, wa, ?_⟩⟩
      have fls : isMeshD (.tup [a, b, c]) = false → wk S.length k (.bl false) S := fun e => by rw [e] at h'; exact h'
      cases hma : isMixD a with
      | false =>
        walk_at "dz"
        exact fls (by cases b <;> cases c <;> simp [isMeshD, hma])
      | true =>
        obtain ⟨m, r, rfl⟩ := isMix_shape hma
        walk_at "dz"
        refine dSeq_go ?_
        walk_at "dz"
        refine dSeq_go ?_
        walk_at "dz"
        refine ⟨b, rfl, wild_ok wb, ?_⟩
        cases b with
        | int w =>
          simp only [isIntD]
          walk_at "dz"
          refine ⟨fun q1 => fls ?_, fun q1 => ?_⟩
          · cases c with
            | tup tb =>
              show (isMixD _ && (decide (1 ≤ w) && _)) = false
              rw [decide_eq_false (p := 1 ≤ w) (by omega), Bool.false_and, Bool.and_false]
            | _ => rfl
          · cases c with
            | ref n =>
              obtain ⟨xs, hx⟩ := wild_ok wc n rfl
              simp only [tyR_of hx, Option.some.injEq, exists_eq_left', isTy]
              exact ⟨fun _ => fls rfl, fun z => (nomatch z)⟩
            | tup tb =>
              walk_at "dz"
              refine ⟨fun q2 => fls ?_, fun q2 => ?_⟩
              · simp [isMeshD, m0D, q2]
              · refine lc_map (fun e => .bl (isWordD w.toNat e)) (fun e he acc kk hk => ?_) (fun _ => trivial) (sl_ok _ (Nat.le_trans wc.1 (by decide))) ?_
                · walk_at "dz"
                  refine ⟨w.toNat, e, by rw [Int.toNat_of_nonneg (by omega)], wild_ok (wild_app _ (wc.2 e he)), by omega, fun i hi => hsm _ _ tb rfl e he i hi, hk⟩
                · walk_at "dz"
                  refine ⟨tb.map (isWordD w.toNat), by rw [List.map_map]; rfl, ?_⟩
                  have e1 : (tb.map (isWordD w.toNat)).all id = isMeshD (.tup [.tup (.int m :: r), .int w, .tup tb]) := by
                    show _ = (isMixD _ && (decide (1 ≤ w) && (decide ((tb.length : Int) = m) && tb.all (isWordD w.toNat))))
                    rw [hma, decide_eq_true (p := 1 ≤ w) (by omega), decide_eq_true q2, List.all_map]
                    rfl
                  rw [e1]
                  exact wk_drop rfl cS trivial h
            | _ => walk_at "dz"; exact fls rfl
        | _ => simp only [isIntD]; walk_at "dz"; exact fls rfl
    · have e : isMeshD (.tup ds) = false := by
        unfold isMeshD
        split
        · rename_i e
          simp only [D.tup.injEq] at e
          rw [e] at h3
          exact absurd rfl h3
        · rfl
      rw [e] at h'
      walk_at "dx"
      exact ⟨fun _ => h', fun z => absurd (by omega) h3⟩
  | _ => walk_at "dx"; simpa [isMeshD] using h'
theorem k_is_filter : Keeps 1 1 t_is_filter sp_is_filter := by
  intro ds S k x hl cS cd h
  obtain ⟨d, rfl, hd, hsm, h⟩ := h
  show t_is_filter (endsD S.length k x) [some d] S
  simp only [t_is_filter]
  walk_at "dx"
  exact ⟨d, rfl, hd, hsm, wk_now h⟩
theorem k_check_mesh : Keeps 1 1 t_check_mesh sp_check_mesh := by
  intro ds S k x hl cS cd h
  obtain ⟨d, rfl, hd, hsm, h1, h2⟩ := h
  show t_check_mesh (endsD S.length k x) [some d] S
  simp only [t_check_mesh]
  walk_at "dx"
  refine ⟨d, rfl, hd, hsm, ?_⟩
  cases e : isMeshD d with
  | true =>
    walk_at "dx"
    exact wk_now (h1 e)
  | false =>
    walk_at "dx"
    exact .inl (h2 e)
theorem check_mesh_ok {S : Sto} {M : Msh} {k : KD} {x : XD} (hM : M.Ok) (h : k .non S) : sp_check_mesh [M.d] S k x := ⟨M.d, rfl, wild_msh hM, smallT_msh hM, fun _ => h, fun z => (by rw [isMesh_msh hM] at z; cases z)⟩
theorem check_mesh_no {S : Sto} {d : D} {k : KD} {x : XD} (hd : oddD S d) (h : x ("InvalidFilter", d) S) : sp_check_mesh [d] S k x := ⟨d, rfl, wild_mono (Nat.le_refl _) (by decide) hd.1, hd.2.1, fun z => (by rw [hd.2.2] at z; cases z), fun _ => h⟩
theorem k_lets_in : Keeps 2 2 t_lets_in sp_lets_in := by
  intro ds S k x hl cS cd h
  obtain ⟨d, y, rfl, h⟩ := h
  show t_lets_in (endsD S.length k x) [some d, some (.int y)] S
  simp only [t_lets_in]
  walk_at "dx"
  rcases h with ⟨M, rfl, hM, h⟩ | ⟨hd, h⟩
  · refine check_mesh_ok hM ?_
    walk_at "dx"
    refine ⟨y, 0, rfl, by omega, ?_⟩
    walk_at "dx"
    exact ⟨M, y, rfl, hM, wk_now h⟩
  · exact check_mesh_no hd (.inl h)
theorem k_wrongly : Keeps 3 4 t_wrongly sp_wrongly := by
  intro ds S k x hl cS cd h
  obtain ⟨d0, d, ns, many, rfl, h⟩ := h
  show t_wrongly (endsD S.length k x) [some d0, some d, some (.int many), none] S
  simp only [t_wrongly]
  walk_at "dx"
  rcases h with ⟨M, rfl, hM, hd, hns, hm, h⟩ | ⟨hd, h⟩
  · refine check_mesh_ok hM ?_
    walk_at "dx"
    refine ⟨many, 0, rfl, by omega, ?_⟩
    walk_at "dx"
    refine ⟨d, ns, rfl, hd, hns, ?_⟩
    walk_at "dx"
    refine ⟨by omega, by omega, lc_filter (fun y => M.lets (intD y).toNat && decide ((intD y).toNat ∉ ns)) id (fun y hy acc kk hk => ?_) (fun y hy hpp acc kk hk => ?_) (fun _ => trivial) (by show (List.map _ _).length ≤ _; rw [List.length_map, List.length_range, sl16]; omega) ?_⟩
    · obtain ⟨i, hi, rfl⟩ := List.mem_map.mp hy
      rw [show (0 : Int) + (i : Int) = (i : Int) by omega] at hk ⊢
      walk_at "dx"
      refine ⟨M, i, rfl, hM, ?_⟩
      have hk2 : kk (M.lets i && decide (i ∉ ns)) (S ++ [.lst acc]) := hk
      cases hb : M.lets i with
      | false =>
        rw [hb] at hk2
        walk_at "dx"
        exact hk2
      | true =>
        rw [hb, Bool.true_and, decide_not] at hk2
        rcases hd with rfl | ⟨j, rfl, hj⟩
        · walk_at "dx"
          refine ⟨rfl, flat_nats _, ?_⟩
          rw [inF_nats]
          exact hk2
        · walk_at "dx"
          refine ⟨_, lget_app hj, rfl, flat_nats _, ?_⟩
          rw [inF_nats]
          exact hk2
    · obtain ⟨i, hi, rfl⟩ := List.mem_map.mp hy
      walk_at "dx"
      exact hk
    · have e : (((List.range (many : Int).toNat).map fun i : Nat => D.int (0 + (i : Int))).filter (fun y => M.lets (intD y).toNat && decide ((intD y).toNat ∉ ns))).map id = natsD (wrongN M ns many) := by
        rw [List.map_id, Int.toNat_natCast, List.filter_map]
        unfold wrongN natsD
        have e2 : ((fun y => M.lets (intD y).toNat && decide ((intD y).toNat ∉ ns)) ∘ fun i : Nat => D.int (0 + (i : Int))) = fun x => M.lets x && decide (x ∉ ns) := funext fun i => by
          show (M.lets (0 + (i : Int)).toNat && decide ((0 + (i : Int)).toNat ∉ ns)) = _
          rw [Int.zero_add, Int.toNat_natCast]
        rw [e2]
        refine List.map_congr_left fun i _ => ?_
        rw [Int.zero_add]
      show wk _ _ _ (S ++ [O.lst (List.map _ _)])
      rw [e]
      exact wk_now h
  · exact check_mesh_no hd (.inl h)
theorem k_how_many_in : Keeps 2 3 t_how_many_in sp_how_many_in := by
  intro ds S k x hl cS cd h
  obtain ⟨d, many, rfl, h⟩ := h
  show t_how_many_in (endsD S.length k x) [some d, some (.int many), none] S
  simp only [t_how_many_in]
  walk_at "dx"
  rcases h with ⟨M, rfl, hM, hM1000, hm, h⟩ | ⟨hd, h⟩
  · refine check_mesh_ok hM ?_
    walk_at "dx"
    refine ⟨many, 0, rfl, by omega, ?_⟩
    walk_at "dx"
    refine ⟨M, rfl, hM, ?_⟩
    walk_at "dx"
    have hp1 := hM.mix.p1
    have hp2 := hM.mix.p2
    have hlen : M.rests.length = M.p := by
      unfold Msh.rests
      rw [List.length_map, List.length_map, List.length_range]
    rw [hlen]
    have hpm : many % M.p < M.p := Nat.mod_lt _ (by omega)
    have e1 : ((many : Int) / (M.p : Int)) = ((many / M.p : Nat) : Int) := by push_cast; rfl
    have e2 : ((many : Int) % (M.p : Int)) = ((many % M.p : Nat) : Int) := by push_cast; rfl
    have hcn : cn M.lets M.p ≤ M.p := by
      have := List.length_filter_le M.lets (List.range M.p)
      rw [List.length_range] at this
      exact this
    refine ⟨divW (by omega) (Nat.lt_of_lt_of_le (show M.p < 2 ^ 100 by omega) (Nat.pow_le_pow_right (by decide) (by decide))), (List.range M.p).map M.lets, rfl, ?_, by omega, (List.range (many % M.p)).map M.lets, ?_, ?_⟩
    · rw [cn_count, e1]
      exact .inl (.inr ⟨by omega, by omega⟩)
    · rw [e2, cut_take]
      unfold Msh.rests
      rw [← List.map_take, ← List.map_take, List.take_range, Nat.min_eq_left (by omega)]
    · rw [cn_count, cn_count, e1, show ((many / M.p : Nat) : Int) * ((cn M.lets M.p : Nat) : Int) + ((cn M.lets (many % M.p) : Nat) : Int) = ((M.howN many : Nat) : Int) by unfold Msh.howN; push_cast; rfl]
      exact wk_drop rfl cS trivial h
  · exact check_mesh_no hd (.inl h)
theorem k_both : Keeps 3 11 t_both sp_both := by
  intro ds S k x hl cS cd h
  obtain ⟨d, e, many, rfl, h⟩ := h
  show t_both (endsD S.length k x) [some d, some e, some (.int many), none, none, none, none, none, none, none, none] S
  simp only [t_both]
  refine dSeq_go ?_
  walk_at "dz"
  rcases h with ⟨M, N, rfl, rfl, hM, hN, hMp, hNp, hm, h⟩ | ⟨hd, h⟩ | ⟨M, rfl, hM, hd, h⟩
  · have hp1 := hM.mix.p1
    have hp2 := hN.mix.p1
    have hl1 : M.rests.length = M.p := by
      unfold Msh.rests
      rw [List.length_map, List.length_map, List.length_range]
    have hl2 : N.rests.length = N.p := by
      unfold Msh.rests
      rw [List.length_map, List.length_map, List.length_range]
    refine check_mesh_ok hM ?_
    walk_at "dz"
    refine dSeq_go ?_
    walk_at "dz"
    refine check_mesh_ok hN ?_
    walk_at "dz"
    refine dSeq_go ?_
    walk_at "dz"
    refine ⟨many, 0, rfl, by omega, ?_⟩
    walk_at "dz"
    refine dSeq_go ?_
    walk_at "dz"
    refine ⟨M, rfl, hM, ?_⟩
    walk_at "dz"
    refine ⟨N, rfl, hN, ?_⟩
    walk_at "dz"
    refine ⟨by decide, ?_⟩
    rw [show M.rests = ((List.range M.p).map M.lets).map D.bl from rfl, show N.rests = ((List.range N.p).map N.lets).map D.bl from rfl] at *
    refine dSeq_go ?_
    walk_at "dz"
    rw [hl1, hl2]
    simp only [spGcd]
    rw [Int.natAbs_natCast, Int.natAbs_natCast]
    walk_at "dz"
    have hg : 0 < Nat.gcd M.p N.p := Nat.gcd_pos_of_pos_left _ (by omega)
    have hgl : Nat.gcd M.p N.p ≤ M.p := Nat.gcd_le_left _ (by omega)
    have hd1 : Nat.gcd M.p N.p ∣ M.p := Nat.gcd_dvd_left _ _
    have hd2 : Nat.gcd M.p N.p ∣ N.p := Nat.gcd_dvd_right _ _
    have hin := in_round M.lets N.lets (a := M.p) (b := N.p) (by omega) (by omega)
    have hL : N.p / Nat.gcd M.p N.p * M.p = M.p / Nat.gcd M.p N.p * N.p := by
      rw [Nat.mul_comm, ← Nat.mul_div_assoc _ hd2, Nat.mul_comm, Nat.mul_div_assoc _ hd1, Nat.mul_comm]
    unfold bothN at h
    rw [hL] at h hin
    generalize Nat.gcd M.p N.p = g at *
    refine dSeq_go ?_
    walk_at "dz"
    simp only [hl1, hl2]
    have hga : g ≤ 1000 := by omega
    have ew : ((M.p : Int) / (g : Int)) * (N.p : Int) = ((M.p / g * N.p : Nat) : Int) := by push_cast; rfl
    have hq1 : M.p / g ≤ M.p := Nat.div_le_self _ _
    have hq0 : 0 < M.p / g := Nat.div_pos hgl hg
    have hW0 : 0 < M.p / g * N.p := Nat.mul_pos hq0 (by omega)
    have hWm : M.p / g * N.p ≤ 1000 * 1000 := Nat.mul_le_mul (by omega) hNp
    rw [ew]
    generalize M.p / g * N.p = W at *
    have e3 : ((M.p : Int) / (g : Int)) = ((M.p / g : Nat) : Int) := by push_cast; rfl
    refine ⟨divW hg (Nat.lt_of_lt_of_le (show g < 2 ^ 100 by omega) (Nat.pow_le_pow_right (by decide) (by decide))), by rw [e3]; exact .inl (.inr ⟨by omega, by omega⟩), ?_⟩
    refine dSeq_go ?_
    walk_at "dz"
    generalize hF : (fun r : Nat => ((List.range M.p).filter fun i => decide (i % g = r) && M.lets i).length * ((List.range N.p).filter fun j => decide (j % g = r) && N.lets j).length) = F
    refine ⟨by omega, by omega, lc_ind (fun items acc T => ∃ (done rest : List Nat) (G : Sto), List.range g = done ++ rest ∧ items = rest.map (fun i : Nat => D.int (0 + (i : Int))) ∧ acc = done.map (fun r => D.int (F r : Nat)) ∧ T = S ++ (.lst (((List.range M.p).map M.lets).map D.bl) :: .lst (((List.range N.p).map N.lets).map D.bl) :: .lst acc :: G)) ⟨[], List.range g, [], rfl, by rw [Int.toNat_natCast], rfl, by simp⟩ ?_ ?_⟩
    · rintro acc T ⟨done, rest, G, hr, hit, rfl, rfl⟩
      refine ⟨trivial, ?_⟩
      cases rest with
      | cons a b => exact nomatch hit
      | nil =>
        rw [List.append_nil] at hr
        rw [← hr]
        walk_at "dz"
        simp only [spSum, isL_iff]
        refine ⟨((List.range g).map F).map fun c : Nat => (c : Int), lget_k 2 (by simp) ?_, ?_⟩
        · show some (List.map _ _) = _
          rw [List.map_map, List.map_map]
          rfl
        · rw [sum_cast]
          generalize (O.lst (List.map (fun r => D.int ((F r : Nat) : Int)) (List.range g)) :: G) = G2
          rw [← hF, hin]
          refine dSeq_go ?_
          walk_at "dz"
          refine dSeq_go ?_
          walk_at "dz"
          have em : (many : Int) % (W : Int) = ((many % W : Nat) : Int) := by push_cast; rfl
          have hmw : many % W < W := Nat.mod_lt _ hW0
          rw [em]
          refine ⟨by omega, by omega, by omega, lc_filter (fun y => pp M.lets N.lets M.p N.p (intD y).toNat) id (fun y hy acc kk hk => ?_) (fun y hy hpp acc kk hk => ?_) (fun _ => trivial) (by show (List.map _ _).length ≤ _; rw [List.length_map, List.length_range, sl16]; omega) ?_⟩
          · obtain ⟨i, hi, rfl⟩ := List.mem_map.mp hy
            have hk2 : kk (M.lets (i % M.p) && N.lets (i % N.p)) (S ++ O.lst (((List.range M.p).map M.lets).map D.bl) :: O.lst (((List.range N.p).map N.lets).map D.bl) :: G2 ++ [.lst acc]) := by
              have e : pp M.lets N.lets M.p N.p (intD (D.int (0 + (i : Int)))).toNat = (M.lets (i % M.p) && N.lets (i % N.p)) := by
                show pp M.lets N.lets M.p N.p (0 + (i : Int)).toNat = _
                rw [Int.zero_add, Int.toNat_natCast]
                rfl
              rw [← e]
              exact hk
            clear hk
            rw [List.append_assoc] at hk2
            simp only [Int.zero_add]
            walk_at "dz"
            simp only [hl1, hl2]
            refine ⟨by omega, _, rest_at M.lets (by omega), ?_⟩
            cases hb : M.lets (i % M.p) with
            | false =>
              rw [hb] at hk2
              exact ⟨fun z => (by cases z), fun _ => hk2⟩
            | true =>
              rw [hb] at hk2
              exact ⟨fun _ => ⟨by omega, _, rest_at N.lets (by omega), hk2⟩, fun z => (by cases z)⟩
          · obtain ⟨i, hi, rfl⟩ := List.mem_map.mp hy
            rw [List.append_assoc] at hk
            walk_at "dz"
            exact hk
          · have e : (((List.range ((many % W : Nat) : Int).toNat).map fun i : Nat => D.int (0 + (i : Int))).filter (fun y => pp M.lets N.lets M.p N.p (intD y).toNat)).length = cn (pp M.lets N.lets M.p N.p) (many % W) := by
              rw [Int.toNat_natCast, List.filter_map, List.length_map]
              unfold cn
              congr 2
              funext i
              show pp M.lets N.lets M.p N.p (0 + (i : Int)).toNat = _
              rw [Int.zero_add, Int.toNat_natCast]
            walk_at "dz"
            have hcn : cn (pp M.lets N.lets M.p N.p) W ≤ W := by
              have := List.length_filter_le (pp M.lets N.lets M.p N.p) (List.range W)
              rw [List.length_range] at this
              exact this
            refine ⟨divW hW0 (Nat.lt_of_lt_of_le (show W < 2 ^ 100 by omega) (Nat.pow_le_pow_right (by decide) (by decide))), .inl (.inr ⟨by omega, by omega⟩), ?_⟩
            rw [List.map_id, e, show (many : Int) / (W : Int) * ((cn (pp M.lets N.lets M.p N.p) W : Nat) : Int) + ((cn (pp M.lets N.lets M.p N.p) (many % W) : Nat) : Int) = ((many / W * cn (pp M.lets N.lets M.p N.p) W + cn (pp M.lets N.lets M.p N.p) (many % W) : Nat) : Int) by push_cast; rfl]
            exact wk_drop rfl cS trivial h
    · rintro d its acc T kk ⟨done, rest, G, hr, hit, rfl, rfl⟩ hkk
      refine ⟨trivial, ?_⟩
      cases rest with
      | nil => exact nomatch hit
      | cons r rest =>
        obtain ⟨rfl, rfl⟩ := List.cons.inj hit
        have hrg : r < g := List.mem_range.mp (by rw [hr]; simp)
        simp only [Int.zero_add]
        walk_at "dz"
        have hFr : F r = (pickG ((List.range M.p).map M.lets) (some (r : Int)) (g : Int)).countP id * (pickG ((List.range N.p).map N.lets) (some (r : Int)) (g : Int)).countP id := by
          rw [← hF, pick_cnt _ hrg hd1, pick_cnt _ hrg hd2]
        refine ⟨by omega, pickG ((List.range M.p).map M.lets) (some (r : Int)) (g : Int), pickG_map .., by omega, pickG ((List.range N.p).map N.lets) (some (r : Int)) (g : Int), pickG_map .., ?_, ?_⟩
        · refine .inl (.inr ⟨by omega, ?_⟩)
          have h1 := pick_cnt N.lets hrg hd2
          have h2 := List.length_filter_le (fun j => decide (j % g = r) && N.lets j) (List.range N.p)
          rw [List.length_range] at h2
          omega
        · have em : ∀ a b : Nat, (a : Int) * (b : Int) = ((a * b : Nat) : Int) := fun a b => by push_cast; rfl
          rw [em, ← hFr]
          have hdl : done.length ≤ g := by
            have := congrArg List.length hr
            rw [List.length_range, List.length_append] at this
            omega
          refine hkk _ _ (get_k 2 (by simp) rfl) (by rw [List.length_map, sl16]; omega) ⟨done ++ [r], rest, G ++ [.lst (pickG (((List.range M.p).map M.lets).map D.bl) (some (r : Int)) (g : Int)), .lst (pickG (((List.range N.p).map N.lets).map D.bl) (some (r : Int)) (g : Int))], by rw [hr]; simp, rfl, by rw [List.map_append]; rfl, ?_⟩
          rw [set_in (r := 2) (by simp)]
          rfl
  · exact check_mesh_no hd (.inl h)
  · refine check_mesh_ok hM ?_
    walk_at "dz"
    refine dSeq_go ?_
    walk_at "dz"
    exact check_mesh_no hd (.inl h)
end Q
open Q
local macro_rules | `(tactic| walk_at "dx") => `(tactic| try simp only [dSeq, dDrop, kDrop, dRet, dRetN, dIf, kIf, dNever, dNext, dBreak, dCont, dSet, kSet, dPar, kPar, dPar3, kPar3, dAug, kAug, dAsg, kAsg, gNm, gsNil, gsCons, gTp, gUl, gSb, kGs1, kGs2, rSet, dFor, kFor, dLc, dYes, wipeD, dRaise, kRaise, dTry, wTry, clrM, clrD, putD', dXv, kXv,
  dC, dVar, dUn, dOp, kOp1, kOp2, dTst, kB, dAnd, kAnd, dOr, kOr, dNot, kNot, dAndV, kAndV, dOrV, kOrV, dNotV, kNotV, dIfE, kIfE, dNil, dCons, kCons1, kCons2, dTup, kTup, dLst, kLst, dCall, kCall, spN, dCallK, kCK1, kCK2, pick, dMet, kM1, kM2, isLst, rApp, dSl, kSl1, kSl2, kSl3, rSl, dNoP, dPart, kPart,
  rAdd, rSub, rMul, rMulT, rInP, rFdiv, rMod, rPow, rShl, rShr, rAnd, rXor, rNeg, rEq, rNe, rLt, rLe, rGt, rGe, rIs, rIsNot, isNon, rIx, rIsi, rIsi2, isTy, spLen, spInt, spTuple, spAll, spAny, spMax, spMin, spAbs, spList, rIn, rNotIn, rIns, dRevL, kRev, dBack, kBack, dLc2, iEn, kEn, dSrtSet, kSrtSet, dChain, kCh1, kCh2, kCh3, iZp, kZp, dLenNew, dLenSet, kLenSet, kLenNew, dDicE, isDic, rDset, dDget, kDg1, kDg2, dDget2, kDh1, kDh2, kDh3, rDget, gDb, kGd1, kGd2, dStp, kSt0, kSt1, kSt2, spSumB, rDin, dBits, kBits, rDnin, spLenD, dAugS, kAs1, kAs2, kAs3, kAs4, rRem, rIdx, spStr, dJoin, kJoin1, kJoin2, rPop1, rPop0, rRev, dDc, dTupRg, kTupRg, dLstRg, kLstRg, iSq, iRg1, kRg1, iRg2, kRg2, rIAdd, endsD,
  isL_iff, atI0, atI1, atI2, get_at0, get_at, List.set_set, List.length_set, lget_at0, lget_at, lget_hd, lget_tl, set_at0, set_at, app1, List.nil_append, List.cons_append, List.length_cons, List.length_nil, List.length_append,
  List.getElem?_cons_zero, List.getElem?_cons_succ, List.set_cons_zero, List.set_cons_succ, List.getElem?_nil, List.filterMap_cons, List.filterMap_nil, List.append_nil,
  Option.some.injEq, O.lst.injEq, exists_eq_left', exists_eq_left, exists_eq', List.cons.injEq, D.int.injEq, D.bl.injEq, D.tup.injEq, D.ref.injEq, D.str.injEq, Int.natCast_inj, true_and, and_true, and_self, Nat.reduceAdd, Nat.zero_add, Bool.not_true, Bool.not_false, reduceCtorEq, forall_const, imp_self, not_true_eq_false, not_false_eq_true, false_implies, true_implies, implies_true, Bool.true_eq_false, Bool.false_eq_true, Bool.true_or, Bool.or_true, Bool.false_or, Bool.or_false, Bool.and_true, Bool.true_and, decide_eq_true_eq, decide_eq_false_iff_not, Bool.not_eq_true', Bool.not_eq_false', decide_true, decide_false, or_false, false_or, exists_false, exists_and_left, and_assoc])
local macro_rules | `(tactic| walk_at "dz") => `(tactic| try simp only [dDrop, kDrop, dRet, dRetN, dIf, kIf, dNever, dNext, dBreak, dCont, dSet, kSet, dPar, kPar, dPar3, kPar3, dAug, kAug, dAsg, kAsg, gNm, gsNil, gsCons, gTp, gUl, gSb, kGs1, kGs2, rSet, dFor, kFor, dLc, dYes, wipeD, dRaise, kRaise, dTry, wTry, clrM, clrD, putD', dXv, kXv,
  dC, dVar, dUn, dOp, kOp1, kOp2, dTst, kB, dAnd, kAnd, dOr, kOr, dNot, kNot, dAndV, kAndV, dOrV, kOrV, dNotV, kNotV, dIfE, kIfE, dNil, dCons, kCons1, kCons2, dTup, kTup, dLst, kLst, dCall, kCall, spN, dCallK, kCK1, kCK2, pick, dMet, kM1, kM2, isLst, rApp, dSl, kSl1, kSl2, kSl3, rSl, dNoP, dPart, kPart,
  rAdd, rSub, rMul, rMulT, rInP, rFdiv, rMod, rPow, rShl, rShr, rAnd, rXor, rNeg, rEq, rNe, rLt, rLe, rGt, rGe, rIs, rIsNot, isNon, rIx, rIsi, rIsi2, isTy, spLen, spInt, spTuple, spAll, spAny, spMax, spMin, spAbs, spList, rIn, rNotIn, rIns, dRevL, kRev, dBack, kBack, dLc2, iEn, kEn, dSrtSet, kSrtSet, dChain, kCh1, kCh2, kCh3, iZp, kZp, dLenNew, dLenSet, kLenSet, kLenNew, dDicE, isDic, rDset, dDget, kDg1, kDg2, dDget2, kDh1, kDh2, kDh3, rDget, gDb, kGd1, kGd2, dStp, kSt0, kSt1, kSt2, spSumB, rDin, dBits, kBits, rDnin, spLenD, dAugS, kAs1, kAs2, kAs3, kAs4, rRem, rIdx, spStr, dJoin, kJoin1, kJoin2, rPop1, rPop0, rRev, dDc, dTupRg, kTupRg, dLstRg, kLstRg, iSq, iRg1, kRg1, iRg2, kRg2, rIAdd, endsD,
  isL_iff, atI0, atI1, atI2, get_at0, get_at, List.set_set, List.length_set, lget_at0, lget_at, lget_hd, lget_tl, set_at0, set_at, app1, List.nil_append, List.cons_append, List.length_cons, List.length_nil, List.length_append,
  List.getElem?_cons_zero, List.getElem?_cons_succ, List.set_cons_zero, List.set_cons_succ, List.getElem?_nil, List.filterMap_cons, List.filterMap_nil, List.append_nil,
  Option.some.injEq, O.lst.injEq, exists_eq_left', exists_eq_left, exists_eq', List.cons.injEq, D.int.injEq, D.bl.injEq, D.tup.injEq, D.ref.injEq, D.str.injEq, Int.natCast_inj, true_and, and_true, and_self, Nat.reduceAdd, Nat.zero_add, Bool.not_true, Bool.not_false, reduceCtorEq, forall_const, imp_self, not_true_eq_false, not_false_eq_true, false_implies, true_implies, implies_true, Bool.true_eq_false, Bool.false_eq_true, Bool.true_or, Bool.or_true, Bool.false_or, Bool.or_false, Bool.and_true, Bool.true_and, decide_eq_true_eq, decide_eq_false_iff_not, Bool.not_eq_true', Bool.not_eq_false', decide_true, decide_false, or_false, false_or, exists_false, exists_and_left, and_assoc])
namespace Q
open PySem
open Spec PyProof.Rows L2
/-! ### the law's mixings and filters (k34, k35) -/
def sp__law_row : SpD := sp_row_by
def sp__law_mark : SpD := sp_mark_by
def sp__law_mixing : SpD := fun ds S k _ => ∃ n a b c most : Nat, ds = [.ref n, .int most] ∧ 0 < most ∧ most ≤ 40 ∧ S[n]? = some (wellO a b c) ∧ b < 2 ^ 100 ∧ c < 2 ^ 50 ∧ ∀ (m p : Nat) (ps : List (Nat × Nat)) (q : Nat × Nat) (a' c' : Nat), MixOk m p ps q → m ≤ 40 → p ≤ 1000 → ps.length ≤ 12 → c' ≤ c + 100 → k (mixD m p ps q) (S.set n (wellO a' b c'))
def sp__law_numbers : SpD := fun ds S k _ => ∃ n a b c many : Nat, ds = [.ref n, .int many] ∧ many ≤ 40 ∧ S[n]? = some (wellO a b c) ∧ b < 2 ^ 100 ∧ c < 2 ^ 50 ∧ ∀ (ns : List Nat) (a' c' : Nat), ns.Nodup → ns.length ≤ many → (∀ x ∈ ns, x < 10 ^ 18) → c' ≤ c + 100 → k (.ref S.length) (S.set n (wellO a' b c') ++ [.lst (natsD ns)])
def sp__law_lets : SpD := sp_lets
/-- _law_row(_law_mixing_here, _law_x); slots: 0 _law_mixing_here, 1 _law_x, 2 _law_m, 3 _law_p, 4 _law_pairs, 5 _law_mark_here, 6 _law_found, 7 _law_a, 8 _law_b, 9 _law_cell -/
def t__law_row : TSD := (dSeq (dAsg (dVar 0) (gTp 4 (gsCons (gNm 2) (gsCons (gNm 3) (gsCons (gNm 4) (gsCons (gNm 5) gsNil)))))) (dSeq (dSet 6 (dLst dNil)) (dSeq (dFor (iSq (dVar 4)) (gTp 2 (gsCons (gNm 7) (gsCons (gNm 8) gsNil))) (dSeq (dSet 9 (dOp rMod (dCall spInt (dCons (dOp rMod (dCall spInt (dCons (dOp rAdd (dOp rMul (dVar 7) (dVar 1)) (dVar 8)) dNil)) (dVar 3)) dNil)) (dVar 2))) (dIf (dTst (dOp rNotIn (dVar 9) (dVar 6))) (dDrop (dMet rApp (dVar 6) (dCons (dVar 9) dNil))) dNext))) (dRet (dCall spTuple (dCons (dCall spSorted (dCons (dVar 6) dNil)) dNil))))))
/-- _law_mark(_law_mixing_here, _law_w, _law_x); slots: 0 _law_mixing_here, 1 _law_w, 2 _law_x, 3 _law_a, 4 _law_b -/
def t__law_mark : TSD := (dSeq (dAsg (dOp rIx (dVar 0) (dC (.int 3))) (gTp 2 (gsCons (gNm 3) (gsCons (gNm 4) gsNil)))) (dRet (dOp rMod (dCall spInt (dCons (dOp rMod (dCall spInt (dCons (dOp rAdd (dOp rMul (dVar 3) (dVar 2)) (dVar 4)) dNil)) (dOp rIx (dVar 0) (dC (.int 1)))) dNil)) (dCall (spN 1 sp__law_power) (dCons (dVar 1) dNil)))))
/-- _law_mixing(_law_well_here, _law_most); slots: 0 _law_well_here, 1 _law_most, 2 _law_m, 3 _law_p, 4 _law_many, 5 _law_pairs, 6 _law_turn -/
def t__law_mixing : TSD := (dSeq (dAsg (dTup (dCons (dOp rAdd (dC (.int 1)) (dCall (spN 2 sp__law_dip) (dCons (dVar 0) (dCons (dVar 1) dNil)))) (dCons (dOp rAdd (dC (.int 2)) (dCall (spN 2 sp__law_dip) (dCons (dVar 0) (dCons (dOp rIx (dLst (dCons (dC (.int 9)) (dCons (dC (.int 60)) (dCons (dC (.int 999)) dNil)))) (dCall (spN 2 sp__law_dip) (dCons (dVar 0) (dCons (dC (.int 3)) dNil)))) dNil)))) dNil))) (gTp 2 (gsCons (gNm 2) (gsCons (gNm 3) gsNil)))) (dSeq (dSet 4 (dOp rAdd (dC (.int 1)) (dCall (spN 2 sp__law_dip) (dCons (dVar 0) (dCons (dOp rIx (dLst (dCons (dC (.int 4)) (dCons (dC (.int 12)) dNil))) (dCall (spN 2 sp__law_dip) (dCons (dVar 0) (dCons (dC (.int 2)) dNil)))) dNil))))) (dSeq (dSet 5 (dCall spTuple (dCons (dLc (iRg1 (dCons (dVar 4) dNil)) (gNm 6) dYes (dTup (dCons (dCall (spN 2 sp__law_dip) (dCons (dVar 0) (dCons (dVar 3) dNil))) (dCons (dCall (spN 2 sp__law_dip) (dCons (dVar 0) (dCons (dVar 3) dNil))) dNil))) [6]) dNil))) (dRet (dTup (dCons (dVar 2) (dCons (dVar 3) (dCons (dVar 5) (dCons (dTup (dCons (dCall (spN 2 sp__law_dip) (dCons (dVar 0) (dCons (dVar 3) dNil))) (dCons (dCall (spN 2 sp__law_dip) (dCons (dVar 0) (dCons (dVar 3) dNil))) dNil))) dNil)))))))))
/-- _law_numbers(_law_well_here, _law_most); slots: 0 _law_well_here, 1 _law_most, 2 _law_found, 3 _law_turn, 4 _law_x -/
def t__law_numbers : TSD := (dSeq (dSet 2 (dLst dNil)) (dSeq (dFor (iRg1 (dCons (dCall (spN 2 sp__law_dip) (dCons (dVar 0) (dCons (dOp rAdd (dVar 1) (dC (.int 1))) dNil))) dNil)) (gNm 3) (dSeq (dSet 4 (dCall (spN 2 sp__law_dip) (dCons (dVar 0) (dCons (dOp rIx (dLst (dCons (dOp rAdd (dC (.int 30)) (dOp rMul (dC (.int 2)) (dVar 1))) (dCons (dC (.int 1000)) (dCons (dOp rPow (dC (.int 10)) (dC (.int 18))) dNil)))) (dCall (spN 2 sp__law_dip) (dCons (dVar 0) (dCons (dC (.int 3)) dNil)))) dNil)))) (dIf (dTst (dOp rNotIn (dVar 4) (dVar 2))) (dDrop (dMet rApp (dVar 2) (dCons (dVar 4) dNil))) dNext))) (dRet (dVar 2))))
/-- _law_lets(_law_own, _law_x); slots: 0 _law_own, 1 _law_x, 2 _law_mixing_here, 3 _law_w, 4 _law_table, 5 _law_cell -/
def t__law_lets : TSD := (dSeq (dAsg (dVar 0) (gTp 3 (gsCons (gNm 2) (gsCons (gNm 3) (gsCons (gNm 4) gsNil))))) (dRet (dOp rEq (dCall (spN 1 sp__law_sum) (dCons (dLc (iSq (dCall (spN 2 sp__law_row) (dCons (dVar 2) (dCons (dVar 1) dNil)))) (gNm 5) dYes (dOp rIx (dVar 4) (dVar 5)) [5]) dNil)) (dCall (spN 3 sp__law_mark) (dCons (dVar 2) (dCons (dVar 3) (dCons (dVar 1) dNil)))))))

theorem k__law_mark : Keeps 3 5 t__law_mark sp__law_mark := by
  intro ds S k x hl cS cd h
  obtain ⟨m, p, ps, q, w, y, rfl, hM, hw, h⟩ := h
  show t__law_mark (endsD S.length k x) [some (mixD m p ps q), some (.int w), some (.int y), none, none] S
  have hp1 := hM.p1
  have hp2 := hM.p2
  have hq1 := hM.q.1
  simp only [t__law_mark, mixD]
  refine dSeq_go ?_
  walk_at "dz"
  refine ⟨pairD q, atI3 _ _ _ _ _, ?_⟩
  simp only [pairD]
  walk_at "dz"
  refine ⟨.inl (.inl ⟨by omega, by omega⟩), by omega, w, rfl, hw, ?_⟩
  walk_at "dz"
  have e0 : ((q.1 : Int) * (y : Int) + (q.2 : Int)) % (p : Int) = ((led q p y : Nat) : Int) := by
    unfold led
    push_cast
    rfl
  have h2 : 0 < 2 ^ w := Nat.pow_pos (by decide)
  refine ⟨by omega, ?_⟩
  rw [e0, show ((led q p y : Nat) : Int) % ((2 ^ w : Nat) : Int) = ((led q p y % 2 ^ w : Nat) : Int) by push_cast; rfl]
  exact wk_now h
theorem k__law_row : Keeps 2 10 t__law_row sp__law_row := by
  intro ds S k x hl cS cd h
  obtain ⟨m, p, ps, q, y, rfl, hM, h⟩ := h
  show t__law_row (endsD S.length k x) [some (mixD m p ps q), some (.int y), none, none, none, none, none, none, none, none] S
  have hm := hM.m1
  have hlen := hM.len
  simp only [t__law_row, mixD]
  refine dSeq_go ?_
  walk_at "dz"
  refine dSeq_go ?_
  walk_at "dz"
  refine ⟨Nat.zero_le _, ?_⟩
  refine dSeq_cut (fun sg S' => ∃ (l : List Nat) (d7 d8 d9 : Option D), l.Nodup ∧ (∀ c, c ∈ l ↔ ∃ r ∈ ps, led r p y % m = c) ∧ sg = [some (mixD m p ps q), some (.int (y : Int)), some (.int (m : Int)), some (.int (p : Int)), some (.tup (ps.map pairD)), some (pairD q), some (.ref S.length), d7, d8, d9] ∧ S' = S ++ [.lst (natsD l)]) (fun nx hnx => ?_) ?_
  · walk_at "dz"
    refine wFor_ind (fun items sg S' => ∃ (ds rest : List (Nat × Nat)) (l : List Nat) (d7 d8 d9 : Option D), ps = ds ++ rest ∧ items = rest.map pairD ∧ l.Nodup ∧ l.length ≤ ds.length ∧ (∀ c, c ∈ l ↔ ∃ r ∈ ds, led r p y % m = c) ∧ sg = [some (mixD m p ps q), some (.int (y : Int)), some (.int (m : Int)), some (.int (p : Int)), some (.tup (ps.map pairD)), some (pairD q), some (.ref S.length), d7, d8, d9] ∧ S' = S ++ [.lst (natsD l)]) ?_ ?_ _ _ _ ⟨[], ps, [], none, none, none, rfl, rfl, List.nodup_nil, Nat.le_refl _, fun c => by simp, rfl, rfl⟩
    · rintro sg S' ⟨ds, rest, l, d7, d8, d9, hps, hit, hnd, hll, hmem, rfl, rfl⟩
      cases rest with
      | cons a b => exact nomatch hit
      | nil =>
        rw [List.append_nil] at hps
        subst hps
        exact ⟨trivial, hnx _ _ ⟨l, d7, d8, d9, hnd, hmem, rfl, rfl⟩⟩
    · rintro d r sg S' nx2 ⟨ds, rest, l, d7, d8, d9, hps, hit, hnd, hll, hmem, rfl, rfl⟩ hnx2
      refine ⟨trivial, ?_⟩
      cases rest with
      | nil => exact nomatch hit
      | cons a rest =>
        rw [List.map_cons, List.cons.injEq] at hit
        obtain ⟨rfl, rfl⟩ := hit
        have ha : a ∈ ps := by rw [hps]; simp
        simp only [pairD]
        walk_at "dx"
        have hp1 := hM.p1
        have hp2 := hM.p2
        have ha1 := (hM.ps a ha).1
        refine ⟨.inl (.inl ⟨by omega, by omega⟩), by omega, by omega, ?_⟩
        have e0 : ((a.1 : Int) * (y : Int) + (a.2 : Int)) % (p : Int) = ((led a p y : Nat) : Int) := by
          unfold led
          push_cast
          rfl
        rw [e0]
        rw [show ((led a p y : Nat) : Int) % (m : Int) = ((led a p y % m : Nat) : Int) by push_cast; rfl]
        have hl30 : ds.length ≤ 30 := by
          have := congrArg List.length hps
          rw [List.length_append, List.length_cons] at this
          omega
        rw [inF_nats]
        have hps2 : ps = (ds ++ [a]) ++ rest := by rw [hps]; simp
        have hmem2 : ∀ c, (∃ r ∈ ds ++ [a], led r p y % m = c) ↔ c ∈ l ∨ led a p y % m = c := fun c => by
          rw [hmem c]
          constructor
          · rintro ⟨r, hr, e⟩
            rcases List.mem_append.mp hr with hr | hr
            · exact .inl ⟨r, hr, e⟩
            · cases List.mem_singleton.mp hr
              exact .inr e
          · rintro (⟨r, hr, e⟩ | e)
            · exact ⟨r, List.mem_append.mpr (.inl hr), e⟩
            · exact ⟨a, by simp, e⟩
        refine ⟨rfl, flat_nats l, fun q1 => ⟨by rw [List.length_map, sl16]; omega, hnx2 _ _ ⟨ds ++ [a], rest, l ++ [led a p y % m], _, _, _, hps2, rfl, ?_, by rw [List.length_append, List.length_append, List.length_singleton, List.length_singleton]; omega, fun c => ?_, rfl, by rw [natsD_snoc]⟩⟩, fun q1 => hnx2 _ _ ⟨ds ++ [a], rest, l, _, _, _, hps2, rfl, hnd, by rw [List.length_append]; omega, fun c => ?_, rfl, rfl⟩⟩
        · have q1 := of_decide_eq_false q1
          refine List.nodup_append.mpr ⟨hnd, List.nodup_cons.mpr ⟨by simp, List.nodup_nil⟩, fun u hu v hv => ?_⟩
          cases List.mem_singleton.mp hv
          rintro rfl
          exact q1 hu
        · rw [hmem2 c, List.mem_append, List.mem_singleton]
          exact ⟨fun h => h.imp id Eq.symm, fun h => h.imp id Eq.symm⟩
        · have q1 := of_decide_eq_true q1
          rw [hmem2 c]
          exact ⟨.inl, fun h => h.elim id fun e => e ▸ q1⟩
  · rintro sg S' ⟨l, d7, d8, d9, hnd, hmem, rfl, rfl⟩
    walk_at "dz"
    refine sorted_at (ns := l.map fun c : Nat => (c : Int)) (by rw [map_natint]; exact lget_end rfl) fun ms hpm hle => ?_
    have hnd2 : ms.Nodup := hpm.nodup_iff.mpr (List.pairwise_map.mpr (hnd.imp fun h e => h (by omega)))
    have hlt : ms.Pairwise (· < ·) := (List.Pairwise.and hle hnd2).imp fun ⟨h1, h2⟩ => by omega
    rw [rowN_of (m := m) (p := p) (x := y) (ps := ps) (by omega) hlt fun i => by
      rw [hpm.mem_iff, List.mem_map]
      constructor
      · rintro ⟨c, hc, e⟩
        obtain ⟨r, hr, e2⟩ := (hmem c).mp hc
        exact ⟨r, hr, by rw [e2]; exact e⟩
      · rintro ⟨r, hr, e⟩
        exact ⟨_, (hmem _).mpr ⟨r, hr, rfl⟩, e⟩, map_natint]
    walk_at "dz"
    exact wk_drop rfl cS (cl_nats _ (rowN m p ps y)) h
theorem k__law_mixing : Keeps 2 7 t__law_mixing sp__law_mixing := by
  intro ds S k x hl cS cd h
  obtain ⟨n, a, b, c, most, rfl, h0, h40, hd, hb, hc, h⟩ := h
  show t__law_mixing (endsD S.length k x) [some (.ref n), some (.int (most : Int)), none, none, none, none, none] S
  simp only [t__law_mixing]
  refine dSeq_cut (fun sg S' => ∃ (m p a c' : Nat) (G : Sto), 1 ≤ m ∧ m ≤ 40 ∧ 2 ≤ p ∧ p ≤ 1000 ∧ c' ≤ c + 3 ∧ sg = [some (.ref n), some (.int (most : Int)), some (.int (m : Int)), some (.int (p : Int)), none, none, none] ∧ S' = S.set n (wellO a b c') ++ G) (fun nx hnx => ?_) ?_
  · walk_at "dz"
    refine ⟨n, a, b, c, most, rfl, h0, Nat.lt_of_lt_of_le (show most < 2 ^ 100 by omega) (Nat.pow_le_pow_right (by decide) (by decide)), hd, hb, by omega, fun r1 a1 c1 hr1 hc1 => ?_⟩
    walk_at "dz"
    refine ⟨by decide, dip_set hd (many := 3) rfl (by decide) (by decide) hb (by omega) fun r2 a2 c2 hr2 hc2 => ?_⟩
    walk_at "dz"
    obtain ⟨d, hd1, hd2⟩ := atI_in [D.int 9, .int 60, .int 999] r2 hr2
    obtain ⟨v, rfl, hv, hv2⟩ : ∃ v : Nat, d = .int (v : Int) ∧ 0 < v ∧ v ≤ 999 := by
      simp only [List.mem_cons, List.not_mem_nil, or_false] at hd2
      rcases hd2 with rfl | rfl | rfl
      · exact ⟨9, rfl, by decide, by decide⟩
      · exact ⟨60, rfl, by decide, by decide⟩
      · exact ⟨999, rfl, by decide, by decide⟩
    refine ⟨_, lget_end (by simp), _, hd1, dip_set hd rfl hv (by omega) hb (by omega) fun r3 a3 c3 hr3 hc3 => ?_⟩
    walk_at "dz"
    rw [show (1 : Int) + (r1 : Int) = ((1 + r1 : Nat) : Int) by omega, show (2 : Int) + (r3 : Int) = ((2 + r3 : Nat) : Int) by omega]
    exact ⟨by decide, hnx _ _ ⟨1 + r1, 2 + r3, a3, c3, _, by omega, by omega, by omega, by omega, by omega, rfl, rfl⟩⟩
  · rintro sg S' ⟨m, p, a, c1, G, hm1, hm2, hp1, hp2, hc1, rfl, rfl⟩
    refine dSeq_cut (fun sg S' => ∃ (q a c' : Nat) (G : Sto), 1 ≤ q ∧ q ≤ 12 ∧ c' ≤ c + 5 ∧ sg = [some (.ref n), some (.int (most : Int)), some (.int (m : Int)), some (.int (p : Int)), some (.int (q : Int)), none, none] ∧ S' = S.set n (wellO a b c') ++ G) (fun nx hnx => ?_) ?_
    · walk_at "dz"
      refine ⟨by decide, ?_⟩
      refine dip_set hd (many := 2) rfl (by decide) (by decide) hb (by omega) fun r1 a1 c2 hr1 hc2 => ?_
      walk_at "dz"
      obtain ⟨d, hd1, hd2⟩ := atI_in [D.int 4, .int 12] r1 hr1
      obtain ⟨v, rfl, hv, hv2⟩ : ∃ v : Nat, d = .int (v : Int) ∧ 0 < v ∧ v ≤ 12 := by
        simp only [List.mem_cons, List.not_mem_nil, or_false] at hd2
        rcases hd2 with rfl | rfl
        · exact ⟨4, rfl, by decide, by decide⟩
        · exact ⟨12, rfl, by decide, by decide⟩
      refine ⟨_, lget_k G.length (by simp) (lget_end rfl), _, hd1, dip_set hd rfl hv (by omega) hb (by omega) fun r2 a2 c3 hr2 hc3 => ?_⟩
      walk_at "dz"
      rw [show (1 : Int) + (r2 : Int) = ((1 + r2 : Nat) : Int) by omega]
      exact hnx _ _ ⟨1 + r2, a2, c3, _, by omega, by omega, by omega, rfl, rfl⟩
    · rintro sg S' ⟨qn, a, c1, G, hq1, hq2, hc1, rfl, rfl⟩
      refine dSeq_cut (fun sg S' => ∃ (ps : List (Nat × Nat)) (a c' : Nat) (G : Sto), ps.length = qn ∧ (∀ y ∈ ps, y.1 < p ∧ y.2 < p) ∧ c' ≤ c + 30 ∧ sg = [some (.ref n), some (.int (most : Int)), some (.int (m : Int)), some (.int (p : Int)), some (.int (qn : Int)), some (.tup (ps.map pairD)), none] ∧ S' = S.set n (wellO a b c') ++ G) (fun nx hnx => ?_) ?_
      · walk_at "dz"
        refine ⟨by omega, by omega, lc_ind (fun items acc T => ∃ (ps : List (Nat × Nat)) (a c' : Nat), acc = ps.map pairD ∧ ps.length + items.length = qn ∧ (∀ y ∈ ps, y.1 < p ∧ y.2 < p) ∧ c' ≤ c + 5 + 2 * ps.length ∧ T = S.set n (wellO a b c') ++ (G ++ [.lst acc])) ⟨[], a, c1, rfl, by simp, fun _ h => (nomatch h), by simp; omega, by simp⟩ ?_ ?_⟩
        · rintro acc T ⟨ps, a, c', rfl, hl2, hs, hc', rfl⟩
          refine ⟨trivial, ?_⟩
          have hl3 : ps.length = qn := by simpa using hl2
          walk_at "dz"
          refine ⟨_, lget_k G.length (by simp) (lget_end rfl), ?_⟩
          exact hnx _ _ ⟨ps, a, c', _, hl3, hs, by omega, rfl, rfl⟩
        · rintro d rest acc T kk ⟨ps, a', c', rfl, hl2, hs, hc', rfl⟩ hkk
          refine ⟨trivial, ?_⟩
          rw [List.length_cons] at hl2
          walk_at "dz"
          refine dip_set hd rfl (by omega) (by omega) hb (by omega) fun r2 a3 c3 hr2 hc3 => ?_
          walk_at "dz"
          refine dip_set hd rfl (by omega) (by omega) hb (by omega) fun r3 a4 c4 hr3 hc4 => ?_
          walk_at "dz"
          refine ⟨by decide, ?_⟩
          have eL : (S.set n (wellO a b c1) ++ G).length = S.length + G.length := by simp
          rw [eL] at hkk
          refine hkk _ _ (get_k G.length (by simp) get_at0) (by rw [List.length_map, sl16]; omega) ⟨ps ++ [(r2, r3)], a4, c4, by rw [List.map_append]; rfl, by rw [List.length_append, List.length_singleton]; omega, fun y hy => ?_, by rw [List.length_append, List.length_singleton]; omega, ?_⟩
          · rcases List.mem_append.mp hy with hy | hy
            · exact hs y hy
            · cases List.mem_singleton.mp hy
              exact ⟨hr2, hr3⟩
          · rw [set_in (r := G.length) (by simp), set_at0]
      · rintro sg S' ⟨ps, a, c1, G, hlen, hs, hc1, rfl, rfl⟩
        walk_at "dz"
        refine dip_set hd rfl (by omega) (by omega) hb (by omega) fun r2 a3 c3 hr2 hc3 => ?_
        walk_at "dz"
        refine dip_set hd rfl (by omega) (by omega) hb (by omega) fun r3 a4 c4 hr3 hc4 => ?_
        walk_at "dz"
        refine ⟨by decide, by decide, ?_⟩
        exact wk_drop (by simp) (clS_set cS (cl_well _ _ _ _)) (cl_mixD _ m p ps (r2, r3)) (h m p ps (r2, r3) a4 c4 ⟨by omega, by omega, hp1, by omega, fun z => (by rw [z, List.length_nil] at hlen; omega), by omega, hs, ⟨hr2, hr3⟩⟩ hm2 hp2 (by omega) (by omega))
theorem k__law_numbers : Keeps 2 5 t__law_numbers sp__law_numbers := by
  intro ds S k x hl cS cd h
  obtain ⟨n, a, b, c, many, rfl, hmany, hd, hb, hc, h⟩ := h
  show t__law_numbers (endsD S.length k x) [some (.ref n), some (.int many), none, none, none] S
  have e18 : (10 : Int) ^ Int.toNat 18 = 1000000000000000000 := by decide
  simp only [t__law_numbers]
  refine dSeq_go ?_
  walk_at "dz"
  refine ⟨Nat.zero_le _, ?_⟩
  refine dSeq_cut (fun sg S' => ∃ (ns : List Nat) (a c' : Nat) (G : Sto) (d3 d4 : Option D), ns.Nodup ∧ ns.length ≤ many ∧ (∀ x ∈ ns, x < 10 ^ 18) ∧ c' ≤ c + 1 + 2 * many ∧ sg = [some (.ref n), some (.int (many : Int)), some (.ref S.length), d3, d4] ∧ S' = S.set n (wellO a b c') ++ (.lst (natsD ns) :: G)) (fun nx hnx => ?_) ?_
  · walk_at "dz"
    rw [show (many : Int) + 1 = ((many + 1 : Nat) : Int) by omega]
    refine dip_app hd rfl (by omega) (by omega) hb (by omega) fun r1 a1 c1 hr1 hc1 => ?_
    walk_at "dz"
    refine ⟨by omega, by omega, wFor_rng _ (fun i sg S' => ∃ (ns : List Nat) (a c' : Nat) (G : Sto) (d3 d4 : Option D), ns.Nodup ∧ ns.length ≤ i ∧ (∀ x ∈ ns, x < 10 ^ 18) ∧ c' ≤ c1 + 2 * i ∧ sg = [some (.ref n), some (.int (many : Int)), some (.ref S.length), d3, d4] ∧ S' = S.set n (wellO a b c') ++ (.lst (natsD ns) :: G)) ⟨[], a1, c1, [], none, none, List.nodup_nil, Nat.le_refl _, fun _ h => (nomatch h), Nat.le_refl _, rfl, rfl⟩ ?_ ?_⟩
    · rintro sg S' ⟨ns, a, c', G, d3, d4, hnd, hln, hlt, hc', rfl, rfl⟩
      rw [Int.toNat_natCast] at hln hc'
      exact ⟨trivial, hnx _ _ ⟨ns, a, c', G, d3, d4, hnd, by omega, hlt, by omega, rfl, rfl⟩⟩
    · rintro i sg S' nx2 hi ⟨ns, a, c', G, d3, d4, hnd, hln, hlt, hc', rfl, rfl⟩ hnx2
      rw [Int.toNat_natCast] at hi
      refine ⟨trivial, ?_⟩
      walk_at "dx"
      refine ⟨.inl (.inl ⟨by decide, by decide⟩), .inl ⟨by decide, by decide, by decide⟩, by decide, ?_⟩
      rw [e18]
      refine dip_set hd (many := 3) rfl (by decide) (by decide) hb (by omega) fun r2 a2 c2 hr2 hc2 => ?_
      walk_at "dx"
      obtain ⟨d, hd1, hd2⟩ := atI_in [D.int (30 + 2 * (many : Int)), .int 1000, .int 1000000000000000000] r2 hr2
      obtain ⟨v, rfl, hv, hv2⟩ : ∃ v : Nat, d = .int (v : Int) ∧ 0 < v ∧ v ≤ 10 ^ 18 := by
        simp only [List.mem_cons, List.not_mem_nil, or_false] at hd2
        rcases hd2 with rfl | rfl | rfl
        · exact ⟨30 + 2 * many, by push_cast; rfl, by omega, by omega⟩
        · exact ⟨1000, rfl, by decide, by decide⟩
        · exact ⟨1000000000000000000, rfl, by decide, by decide⟩
      refine ⟨_, lget_k (G.length + 1) (by simp) (by show lget ((O.lst (natsD ns) :: G) ++ [_]) (G.length + 1) = _; exact lget_end (by simp)), _, hd1, dip_set hd rfl hv (by omega) hb (by omega) fun x0 a3 c3 hx hc3 => ?_⟩
      walk_at "dx"
      refine ⟨_, lget_k 0 (by simp) rfl, rfl, flat_nats ns, ?_⟩
      rw [inF_nats]
      refine ⟨fun q1 => ⟨⟨_, lget_k 0 (by simp) rfl⟩, _, get_k 0 (by simp) rfl, by rw [List.length_map, sl16]; omega, ?_⟩, fun q1 => hnx2 _ _ ⟨ns, a3, c3, _, _, _, hnd, by omega, hlt, by omega, rfl, rfl⟩⟩
      rw [set_in (r := 0) (by simp)]
      refine hnx2 _ _ ⟨ns ++ [x0], a3, c3, _, _, _, ?_, by rw [List.length_append, List.length_singleton]; omega, fun y hy => ?_, by omega, rfl, by rw [natsD_snoc]; rfl⟩
      · have q1 := of_decide_eq_false q1
        refine List.nodup_append.mpr ⟨hnd, List.nodup_cons.mpr ⟨by simp, List.nodup_nil⟩, fun u hu v hv => ?_⟩
        cases List.mem_singleton.mp hv
        rintro rfl
        exact q1 hu
      · rcases List.mem_append.mp hy with hy | hy
        · exact hlt y hy
        · cases List.mem_singleton.mp hy
          omega
  · rintro sg S' ⟨ns, a, c1, G, d3, d4, hnd, hln, hlt, hc1, rfl, rfl⟩
    walk_at "dz"
    exact wk_new (by simp) (clS_set cS (cl_well _ _ _ _)) (Nat.le_refl _) (get_k 0 (by simp) rfl) (cl_nats _ ns) (h ns a c1 hnd hln hlt (by omega))
theorem k__law_lets : Keeps 2 6 t__law_lets sp__law_lets := by
  intro ds S k x hl cS cd h
  obtain ⟨M, y, rfl, hM, h⟩ := h
  show t__law_lets (endsD S.length k x) [some M.d, some (.int y), none, none, none, none] S
  have hrow : ∀ c ∈ rowN M.m M.p M.ps y, c < M.m := fun c hc => List.mem_range.mp (List.mem_filter.mp hc).1
  have hrl : (rowN M.m M.p M.ps y).length ≤ M.m := by
    have := List.length_filter_le (fun c => M.ps.any fun q => decide (led q M.p y % M.m = c)) (List.range M.m)
    rw [List.length_range] at this
    exact this
  have h2 := hM.mix.m2
  simp only [t__law_lets, Msh.d]
  refine dSeq_go ?_
  walk_at "dz"
  refine ⟨_, _, _, _, y, rfl, hM.mix, ?_⟩
  walk_at "dz"
  refine lc_map (fun d => .int (M.tb.getD (intD d).toNat 0 : Nat)) (fun d hd acc kk hk => ?_) (fun _ => trivial) (by show (natsD (rowN M.m M.p M.ps y)).length ≤ _; rw [List.length_map, sl16]; omega) ?_
  · obtain ⟨c, hc, rfl⟩ := List.mem_map.mp hd
    have hlt : c < M.tb.length := by rw [hM.len]; exact hrow c hc
    walk_at "dz"
    exact ⟨_, atI_nat (by rw [List.getElem?_map, List.getElem?_eq_getElem hlt]; rfl), by
      rw [show (intD (D.int (c : Int))).toNat = c from rfl, List.getD_eq_getElem?_getD, List.getElem?_eq_getElem hlt] at hk
      exact hk⟩
  · walk_at "dz"
    refine ⟨_, pickN M.tb (rowN M.m M.p M.ps y), rfl, lget_k 0 (by simp) ?_, ?_⟩
    · show some ((natsD _).map _) = _
      unfold pickN natsD
      rw [List.map_map, List.map_map]
      rfl
    · walk_at "dz"
      refine ⟨M.m, M.p, M.ps, M.q, M.w, y, rfl, hM.mix, by have := hM.w2; omega, ?_⟩
      walk_at "dz"
      exact wk_drop rfl cS trivial h
end Q
open Q
local macro_rules | `(tactic| walk_at "dx") => `(tactic| try simp only [dSeq, dDrop, kDrop, dRet, dRetN, dIf, kIf, dNever, dNext, dBreak, dCont, dSet, kSet, dPar, kPar, dPar3, kPar3, dAug, kAug, dAsg, kAsg, gNm, gsNil, gsCons, gTp, gUl, gSb, kGs1, kGs2, rSet, dFor, kFor, dLc, dYes, wipeD, dRaise, kRaise, dTry, wTry, clrM, clrD, putD', dXv, kXv,
  dC, dVar, dUn, dOp, kOp1, kOp2, dTst, kB, dAnd, kAnd, dOr, kOr, dNot, kNot, dAndV, kAndV, dOrV, kOrV, dNotV, kNotV, dIfE, kIfE, dNil, dCons, kCons1, kCons2, dTup, kTup, dLst, kLst, dCall, kCall, spN, dCallK, kCK1, kCK2, pick, dMet, kM1, kM2, isLst, rApp, dSl, kSl1, kSl2, kSl3, rSl, dNoP, dPart, kPart,
  rAdd, rSub, rMul, rMulT, rInP, rFdiv, rMod, rPow, rShl, rShr, rAnd, rXor, rNeg, rEq, rNe, rLt, rLe, rGt, rGe, rIs, rIsNot, isNon, rIx, rIsi, rIsi2, isTy, spLen, spInt, spTuple, spAll, spAny, spMax, spMin, spAbs, spList, rIn, rNotIn, rIns, dRevL, kRev, dBack, kBack, dLc2, iEn, kEn, dSrtSet, kSrtSet, dChain, kCh1, kCh2, kCh3, iZp, kZp, dLenNew, dLenSet, kLenSet, kLenNew, dDicE, isDic, rDset, dDget, kDg1, kDg2, dDget2, kDh1, kDh2, kDh3, rDget, gDb, kGd1, kGd2, dStp, kSt0, kSt1, kSt2, spSumB, rDin, dBits, kBits, rDnin, spLenD, dAugS, kAs1, kAs2, kAs3, kAs4, rRem, rIdx, spStr, dJoin, kJoin1, kJoin2, rPop1, rPop0, rRev, dDc, dTupRg, kTupRg, dLstRg, kLstRg, iSq, iRg1, kRg1, iRg2, kRg2, rIAdd, endsD,
  isL_iff, atI0, atI1, atI2, get_at0, get_at, List.set_set, List.length_set, lget_at0, lget_at, lget_hd, lget_tl, set_at0, set_at, app1, List.nil_append, List.cons_append, List.length_cons, List.length_nil, List.length_append,
  List.getElem?_cons_zero, List.getElem?_cons_succ, List.set_cons_zero, List.set_cons_succ, List.getElem?_nil, List.filterMap_cons, List.filterMap_nil, List.append_nil,
  Option.some.injEq, O.lst.injEq, exists_eq_left', exists_eq_left, exists_eq', List.cons.injEq, D.int.injEq, D.bl.injEq, D.tup.injEq, D.ref.injEq, D.str.injEq, Int.natCast_inj, true_and, and_true, and_self, Nat.reduceAdd, Nat.zero_add, Bool.not_true, Bool.not_false, reduceCtorEq, forall_const, imp_self, not_true_eq_false, not_false_eq_true, false_implies, true_implies, implies_true, Bool.true_eq_false, Bool.false_eq_true, Bool.true_or, Bool.or_true, Bool.false_or, Bool.or_false, Bool.and_true, Bool.true_and, decide_eq_true_eq, decide_eq_false_iff_not, Bool.not_eq_true', Bool.not_eq_false', decide_true, decide_false, or_false, false_or, exists_false, exists_and_left, and_assoc])
local macro_rules | `(tactic| walk_at "dz") => `(tactic| try simp only [dDrop, kDrop, dRet, dRetN, dIf, kIf, dNever, dNext, dBreak, dCont, dSet, kSet, dPar, kPar, dPar3, kPar3, dAug, kAug, dAsg, kAsg, gNm, gsNil, gsCons, gTp, gUl, gSb, kGs1, kGs2, rSet, dFor, kFor, dLc, dYes, wipeD, dRaise, kRaise, dTry, wTry, clrM, clrD, putD', dXv, kXv,
  dC, dVar, dUn, dOp, kOp1, kOp2, dTst, kB, dAnd, kAnd, dOr, kOr, dNot, kNot, dAndV, kAndV, dOrV, kOrV, dNotV, kNotV, dIfE, kIfE, dNil, dCons, kCons1, kCons2, dTup, kTup, dLst, kLst, dCall, kCall, spN, dCallK, kCK1, kCK2, pick, dMet, kM1, kM2, isLst, rApp, dSl, kSl1, kSl2, kSl3, rSl, dNoP, dPart, kPart,
  rAdd, rSub, rMul, rMulT, rInP, rFdiv, rMod, rPow, rShl, rShr, rAnd, rXor, rNeg, rEq, rNe, rLt, rLe, rGt, rGe, rIs, rIsNot, isNon, rIx, rIsi, rIsi2, isTy, spLen, spInt, spTuple, spAll, spAny, spMax, spMin, spAbs, spList, rIn, rNotIn, rIns, dRevL, kRev, dBack, kBack, dLc2, iEn, kEn, dSrtSet, kSrtSet, dChain, kCh1, kCh2, kCh3, iZp, kZp, dLenNew, dLenSet, kLenSet, kLenNew, dDicE, isDic, rDset, dDget, kDg1, kDg2, dDget2, kDh1, kDh2, kDh3, rDget, gDb, kGd1, kGd2, dStp, kSt0, kSt1, kSt2, spSumB, rDin, dBits, kBits, rDnin, spLenD, dAugS, kAs1, kAs2, kAs3, kAs4, rRem, rIdx, spStr, dJoin, kJoin1, kJoin2, rPop1, rPop0, rRev, dDc, dTupRg, kTupRg, dLstRg, kLstRg, iSq, iRg1, kRg1, iRg2, kRg2, rIAdd, endsD,
  isL_iff, atI0, atI1, atI2, get_at0, get_at, List.set_set, List.length_set, lget_at0, lget_at, lget_hd, lget_tl, set_at0, set_at, app1, List.nil_append, List.cons_append, List.length_cons, List.length_nil, List.length_append,
  List.getElem?_cons_zero, List.getElem?_cons_succ, List.set_cons_zero, List.set_cons_succ, List.getElem?_nil, List.filterMap_cons, List.filterMap_nil, List.append_nil,
  Option.some.injEq, O.lst.injEq, exists_eq_left', exists_eq_left, exists_eq', List.cons.injEq, D.int.injEq, D.bl.injEq, D.tup.injEq, D.ref.injEq, D.str.injEq, Int.natCast_inj, true_and, and_true, and_self, Nat.reduceAdd, Nat.zero_add, Bool.not_true, Bool.not_false, reduceCtorEq, forall_const, imp_self, not_true_eq_false, not_false_eq_true, false_implies, true_implies, implies_true, Bool.true_eq_false, Bool.false_eq_true, Bool.true_or, Bool.or_true, Bool.false_or, Bool.or_false, Bool.and_true, Bool.true_and, decide_eq_true_eq, decide_eq_false_iff_not, Bool.not_eq_true', Bool.not_eq_false', decide_true, decide_false, or_false, false_or, exists_false, exists_and_left, and_assoc])
namespace Q
open PySem
open Spec PyProof.Rows L2
/-! ### a table by rows that are led to greatest cells (k34, k35) -/
def natK (c : Nat) : Key := Sum.inl (c : Int)
theorem valD_put {kvs : List (Key × D)} {k k' : Key} {v : D} : valD (putD kvs k v) k' = if k' = k then some v else valD kvs k' := by
  have hmap : ∀ l : List (Key × D), (l.any fun p => decide (p.1 = k)) = true → valD (l.map fun p => if p.1 = k then (p.1, v) else p) k' = if k' = k then some v else valD l k' := by
    intro l
    induction l with
    | nil => intro h; cases h
    | cons p l ih =>
      intro h
      unfold valD at ih ⊢
      rw [List.map_cons]
      by_cases e : p.1 = k
      · rw [if_pos e]
        by_cases e2 : k' = k
        · subst e2
          rw [List.find?_cons_of_pos (by simpa using e), if_pos rfl]
          rfl
        · have e3 : ¬ p.1 = k' := fun z => e2 (z.symm.trans e)
          rw [List.find?_cons_of_neg (by simpa using e3), List.find?_cons_of_neg (by simpa using e3), if_neg e2]
          by_cases hl : (l.any fun p => decide (p.1 = k)) = true
          · rw [ih hl, if_neg e2]
          · congr 2
            conv => rhs; rw [← List.map_id l]
            refine List.map_congr_left fun q hq => if_neg fun z => hl (List.any_eq_true.mpr ⟨q, hq, decide_eq_true z⟩)
      · rw [if_neg e]
        have hl : (l.any fun p => decide (p.1 = k)) = true := by
          rw [List.any_cons, decide_eq_false e, Bool.false_or] at h
          exact h
        by_cases e2 : p.1 = k'
        · rw [List.find?_cons_of_pos (by simpa using e2), List.find?_cons_of_pos (by simpa using e2), if_neg fun z => e (e2.trans z)]
        · rw [List.find?_cons_of_neg (by simpa using e2), List.find?_cons_of_neg (by simpa using e2)]
          exact ih hl
  unfold putD
  cases ha : kvs.any fun p => decide (p.1 = k) with
  | true => exact hmap kvs ha
  | false =>
    show valD (kvs ++ [(k, v)]) k' = _
    unfold valD
    rw [List.find?_append]
    by_cases e2 : k' = k
    · subst e2
      have : kvs.find? (fun p => decide (p.1 = k')) = none := by
        rw [List.find?_eq_none]
        intro q hq hz
        have := List.any_eq_false.mp ha q hq
        exact this hz
      rw [this, if_pos rfl]
      simp
    · rw [if_neg e2, List.find?_cons_of_neg (by simpa using fun z => e2 z.symm)]
      cases kvs.find? fun p => decide (p.1 = k') <;> rfl
theorem putD_len (kvs : List (Key × D)) (k : Key) (v : D) : (putD kvs k v).length ≤ kvs.length + 1 := by
  unfold putD
  split
  · rw [List.length_map]
    omega
  · rw [List.length_append]
    exact Nat.le_refl _
theorem pds_nats (n : Nat) : ∀ l : List Nat, pds n (natsD l) = true
  | [] => rfl
  | a :: l => by
    show (pd n (.int (a : Int)) && pds n (natsD l)) = true
    rw [pds_nats n l]
    cases n <;> rfl

def KeptOk (T : Sto) (b m w : Nat) (kvs : List (Key × D)) : Prop := ∀ (c : Nat) (d : D), valD kvs (natK c) = some d → ∃ (v x : Nat) (l : List Nat), d = .tup [.ref (b + (v + 1)), .int (x : Int)] ∧ lget T v = some (natsD l) ∧ l.Nodup ∧ (∀ y ∈ l, y ≤ c) ∧ c ∈ l ∧ 0 < v ∧ c < m ∧ x < 2 ^ w
theorem KeptOk.app {T : Sto} {b m w : Nat} {kvs : List (Key × D)} (G : Sto) (h : KeptOk T b m w kvs) : KeptOk (T ++ G) b m w kvs := fun c d e => by
  obtain ⟨v, x, l, h1, h2, h3⟩ := h c d e
  exact ⟨v, x, l, h1, lget_app h2, h3⟩
theorem natK_inj {a b : Nat} (h : natK a = natK b) : a = b := by
  have h := Sum.inl.inj h
  omega
theorem nodup_len {l l2 : List Nat} (h : l.Nodup) (hs : ∀ x ∈ l, x ∈ l2) : l.length ≤ l2.length := by
  induction l generalizing l2 with
  | nil => exact Nat.zero_le _
  | cons a l ih =>
    obtain ⟨h1, h2⟩ := List.nodup_cons.mp h
    have ha := hs a List.mem_cons_self
    have hlen := List.length_erase_of_mem ha
    have hp : 0 < l2.length := List.length_pos_of_mem ha
    have := ih (l2 := l2.erase a) h2 fun x hx => (List.mem_erase_of_ne (fun e => h1 (by rw [← e]; exact hx))).mpr (hs x (List.mem_cons_of_mem _ hx))
    rw [List.length_cons]
    omega
theorem nodup_lt {l : List Nat} {m : Nat} (h : l.Nodup) (hs : ∀ x ∈ l, x < m) : l.length ≤ m := by
  have := nodup_len (l2 := List.range m) h fun x hx => List.mem_range.mpr (hs x hx)
  rwa [List.length_range] at this
theorem natsD_filter (l l2 : List Nat) : ((natsD l).filter fun d => decide ((intD d).toNat ∉ l2)).map id = natsD (l.filter fun y => decide (y ∉ l2)) := by
  rw [List.map_id]
  unfold natsD
  rw [List.filter_map]
  rfl
abbrev rowD (r : List Nat) : D := .tup (natsD r)
def sp__law_first : SpD := fun ds S k _ => ∃ (m w j i : Nat) (rows : List (List Nat)) (vs : List Nat), ds = [.int m, .ref j, .ref i] ∧ m ≤ 1000 ∧ lget S j = some (rows.map rowD) ∧ lget S i = some (natsD vs) ∧ rows.length ≤ 1000 ∧ (∀ r ∈ rows, r.Nodup ∧ ∀ c ∈ r, c < m) ∧ (∀ v ∈ vs, v < 2 ^ w) ∧
  k (.ref S.length) (S ++ [.lst []]) ∧ ∀ tb : List Nat, tb.length = m → (∀ t ∈ tb, t < 2 ^ w) → k (.ref S.length) (S ++ [.lst [.tup (natsD tb)]])
/-- _law_first(_law_m, _law_rows, _law_values); slots: 0 _law_m, 1 _law_rows, 2 _law_values, 3 _law_kept, 4 _law_table, 5 _law_row_here, 6 _law_value, 7 _law_left, 8 _law_other, 9 _law_word, 10 _law_cell -/
def t__law_first : TSD := (dSeq (dAsg (dTup (dCons dDicE (dCons (dLst dNil) dNil))) (gTp 2 (gsCons (gNm 3) (gsCons (gNm 4) gsNil)))) (dSeq (dFor (iZp (dCons (dVar 1) (dCons (dVar 2) dNil))) (gTp 2 (gsCons (gNm 5) (gsCons (gNm 6) gsNil))) (dSeq (dSet 7 (dCall spList (dCons (dVar 5) dNil))) (dSeq (dWhile (dAnd (dTst (dOp rNe (dVar 7) (dLst dNil))) (dTst (dOp rDin (dCall spMax (dCons (dVar 7) dNil)) (dVar 3)))) (dSeq (dAsg (dDget (dVar 3) (dCall spMax (dCons (dVar 7) dNil))) (gTp 2 (gsCons (gNm 8) (gsCons (gNm 9) gsNil)))) (dSeq (dSet 7 (dOp rAdd (dLc (iSq (dVar 7)) (gNm 10) (dTst (dOp rNotIn (dVar 10) (dVar 8))) (dVar 10) [10]) (dLc (iSq (dVar 8)) (gNm 10) (dTst (dOp rNotIn (dVar 10) (dVar 7))) (dVar 10) [10]))) (dSet 6 (dOp rXor (dVar 6) (dVar 9)))))) (dIf (dTst (dOp rNe (dVar 7) (dLst dNil))) (dAsg (dTup (dCons (dVar 7) (dCons (dVar 6) dNil))) (gDb (dVar 3) (dCall spMax (dCons (dVar 7) dNil)))) (dIf (dTst (dOp rNe (dVar 6) (dC (.int 0)))) (dRet (dLst dNil)) dNext))))) (dSeq (dFor (iRg1 (dCons (dVar 0) dNil)) (gNm 10) (dSeq (dAsg (dIfE (dTst (dOp rDin (dVar 10) (dVar 3))) (dDget (dVar 3) (dVar 10)) (dTup (dCons (dLst dNil) (dCons (dC (.int 0)) dNil)))) (gTp 2 (gsCons (gNm 5) (gsCons (gNm 6) gsNil)))) (dDrop (dMet rApp (dVar 4) (dCons (dCall (spN 1 sp__law_sum) (dCons (dOp rAdd (dLst (dCons (dVar 6) dNil)) (dLc (iSq (dVar 5)) (gNm 8) (dTst (dOp rLt (dVar 8) (dVar 10))) (dOp rIx (dVar 4) (dVar 8)) [8])) dNil)) dNil))))) (dRet (dLst (dCons (dCall spTuple (dCons (dVar 4) dNil)) dNil))))))

theorem KeptOk.head {G : Sto} {b m w : Nat} {kvs : List (Key × D)} {o u : O} (h : KeptOk (o :: G) b m w kvs) : KeptOk (u :: G) b m w kvs := fun c d e => by
  obtain ⟨v, x, l, h1, h2, h3, h4, h5, h6, h7⟩ := h c d e
  cases v with
  | zero => exact absurd h6 (Nat.lt_irrefl 0)
  | succ v => exact ⟨v + 1, x, l, h1, h2, h3, h4, h5, h6, h7⟩
theorem xorN_lt {w : Nat} : ∀ {l : List Nat}, (∀ t ∈ l, t < 2 ^ w) → xorN l < 2 ^ w := by
  have go : ∀ (l : List Nat) (a : Nat), a < 2 ^ w → (∀ t ∈ l, t < 2 ^ w) → l.foldl (· ^^^ ·) a < 2 ^ w := by
    intro l
    induction l with
    | nil => intro a ha _; exact ha
    | cons b l ih => intro a ha hl; exact ih _ (Nat.xor_lt_two_pow ha (hl b List.mem_cons_self)) fun t ht => hl t (List.mem_cons_of_mem _ ht)
  exact fun {l} h => go l 0 (Nat.two_pow_pos w) h
theorem k__law_first : Keeps 3 11 t__law_first sp__law_first := by
  intro ds S k x hl cS cd h
  obtain ⟨m, w, j, i, rows, vs, rfl, hm, hj, hi, hrl, hrows, hvs, h0, h1⟩ := h
  show t__law_first (endsD S.length k x) [some (.int (m : Int)), some (.ref j), some (.ref i), none, none, none, none, none, none, none, none] S
  simp only [t__law_first]
  refine dSeq_go ?_
  walk_at "dz"
  refine ⟨by decide, by decide, ?_⟩
  refine dSeq_cut (fun sg S' => ∃ (kvs : List (Key × D)) (G : Sto) (d5 d6 d7 d8 d9 d10 : Option D), KeptOk (.lst [] :: G) S.length m w kvs ∧ sg = [some (.int (m : Int)), some (.ref j), some (.ref i), some (.ref S.length), some (.ref (S.length + 1)), d5, d6, d7, d8, d9, d10] ∧ S' = S ++ (.dic kvs :: .lst [] :: G)) (fun nx hnx => ?_) ?_
  · walk_at "dz"
    refine ⟨_, lget_app hj, _, lget_app hi, ?_⟩
    refine wFor_ind (fun items sg S' => ∃ (rr : List (List Nat)) (vv : List Nat) (kvs : List (Key × D)) (G : Sto) (d5 d6 d7 d8 d9 d10 : Option D), items = zipD (rr.map rowD) (natsD vv) ∧ (∀ r ∈ rr, r.Nodup ∧ ∀ c ∈ r, c < m) ∧ (∀ v ∈ vv, v < 2 ^ w) ∧ kvs.length + rr.length ≤ 1000 ∧ KeptOk (.lst [] :: G) S.length m w kvs ∧ sg = [some (.int (m : Int)), some (.ref j), some (.ref i), some (.ref S.length), some (.ref (S.length + 1)), d5, d6, d7, d8, d9, d10] ∧ S' = S ++ (.dic kvs :: .lst [] :: G)) ?_ ?_ _ _ _ ⟨rows, vs, [], [], none, none, none, none, none, none, rfl, hrows, hvs, by simpa using hrl, fun c d z => (by cases z), rfl, rfl⟩
    · rintro sg S' ⟨rr, vv, kvs, G, d5, d6, d7, d8, d9, d10, hit, hr, hv, hkl, hK, rfl, rfl⟩
      exact ⟨⟨lget_app hj, lget_app hi⟩, hnx _ _ ⟨kvs, G, d5, d6, d7, d8, d9, d10, hK, rfl, rfl⟩⟩
    · rintro d r sg S' nx2 ⟨rr, vv, kvs, G, d5, d6, d7, d8, d9, d10, hit, hr, hv, hkl, hK, rfl, rfl⟩ hnx2
      refine ⟨⟨lget_app hj, lget_app hi⟩, ?_⟩
      cases rr with
      | nil => exact nomatch hit
      | cons r0 rr =>
        cases vv with
        | nil => exact nomatch hit
        | cons v0 vv =>
          obtain ⟨rfl, rfl⟩ := List.cons.inj hit
          have hr0 := hr r0 List.mem_cons_self
          have hv0 := hv v0 List.mem_cons_self
          rw [List.length_cons] at hkl
          simp only [rowD]
          walk_at "dz"
          refine dSeq_go ?_
          walk_at "dz"
          refine dSeq_cut (fun sg S' => ∃ (l : List Nat) (v u : Nat) (G2 : Sto) (d8 d9 d10 : Option D), l.Nodup ∧ (∀ y ∈ l, y < m) ∧ v < 2 ^ w ∧ (∀ c, c ∈ l → (∀ y ∈ l, y ≤ c) → valD kvs (natK c) = none) ∧ lget (.lst [] :: G2) u = some (natsD l) ∧ KeptOk (.lst [] :: G2) S.length m w kvs ∧ sg = [some (.int (m : Int)), some (.ref j), some (.ref i), some (.ref S.length), some (.ref (S.length + 1)), some (rowD r0), some (.int (v : Int)), some (.ref (S.length + (u + 1))), d8, d9, d10] ∧ S' = S ++ (.dic kvs :: .lst [] :: G2)) (fun nx3 hnx3 => ?_) ?_
          · refine dWhile_by (fun b sg S' => ∃ (l : List Nat) (v u : Nat) (G2 : Sto) (d8 d9 d10 : Option D), l.Nodup ∧ (∀ y ∈ l, y < m) ∧ v < 2 ^ w ∧ (∀ y ∈ l, y < b) ∧ lget (.lst [] :: G2) u = some (natsD l) ∧ KeptOk (.lst [] :: G2) S.length m w kvs ∧ sg = [some (.int (m : Int)), some (.ref j), some (.ref i), some (.ref S.length), some (.ref (S.length + 1)), some (rowD r0), some (.int (v : Int)), some (.ref (S.length + (u + 1))), d8, d9, d10] ∧ S' = S ++ (.dic kvs :: .lst [] :: G2)) m ⟨r0, v0, G.length + 1, G ++ [.lst (natsD r0)], d8, d9, d10, hr0.1, hr0.2, hv0, hr0.2, ?_, hK.app _, rfl, rfl⟩ ?_
            · show lget (G ++ [.lst (natsD r0)]) G.length = _
              exact lget_end rfl
            · rintro b sg S' nx4 ⟨l, v, u, G2, d8, d9, d10, hnd, hlm, hvw, hlb, hu, hK2, rfl, rfl⟩ hnx4
              walk_at "dz"
              have hL : ∀ X : Sto, lget (S ++ .dic kvs :: .lst [] :: (G2 ++ X)) (S.length + (u + 1)) = some (natsD l) := fun X => lget_k (u + 1) rfl (show lget ((.lst [] :: G2) ++ X) u = _ from lget_app hu)
              have hR : ∀ X : Sto, lget (.lst [] :: (G2 ++ X)) u = some (natsD l) := fun X => lget_app (S := .lst [] :: G2) hu
              refine ⟨Nat.zero_le _, eqG_lst (xs := natsD l) (ys := []) 0 0 (hL _) (lget_k (G2.length + 1 + 1) rfl (show lget (G2 ++ [.lst []]) G2.length = _ from lget_end rfl)) (pds_nats 0 l) rfl ?_⟩
              rw [eqDs_nil, List.isEmpty_map]
              by_cases hl0 : l = []
              · subst hl0
                exact ⟨fun z => (by cases z), fun _ => hnx3 _ _ ⟨[], v, u, G2 ++ [.lst []], d8, d9, d10, hnd, hlm, hvw, (fun c hc => nomatch hc), lget_app (S := .lst [] :: G2) hu, hK2.app _, rfl, rfl⟩⟩
              · have hpos : 0 < l.length := List.length_pos_iff.mpr hl0
                refine ⟨fun _ => ⟨l.map fun c : Nat => (c : Int), by rw [map_natint]; exact hR _, by rw [List.length_map]; exact hpos, fun mx hmx hub => ?_⟩, fun z => absurd (List.isEmpty_iff.mp z) hl0⟩
                obtain ⟨c, hc, rfl⟩ := List.mem_map.mp hmx
                have hub : ∀ y ∈ l, y ≤ c := fun y hy => by have := hub (y : Int) (List.mem_map.mpr ⟨y, hy, rfl⟩); omega
                refine ⟨kvs, rfl, natK c, rfl, fun hs => ?_, fun hs => hnx3 _ _ ⟨l, v, u, G2 ++ [.lst []], d8, d9, d10, hnd, hlm, hvw, fun c2 hc2 hub2 => ?_, lget_app (S := .lst [] :: G2) hu, hK2.app _, rfl, rfl⟩⟩
                · obtain ⟨d, hdv⟩ := Option.isSome_iff_exists.mp hs
                  obtain ⟨v2, x2, l2, rfl, hl2, hnd2, hle2, hc2, _, hcm, hx2⟩ := hK2 c d hdv
                  refine dSeq_go ?_
                  walk_at "dz"
                  refine ⟨l.map fun c : Nat => (c : Int), by rw [map_natint]; exact hR _, by rw [List.length_map]; exact hpos, fun mx hmx2 hub3 => ?_⟩
                  obtain ⟨c3, hc3, rfl⟩ := List.mem_map.mp hmx2
                  have e3 : c3 = c := by
                    have h1 := hub c3 hc3
                    have h2 := hub3 (c : Int) (List.mem_map.mpr ⟨c, hc, rfl⟩)
                    omega
                  subst e3
                  refine ⟨kvs, rfl, natK c3, rfl, _, hdv, ?_⟩
                  walk_at "dz"
                  refine dSeq_go ?_
                  walk_at "dz"
                  have hl1k : l.length ≤ 1000 := Nat.le_trans (nodup_lt hnd hlm) hm
                  have hl2k : l2.length ≤ 1000 := Nat.le_trans (nodup_lt hnd2 fun y hy => Nat.lt_of_le_of_lt (hle2 y hy) hcm) hm
                  have hR2 : ∀ X : Sto, lget (.lst [] :: (G2 ++ X)) v2 = some (natsD l2) := fun X => lget_app (S := .lst [] :: G2) hl2
                  refine ⟨_, hR _, lc_filter (fun d => decide ((intD d).toNat ∉ l2)) id (fun y hy acc kk hk => ?_) (fun y hy hpp acc kk hk => ?_) (fun acc => ?_) (by show (natsD l).length ≤ _; rw [List.length_map, sl16]; omega) ?_⟩
                  · obtain ⟨a, ha, rfl⟩ := List.mem_map.mp hy
                    simp only [List.append_assoc, List.cons_append, List.nil_append] at hk
                    walk_at "dz"
                    refine ⟨_, hR2 _, rfl, flat_nats _, ?_⟩
                    rw [inF_nats, ← decide_not]
                    exact hk
                  · obtain ⟨a, ha, rfl⟩ := List.mem_map.mp hy
                    simp only [List.append_assoc, List.cons_append, List.nil_append] at hk
                    walk_at "dz"
                    exact hk
                  · exact lget_app (hL _)
                  · rw [natsD_filter]
                    have hf1 := List.length_filter_le (fun y => decide (y ∉ l2)) l
                    have hf2 := List.length_filter_le (fun y => decide (y ∉ l)) l2
                    have hA : ∀ y ∈ l.filter (fun y => decide (y ∉ l2)), y < c3 ∧ y < m := fun y hy => by
                      obtain ⟨h1, h2⟩ := List.mem_filter.mp hy
                      have h2 := of_decide_eq_true h2
                      have h3 := hub y h1
                      have h4 : y ≠ c3 := fun e => h2 (by rw [e]; exact hc2)
                      exact ⟨by omega, hlm y h1⟩
                    have hB : ∀ y ∈ l2.filter (fun y => decide (y ∉ l)), y < c3 ∧ y < m := fun y hy => by
                      obtain ⟨h1, h2⟩ := List.mem_filter.mp hy
                      have h2 := of_decide_eq_true h2
                      have h3 := hle2 y h1
                      have h4 : y ≠ c3 := fun e => h2 (by rw [e]; exact hc)
                      exact ⟨by omega, by omega⟩
                    have hAB : (l.filter (fun y => decide (y ∉ l2)) ++ l2.filter (fun y => decide (y ∉ l))).Nodup := by
                      refine List.nodup_append.mpr ⟨hnd.filter _, hnd2.filter _, fun a ha b hb e => ?_⟩
                      subst e
                      exact of_decide_eq_true (List.mem_filter.mp ha).2 (List.mem_filter.mp hb).1
                    walk_at "dz"
                    refine ⟨_, hR2 _, lc_filter (fun d => decide ((intD d).toNat ∉ l)) id (fun y hy acc kk hk => ?_) (fun y hy hpp acc kk hk => ?_) (fun acc => ?_) (by show (natsD l2).length ≤ _; rw [List.length_map, sl16]; omega) ?_⟩
                    · obtain ⟨a, ha, rfl⟩ := List.mem_map.mp hy
                      simp only [List.append_assoc, List.cons_append, List.nil_append] at hk
                      walk_at "dz"
                      refine ⟨_, hR _, rfl, flat_nats _, ?_⟩
                      rw [inF_nats, ← decide_not]
                      exact hk
                    · obtain ⟨a, ha, rfl⟩ := List.mem_map.mp hy
                      simp only [List.append_assoc, List.cons_append, List.nil_append] at hk
                      walk_at "dz"
                      exact hk
                    · exact lget_app (lget_k (v2 + 1) rfl (hR2 _))
                    · rw [natsD_filter]
                      generalize l.filter (fun y => decide (y ∉ l2)) = A at hA hAB hf1
                      generalize l2.filter (fun y => decide (y ∉ l)) = B at hB hAB hf2
                      walk_at "dz"
                      refine ⟨by rw [List.length_map, List.length_map, sl16]; omega, ?_⟩
                      rw [xor_nat, ← List.map_append]
                      refine hnx4 c3 _ _ (hlb c3 hc) ⟨A ++ B, v ^^^ x2, G2.length + 3 + 1, _, _, _, _, hAB, fun y hy => ?_, Nat.xor_lt_two_pow hvw hx2, fun y hy => ?_, ?_, hK2.app _, rfl, rfl⟩
                      · exact (List.mem_append.mp hy).elim (fun h => (hA y h).2) fun h => (hB y h).2
                      · exact (List.mem_append.mp hy).elim (fun h => (hA y h).1) fun h => (hB y h).1
                      · show lget (G2 ++ _) (G2.length + 3) = _
                        exact lget_k 3 rfl rfl
                · have e3 : c2 = c := by
                    have h1 := hub c2 hc2
                    have h2 := hub2 c hc
                    omega
                  subst e3
                  exact Option.not_isSome_iff_eq_none.mp (by rw [hs]; exact Bool.false_ne_true)
          · rintro sg S' ⟨l, v, u, G2, d8, d9, d10, hnd, hlm, hvw, hno, hu, hK2, rfl, rfl⟩
            walk_at "dz"
            have hR : ∀ X : Sto, lget (.lst [] :: (G2 ++ X)) u = some (natsD l) := fun X => lget_app (S := .lst [] :: G2) hu
            refine ⟨Nat.zero_le _, eqG_lst (xs := natsD l) (ys := []) 0 0 (lget_k (u + 1) rfl (hR _)) (lget_k (G2.length + 1 + 1) rfl (show lget (G2 ++ [.lst []]) G2.length = _ from lget_end rfl)) (pds_nats 0 l) rfl ?_⟩
            rw [eqDs_nil, List.isEmpty_map]
            refine ⟨fun hne => ⟨by decide, l.map fun c : Nat => (c : Int), by rw [map_natint]; exact hR _, ?_, fun mx hmx hub => ?_⟩, fun he => ⟨fun _ => ⟨Nat.zero_le _, wk_new rfl cS (Nat.le_add_right _ _) (get_k (G2.length + 1 + 1 + 1) rfl (show (G2 ++ [.lst [], .lst []])[G2.length + 1]? = _ from get_k 1 rfl rfl)) trivial h0⟩, fun _ => ?_⟩⟩
            · rw [List.length_map]
              exact List.length_pos_iff.mpr fun z => by rw [z] at hne; cases hne
            · obtain ⟨c, hc, rfl⟩ := List.mem_map.mp hmx
              have hub : ∀ y ∈ l, y ≤ c := fun y hy => by have := hub (y : Int) (List.mem_map.mpr ⟨y, hy, rfl⟩); omega
              refine ⟨kvs, rfl, natK c, rfl, by rw [sl16]; omega, hnx2 _ _ ⟨rr, vv, _, _, _, _, _, _, _, _, rfl, fun r hr' => hr r (List.mem_cons_of_mem _ hr'), fun v hv' => hv v (List.mem_cons_of_mem _ hv'), by have := putD_len kvs (natK c) (.tup [.ref (S.length + (u + 1)), .int (v : Int)]); omega, fun c2 d2 h2 => ?_, rfl, rfl⟩⟩
              rw [valD_put] at h2
              by_cases e : natK c2 = natK c
              · rw [if_pos e] at h2
                cases natK_inj e
                cases h2
                refine ⟨u, v, l, rfl, hR _, hnd, hub, hc, ?_, hlm c hc, hvw⟩
                cases u with
                | zero =>
                  have hu : some ([] : List D) = some (natsD l) := hu
                  have hu := Option.some.inj hu
                  cases l with
                  | nil => cases hc
                  | cons a l => cases hu
                | succ u => exact Nat.succ_pos u
              · rw [if_neg e] at h2
                exact hK2.app [.lst []] c2 d2 h2
            · exact hnx2 _ _ ⟨rr, vv, kvs, _, _, _, _, _, _, _, rfl, fun r hr' => hr r (List.mem_cons_of_mem _ hr'), fun v hv' => hv v (List.mem_cons_of_mem _ hv'), by omega, hK2.app [.lst []], rfl, rfl⟩
  · rintro sg S' ⟨kvs, G, d5, d6, d7, d8, d9, d10, hK, rfl, rfl⟩
    refine dSeq_cut (fun sg S' => ∃ (tb : List Nat) (G : Sto) (d5 d6 d7 d8 d9 d10 : Option D), tb.length = m ∧ (∀ t ∈ tb, t < 2 ^ w) ∧ sg = [some (.int (m : Int)), some (.ref j), some (.ref i), some (.ref S.length), some (.ref (S.length + 1)), d5, d6, d7, d8, d9, d10] ∧ S' = S ++ (.dic kvs :: .lst (natsD tb) :: G)) (fun nx hnx => ?_) ?_
    · walk_at "dz"
      refine ⟨by omega, by omega, wFor_rng _ (fun q sg S' => ∃ (tb : List Nat) (G : Sto) (d5 d6 d7 d8 d9 d10 : Option D), tb.length = q ∧ (∀ t ∈ tb, t < 2 ^ w) ∧ KeptOk (.lst (natsD tb) :: G) S.length m w kvs ∧ sg = [some (.int (m : Int)), some (.ref j), some (.ref i), some (.ref S.length), some (.ref (S.length + 1)), d5, d6, d7, d8, d9, d10] ∧ S' = S ++ (.dic kvs :: .lst (natsD tb) :: G)) ⟨[], G, d5, d6, d7, d8, d9, d10, rfl, fun _ h => (nomatch h), hK, rfl, rfl⟩ ?_ ?_⟩
      · rintro sg S' ⟨tb, G, d5, d6, d7, d8, d9, d10, htl, htw, hK, rfl, rfl⟩
        rw [Int.toNat_natCast] at htl
        exact ⟨trivial, hnx _ _ ⟨tb, G, d5, d6, d7, d8, d9, d10, htl, htw, rfl, rfl⟩⟩
      · rintro q sg S' nx2 hq ⟨tb, G, d5, d6, d7, d8, d9, d10, htl, htw, hK, rfl, rfl⟩ hnx2
        rw [Int.toNat_natCast] at hq
        refine ⟨trivial, ?_⟩
        rw [show (0 : Int) + (q : Int) = (q : Int) by omega]
        walk_at "dz"
        refine dSeq_cut (fun sg S' => ∃ (l : List Nat) (y u : Nat) (G2 : Sto), l.length ≤ 1000 ∧ y < 2 ^ w ∧ lget (.lst (natsD tb) :: G2) u = some (natsD l) ∧ KeptOk (.lst (natsD tb) :: G2) S.length m w kvs ∧ sg = [some (.int (m : Int)), some (.ref j), some (.ref i), some (.ref S.length), some (.ref (S.length + 1)), some (.ref (S.length + (u + 1))), some (.int (y : Int)), d7, d8, d9, some (.int (q : Int))] ∧ S' = S ++ (.dic kvs :: .lst (natsD tb) :: G2)) (fun nx3 hnx3 => ?_) ?_
        · walk_at "dz"
          refine ⟨kvs, rfl, natK q, rfl, fun hs => ?_, fun hs => ⟨Nat.zero_le _, by decide, hnx3 _ _ ⟨[], 0, G.length + 1, G ++ [O.lst []], Nat.zero_le _, Nat.two_pow_pos w, (show lget (G ++ [.lst []]) G.length = _ from lget_end rfl), hK.app [.lst []], rfl, rfl⟩⟩⟩
          obtain ⟨d, hdv⟩ := Option.isSome_iff_exists.mp hs
          obtain ⟨v2, x2, l2, rfl, hl2, hnd2, hle2, hc2, _, hcm, hx2⟩ := hK q d hdv
          exact ⟨kvs, rfl, natK q, rfl, _, hdv, rfl, hnx3 _ _ ⟨l2, x2, v2, G, Nat.le_trans (nodup_lt hnd2 fun y hy => Nat.lt_of_le_of_lt (hle2 y hy) hcm) hm, hx2, hl2, hK, rfl, rfl⟩⟩
        · rintro sg S' ⟨l, y, u, G2, hll, hyw, hu, hK2, rfl, rfl⟩
          walk_at "dz"
          have hR : ∀ X : Sto, lget (.lst (natsD tb) :: (G2 ++ X)) u = some (natsD l) := fun X => lget_app (S := .lst (natsD tb) :: G2) hu
          refine ⟨by decide, _, hR _, lc_filter (fun d => decide ((intD d).toNat < q)) (fun d => .int (tb.getD (intD d).toNat 0 : Nat)) (fun z hz acc kk hk => ?_) (fun z hz hpp acc kk hk => ?_) (fun acc => ?_) (by show (natsD l).length ≤ _; rw [List.length_map, sl16]; omega) ?_⟩
          · obtain ⟨a, ha, rfl⟩ := List.mem_map.mp hz
            simp only [List.append_assoc, List.cons_append, List.nil_append] at hk
            walk_at "dz"
            rw [show decide ((a : Int) < (q : Int)) = decide ((intD (D.int (a : Int))).toNat < q) by rw [decide_eq_decide]; exact Int.ofNat_lt]
            exact hk
          · obtain ⟨a, ha, rfl⟩ := List.mem_map.mp hz
            have haq : a < tb.length := by rw [htl]; exact of_decide_eq_true hpp
            simp only [List.append_assoc, List.cons_append, List.nil_append] at hk
            walk_at "dz"
            refine ⟨_, atI_nat (by rw [List.getElem?_map, List.getElem?_eq_getElem haq]; rfl), ?_⟩
            rw [show (intD (D.int (a : Int))).toNat = a from rfl, List.getD_eq_getElem?_getD, List.getElem?_eq_getElem haq] at hk
            exact hk
          · exact lget_app (lget_k (u + 1) rfl (hR _))
          · have e1 : (((natsD l).filter fun d => decide ((intD d).toNat < q)).map fun d => D.int (tb.getD (intD d).toNat 0 : Nat)) = natsD (pickN tb (l.filter fun y => decide (y < q))) := by
              unfold natsD pickN
              rw [List.filter_map, List.map_map, List.map_map]
              rfl
            rw [e1]
            have hf1 := List.length_filter_le (fun y => decide (y < q)) l
            walk_at "dz"
            have hpl : (pickN tb (l.filter fun y => decide (y < q))).length ≤ 1000 := by
              unfold pickN
              rw [List.length_map]
              omega
            have hpw : ∀ t ∈ pickN tb (l.filter fun y => decide (y < q)), t < 2 ^ w := fun t ht => by
              obtain ⟨c, hc, rfl⟩ := List.mem_map.mp ht
              have hcq : c < tb.length := by rw [htl]; exact of_decide_eq_true (List.mem_filter.mp hc).2
              rw [List.getD_eq_getElem?_getD, List.getElem?_eq_getElem hcq]
              exact htw _ (List.getElem_mem hcq)
            generalize pickN tb (l.filter fun y => decide (y < q)) = pk at hpl hpw
            refine ⟨by rw [List.length_map, sl16]; omega, _, y :: pk, rfl, lget_k (G2.length + 2 + 1 + 1) rfl (show lget (G2 ++ _) (G2.length + 2) = _ from lget_k 2 rfl rfl), ?_⟩
            have hx : xorN (y :: pk) < 2 ^ w := xorN_lt fun t ht => (List.mem_cons.mp ht).elim (fun e => by rw [e]; exact hyw) (hpw t)
            walk_at "dz"
            refine ⟨by rw [List.length_map, htl, sl16]; omega, ?_⟩
            rw [natsD_snoc]
            refine hnx2 _ _ ⟨tb ++ [xorN (y :: pk)], _, _, _, _, _, _, _, by rw [List.length_append, List.length_singleton, htl], fun t ht => ?_, (hK2.app [O.lst [D.int (y : Int)], O.lst (natsD pk), O.lst (D.int (y : Int) :: natsD pk)]).head, rfl, rfl⟩
            rcases List.mem_append.mp ht with ht | ht
            · exact htw t ht
            · rw [List.mem_singleton.mp ht]
              exact hx
    · rintro sg S' ⟨tb, G, d5, d6, d7, d8, d9, d10, htl, htw, rfl, rfl⟩
      walk_at "dz"
      exact ⟨by decide, wk_new rfl cS (Nat.le_add_right _ _) (get_k (G.length + 1 + 1) rfl (show (G ++ [.lst [.tup (natsD tb)]])[G.length]? = _ from get_at0)) ⟨cl_nats _ tb, trivial⟩ (h1 tb htl htw)⟩
end Q
open Q
local macro_rules | `(tactic| walk_at "dx") => `(tactic| try simp only [dSeq, dDrop, kDrop, dRet, dRetN, dIf, kIf, dNever, dNext, dBreak, dCont, dSet, kSet, dPar, kPar, dPar3, kPar3, dAug, kAug, dAsg, kAsg, gNm, gsNil, gsCons, gTp, gUl, gSb, kGs1, kGs2, rSet, dFor, kFor, dLc, dYes, wipeD, dRaise, kRaise, dTry, wTry, clrM, clrD, putD', dXv, kXv,
  dC, dVar, dUn, dOp, kOp1, kOp2, dTst, kB, dAnd, kAnd, dOr, kOr, dNot, kNot, dAndV, kAndV, dOrV, kOrV, dNotV, kNotV, dIfE, kIfE, dNil, dCons, kCons1, kCons2, dTup, kTup, dLst, kLst, dCall, kCall, spN, dCallK, kCK1, kCK2, pick, dMet, kM1, kM2, isLst, rApp, dSl, kSl1, kSl2, kSl3, rSl, dNoP, dPart, kPart,
  rAdd, rSub, rMul, rMulT, rInP, rFdiv, rMod, rPow, rShl, rShr, rAnd, rXor, rNeg, rEq, rNe, rLt, rLe, rGt, rGe, rIs, rIsNot, isNon, rIx, rIsi, rIsi2, isTy, spLen, spInt, spTuple, spAll, spAny, spMax, spMin, spAbs, spList, rIn, rNotIn, rIns, dRevL, kRev, dBack, kBack, dLc2, iEn, kEn, dSrtSet, kSrtSet, dChain, kCh1, kCh2, kCh3, iZp, kZp, dLenNew, dLenSet, kLenSet, kLenNew, dDicE, isDic, rDset, dDget, kDg1, kDg2, dDget2, kDh1, kDh2, kDh3, rDget, gDb, kGd1, kGd2, dStp, kSt0, kSt1, kSt2, spSumB, rDin, dBits, kBits, rDnin, spLenD, dAugS, kAs1, kAs2, kAs3, kAs4, rRem, rIdx, spStr, dJoin, kJoin1, kJoin2, rPop1, rPop0, rRev, dDc, dTupRg, kTupRg, dLstRg, kLstRg, iSq, iRg1, kRg1, iRg2, kRg2, rIAdd, endsD,
  isL_iff, atI0, atI1, atI2, get_at0, get_at, List.set_set, List.length_set, lget_at0, lget_at, lget_hd, lget_tl, set_at0, set_at, app1, List.nil_append, List.cons_append, List.length_cons, List.length_nil, List.length_append,
  List.getElem?_cons_zero, List.getElem?_cons_succ, List.set_cons_zero, List.set_cons_succ, List.getElem?_nil, List.filterMap_cons, List.filterMap_nil, List.append_nil,
  Option.some.injEq, O.lst.injEq, exists_eq_left', exists_eq_left, exists_eq', List.cons.injEq, D.int.injEq, D.bl.injEq, D.tup.injEq, D.ref.injEq, D.str.injEq, Int.natCast_inj, true_and, and_true, and_self, Nat.reduceAdd, Nat.zero_add, Bool.not_true, Bool.not_false, reduceCtorEq, forall_const, imp_self, not_true_eq_false, not_false_eq_true, false_implies, true_implies, implies_true, Bool.true_eq_false, Bool.false_eq_true, Bool.true_or, Bool.or_true, Bool.false_or, Bool.or_false, Bool.and_true, Bool.true_and, decide_eq_true_eq, decide_eq_false_iff_not, Bool.not_eq_true', Bool.not_eq_false', decide_true, decide_false, or_false, false_or, exists_false, exists_and_left, and_assoc])
local macro_rules | `(tactic| walk_at "dz") => `(tactic| try simp only [dDrop, kDrop, dRet, dRetN, dIf, kIf, dNever, dNext, dBreak, dCont, dSet, kSet, dPar, kPar, dPar3, kPar3, dAug, kAug, dAsg, kAsg, gNm, gsNil, gsCons, gTp, gUl, gSb, kGs1, kGs2, rSet, dFor, kFor, dLc, dYes, wipeD, dRaise, kRaise, dTry, wTry, clrM, clrD, putD', dXv, kXv,
  dC, dVar, dUn, dOp, kOp1, kOp2, dTst, kB, dAnd, kAnd, dOr, kOr, dNot, kNot, dAndV, kAndV, dOrV, kOrV, dNotV, kNotV, dIfE, kIfE, dNil, dCons, kCons1, kCons2, dTup, kTup, dLst, kLst, dCall, kCall, spN, dCallK, kCK1, kCK2, pick, dMet, kM1, kM2, isLst, rApp, dSl, kSl1, kSl2, kSl3, rSl, dNoP, dPart, kPart,
  rAdd, rSub, rMul, rMulT, rInP, rFdiv, rMod, rPow, rShl, rShr, rAnd, rXor, rNeg, rEq, rNe, rLt, rLe, rGt, rGe, rIs, rIsNot, isNon, rIx, rIsi, rIsi2, isTy, spLen, spInt, spTuple, spAll, spAny, spMax, spMin, spAbs, spList, rIn, rNotIn, rIns, dRevL, kRev, dBack, kBack, dLc2, iEn, kEn, dSrtSet, kSrtSet, dChain, kCh1, kCh2, kCh3, iZp, kZp, dLenNew, dLenSet, kLenSet, kLenNew, dDicE, isDic, rDset, dDget, kDg1, kDg2, dDget2, kDh1, kDh2, kDh3, rDget, gDb, kGd1, kGd2, dStp, kSt0, kSt1, kSt2, spSumB, rDin, dBits, kBits, rDnin, spLenD, dAugS, kAs1, kAs2, kAs3, kAs4, rRem, rIdx, spStr, dJoin, kJoin1, kJoin2, rPop1, rPop0, rRev, dDc, dTupRg, kTupRg, dLstRg, kLstRg, iSq, iRg1, kRg1, iRg2, kRg2, rIAdd, endsD,
  isL_iff, atI0, atI1, atI2, get_at0, get_at, List.set_set, List.length_set, lget_at0, lget_at, lget_hd, lget_tl, set_at0, set_at, app1, List.nil_append, List.cons_append, List.length_cons, List.length_nil, List.length_append,
  List.getElem?_cons_zero, List.getElem?_cons_succ, List.set_cons_zero, List.set_cons_succ, List.getElem?_nil, List.filterMap_cons, List.filterMap_nil, List.append_nil,
  Option.some.injEq, O.lst.injEq, exists_eq_left', exists_eq_left, exists_eq', List.cons.injEq, D.int.injEq, D.bl.injEq, D.tup.injEq, D.ref.injEq, D.str.injEq, Int.natCast_inj, true_and, and_true, and_self, Nat.reduceAdd, Nat.zero_add, Bool.not_true, Bool.not_false, reduceCtorEq, forall_const, imp_self, not_true_eq_false, not_false_eq_true, false_implies, true_implies, implies_true, Bool.true_eq_false, Bool.false_eq_true, Bool.true_or, Bool.or_true, Bool.false_or, Bool.or_false, Bool.and_true, Bool.true_and, decide_eq_true_eq, decide_eq_false_iff_not, Bool.not_eq_true', Bool.not_eq_false', decide_true, decide_false, or_false, false_or, exists_false, exists_and_left, and_assoc])
namespace Q
open PySem
open Spec PyProof.Rows L2
/-! ### drawn filters (k34, k35) -/
def sp__law_filter : SpD := fun ds S k _ => ∃ n a b c most : Nat, ds = [.ref n, .int most] ∧ 0 < most ∧ most ≤ 40 ∧ S[n]? = some (wellO a b c) ∧ b < 2 ^ 100 ∧ c < 2 ^ 49 ∧ ∀ (M : Msh) (a' c' : Nat), M.Ok → M.m ≤ 40 → M.p ≤ 1000 → M.ps.length ≤ 12 → c' ≤ c + 400 → k M.d (S.set n (wellO a' b c'))
/-- _law_filter(_law_well_here, _law_most); slots: 0 _law_well_here, 1 _law_most, 2 _law_mixing_here, 3 _law_w, 4 _law_numbers_here, 5 _law_marks, 6 _law_found, 7 _law_x, 8 _law_cell -/
def t__law_filter : TSD := (dSeq (dAsg (dTup (dCons (dCall (spN 2 sp__law_mixing) (dCons (dVar 0) (dCons (dVar 1) dNil))) (dCons (dOp rAdd (dC (.int 1)) (dCall (spN 2 sp__law_dip) (dCons (dVar 0) (dCons (dOp rIx (dLst (dCons (dC (.int 3)) (dCons (dC (.int 10)) (dCons (dC (.int 60)) dNil)))) (dCall (spN 2 sp__law_dip) (dCons (dVar 0) (dCons (dC (.int 3)) dNil)))) dNil)))) dNil))) (gTp 2 (gsCons (gNm 2) (gsCons (gNm 3) gsNil)))) (dSeq (dIf (dTst (dOp rEq (dCall (spN 2 sp__law_dip) (dCons (dVar 0) (dCons (dC (.int 2)) dNil))) (dC (.int 0)))) (dSeq (dSet 4 (dCall (spN 2 sp__law_numbers) (dCons (dVar 0) (dCons (dVar 1) dNil)))) (dSeq (dSet 5 (dLc (iSq (dVar 4)) (gNm 7) dYes (dCall (spN 3 sp__law_mark) (dCons (dVar 2) (dCons (dVar 3) (dCons (dVar 7) dNil)))) [7])) (dSeq (dSet 6 (dCall (spN 3 sp__law_first) (dCons (dOp rIx (dVar 2) (dC (.int 0))) (dCons (dLc (iSq (dVar 4)) (gNm 7) dYes (dCall (spN 2 sp__law_row) (dCons (dVar 2) (dCons (dVar 7) dNil))) [7]) (dCons (dVar 5) dNil))))) (dIf (dTst (dOp rNe (dVar 6) (dLst dNil))) (dRet (dTup (dCons (dVar 2) (dCons (dVar 3) (dCons (dOp rIx (dVar 6) (dC (.int 0))) dNil))))) dNext)))) dNext) (dRet (dTup (dCons (dVar 2) (dCons (dVar 3) (dCons (dCall spTuple (dCons (dLc (iRg1 (dCons (dOp rIx (dVar 2) (dC (.int 0))) dNil)) (gNm 8) dYes (dCall (spN 2 sp__law_dip) (dCons (dVar 0) (dCons (dCall (spN 1 sp__law_power) (dCons (dVar 3) dNil)) dNil))) [8]) dNil)) dNil)))))))

theorem k__law_filter : Keeps 2 9 t__law_filter sp__law_filter := by
  intro ds S k x hl cS cd h
  obtain ⟨n, a, b, c, most, rfl, h0, h40, hd, hb, hc, h⟩ := h
  show t__law_filter (endsD S.length k x) [some (.ref n), some (.int (most : Int)), none, none, none, none, none, none, none] S
  have fin : ∀ (m p : Nat) (ps : List (Nat × Nat)) (q : Nat × Nat) (w : Nat) (tb : List Nat) (a' c' : Nat) (G : Sto), MixOk m p ps q → m ≤ 40 → p ≤ 1000 → ps.length ≤ 12 → 1 ≤ w → w ≤ 60 → tb.length = m → (∀ t ∈ tb, t < 2 ^ w) → c' ≤ c + 400 → wk S.length k (.tup [mixD m p ps q, .int (w : Int), .tup (natsD tb)]) (S.set n (wellO a' b c') ++ G) := fun m p ps q w tb a' c' G h1 h2 h3 h4 h5 h6 h7 h8 h9 =>
    wk_drop (by simp) (clS_set cS (cl_well _ _ _ _)) ⟨cl_mixD _ m p ps q, trivial, cl_nats _ tb, trivial⟩ (h ⟨m, p, ps, q, w, tb⟩ a' c' ⟨h1, h5, h6, h7, h8⟩ h2 h3 h4 h9)
  simp only [t__law_filter]
  refine dSeq_cut (fun sg S' => ∃ (m p : Nat) (ps : List (Nat × Nat)) (q : Nat × Nat) (w a c' : Nat) (G : Sto), MixOk m p ps q ∧ m ≤ 40 ∧ p ≤ 1000 ∧ ps.length ≤ 12 ∧ 1 ≤ w ∧ w ≤ 60 ∧ c' ≤ c + 102 ∧ sg = [some (.ref n), some (.int (most : Int)), some (mixD m p ps q), some (.int (w : Int)), none, none, none, none, none] ∧ S' = S.set n (wellO a b c') ++ G) (fun nx hnx => ?_) ?_
  · walk_at "dz"
    refine ⟨n, a, b, c, most, rfl, h0, h40, hd, hb, by omega, fun m p ps q a1 c1 hM hm hp hpl hc1 => ?_⟩
    walk_at "dz"
    refine ⟨by decide, dip_set hd (many := 3) rfl (by decide) (by decide) hb (by omega) fun r2 a2 c2 hr2 hc2 => ?_⟩
    walk_at "dz"
    obtain ⟨d, hd1, hd2⟩ := atI_in [D.int 3, .int 10, .int 60] r2 hr2
    obtain ⟨v, rfl, hv, hv2⟩ : ∃ v : Nat, d = .int (v : Int) ∧ 0 < v ∧ v ≤ 60 := by
      simp only [List.mem_cons, List.not_mem_nil, or_false] at hd2
      rcases hd2 with rfl | rfl | rfl
      · exact ⟨3, rfl, by decide, by decide⟩
      · exact ⟨10, rfl, by decide, by decide⟩
      · exact ⟨60, rfl, by decide, by decide⟩
    refine ⟨_, lget_end (by simp), _, hd1, dip_set hd rfl hv (by omega) hb (by omega) fun r3 a3 c3 hr3 hc3 => ?_⟩
    walk_at "dz"
    rw [show (1 : Int) + (r3 : Int) = ((1 + r3 : Nat) : Int) by omega]
    exact ⟨by decide, hnx _ _ ⟨m, p, ps, q, 1 + r3, a3, c3, _, hM, hm, hp, hpl, by omega, by omega, by omega, rfl, rfl⟩⟩
  · rintro sg S' ⟨m, p, ps, q, w, a1, c1, G, hM, hm, hp, hpl, hw1, hw2, hc1, rfl, rfl⟩
    have hm1 := hM.m1
    refine dSeq_cut (fun sg S' => ∃ (a c' : Nat) (G : Sto) (d4 d5 d6 : Option D), c' ≤ c + 210 ∧ sg = [some (.ref n), some (.int (most : Int)), some (mixD m p ps q), some (.int (w : Int)), d4, d5, d6, none, none] ∧ S' = S.set n (wellO a b c') ++ G) (fun nx hnx => ?_) ?_
    · walk_at "dz"
      refine dip_set hd (many := 2) rfl (by decide) (by decide) hb (by omega) fun r2 a2 c2 hr2 hc2 => ?_
      walk_at "dz"
      refine ⟨fun _ => ?_, fun _ => hnx _ _ ⟨a2, c2, G, _, _, _, by omega, rfl, rfl⟩⟩
      refine dSeq_go ?_
      walk_at "dz"
      refine ⟨n, a2, b, c2, most, rfl, h40, get_app (get_set_self hd), hb, by omega, fun ns a3 c3 hnd hln hlt hc3 => ?_⟩
      rw [setT hd]
      walk_at "dz"
      refine dSeq_go ?_
      walk_at "dz"
      refine ⟨_, lget_k G.length (by simp) (lget_end rfl), ?_⟩
      refine lc_map (fun d => .int (led q p (intD d).toNat % 2 ^ w : Nat)) (fun d hdm acc kk hk => ?_) (fun acc => lget_app (lget_k G.length (by simp) (lget_end rfl))) (by show (natsD ns).length ≤ _; rw [List.length_map, sl16]; omega) ?_
      · obtain ⟨y, hy, rfl⟩ := List.mem_map.mp hdm
        walk_at "dz"
        rw [List.append_assoc, List.append_assoc] at hk
        exact ⟨m, p, ps, q, w, y, rfl, hM, by omega, hk⟩
      · have e1 : (natsD ns).map (fun d => D.int (led q p (intD d).toNat % 2 ^ w : Nat)) = natsD (ns.map fun y => led q p y % 2 ^ w) := by
          unfold natsD
          rw [List.map_map, List.map_map]
          rfl
        rw [e1]
        walk_at "dz"
        refine dSeq_go ?_
        simp only [mixD]
        walk_at "dz"
        refine ⟨_, lget_k G.length (by simp) (lget_k 0 rfl rfl), ?_⟩
        refine lc_map (fun d => .tup (natsD (rowN m p ps (intD d).toNat))) (fun d hdm acc kk hk => ?_) (fun acc => lget_app (lget_k G.length (by simp) (lget_k 0 rfl rfl))) (by show (natsD ns).length ≤ _; rw [List.length_map, sl16]; omega) ?_
        · obtain ⟨y, hy, rfl⟩ := List.mem_map.mp hdm
          walk_at "dz"
          simp only [List.append_assoc, List.cons_append, List.nil_append] at hk
          exact ⟨m, p, ps, q, y, rfl, hM, hk⟩
        · have e2 : (natsD ns).map (fun d => D.tup (natsD (rowN m p ps (intD d).toNat))) = (ns.map fun y => rowN m p ps y).map rowD := by
            unfold natsD
            rw [List.map_map, List.map_map]
            rfl
          rw [e2]
          walk_at "dz"
          refine ⟨m, w, _, _, _, _, rfl, by omega, lget_k (G.length + 2) (by simp) (lget_k 2 rfl rfl), lget_k (G.length + 1) (by simp) (lget_k 1 rfl rfl), by rw [List.length_map]; omega, fun r hr => ?_, fun v hv => ?_, ?_, fun tb htl htw => ?_⟩
          · obtain ⟨y, hy, rfl⟩ := List.mem_map.mp hr
            exact ⟨(rowN_asc m p y ps).imp fun h => by omega, fun c hc => List.mem_range.mp (List.mem_filter.mp hc).1⟩
          · obtain ⟨y, hy, rfl⟩ := List.mem_map.mp hv
            exact Nat.mod_lt _ (Nat.two_pow_pos w)
          · walk_at "dz"
            refine ⟨Nat.zero_le _, eqG_lst (xs := []) (ys := []) 0 0 (lget_k (G.length + 3) (by simp) (lget_k 3 rfl rfl)) (lget_k (G.length + 4) (by simp) (lget_k 4 rfl rfl)) rfl rfl ?_⟩
            rw [eqDs_nil]
            exact ⟨fun z => (by cases z), fun _ => hnx _ _ ⟨a3, c3, _, _, _, _, by omega, rfl, rfl⟩⟩
          · walk_at "dz"
            refine ⟨Nat.zero_le _, eqG_lst (xs := [.tup (natsD tb)]) (ys := []) 2 0 (lget_k (G.length + 3) (by simp) (lget_k 3 rfl rfl)) (lget_k (G.length + 4) (by simp) (lget_k 4 rfl rfl)) ?_ rfl ?_⟩
            · show (pd 2 (.tup (natsD tb)) && true) = true
              rw [show pd 2 (.tup (natsD tb)) = pds 1 (natsD tb) from rfl, pds_nats]
              rfl
            · rw [eqDs_nil]
              refine ⟨fun _ => ⟨_, lget_k (G.length + 3) (by simp) (lget_k 3 rfl rfl), _, atI0 _ _, by decide, ?_⟩, fun z => (by cases z)⟩
              exact fin m p ps q w tb a3 c3 _ hM hm hp hpl hw1 hw2 htl htw (by omega)
    · rintro sg S' ⟨a2, c2, G, d4, d5, d6, hc2, rfl, rfl⟩
      walk_at "dz"
      simp only [mixD]
      refine ⟨_, atI0 _ _, ?_⟩
      walk_at "dz"
      refine ⟨by omega, by omega, lc_ind (fun items acc T => ∃ (tb : List Nat) (a c' : Nat) (G2 : Sto), acc = natsD tb ∧ tb.length + items.length = m ∧ (∀ t ∈ tb, t < 2 ^ w) ∧ c' ≤ c2 + tb.length ∧ T = S.set n (wellO a b c') ++ (G ++ [.lst acc])) ⟨[], a2, c2, [], rfl, by simp, fun _ h => (nomatch h), by simp, by simp⟩ ?_ ?_⟩
      · rintro acc T ⟨tb, a3, c3, G2, rfl, hl2, hs, hc3, rfl⟩
        refine ⟨trivial, ?_⟩
        have hl3 : tb.length = m := by simpa using hl2
        walk_at "dz"
        refine ⟨_, lget_k G.length (by simp) (lget_end rfl), by decide, ?_⟩
        exact fin m p ps q w tb a3 c3 _ hM hm hp hpl hw1 hw2 hl3 hs (by omega)
      · rintro d rest acc T kk ⟨tb, a3, c3, G2, rfl, hl2, hs, hc3, rfl⟩ hkk
        refine ⟨trivial, ?_⟩
        rw [List.length_cons] at hl2
        walk_at "dz"
        refine ⟨w, rfl, by omega, ?_⟩
        walk_at "dz"
        refine dip_set hd (many := 2 ^ w) rfl (Nat.two_pow_pos w) (Nat.pow_lt_pow_right (by decide) (by omega)) hb (by omega) fun r2 a4 c4 hr2 hc4 => ?_
        have eL : (S.set n (wellO a2 b c2) ++ G).length = S.length + G.length := by simp
        rw [eL] at hkk
        refine hkk _ _ (get_k G.length (by simp) get_at0) (by rw [List.length_map, sl16]; omega) ⟨tb ++ [r2], a4, c4, G2, natsD_snoc tb r2, by rw [List.length_append, List.length_singleton]; omega, fun t ht => ?_, by rw [List.length_append, List.length_singleton]; omega, ?_⟩
        · rcases List.mem_append.mp ht with ht | ht
          · exact hs t ht
          · rw [List.mem_singleton.mp ht]
            exact hr2
        · rw [set_in (r := G.length) (by simp), set_at0]
end Q
open Q
local macro_rules | `(tactic| walk_at "dx") => `(tactic| try simp only [dSeq, dDrop, kDrop, dRet, dRetN, dIf, kIf, dNever, dNext, dBreak, dCont, dSet, kSet, dPar, kPar, dPar3, kPar3, dAug, kAug, dAsg, kAsg, gNm, gsNil, gsCons, gTp, gUl, gSb, kGs1, kGs2, rSet, dFor, kFor, dLc, dYes, wipeD, dRaise, kRaise, dTry, wTry, clrM, clrD, putD', dXv, kXv,
  dC, dVar, dUn, dOp, kOp1, kOp2, dTst, kB, dAnd, kAnd, dOr, kOr, dNot, kNot, dAndV, kAndV, dOrV, kOrV, dNotV, kNotV, dIfE, kIfE, dNil, dCons, kCons1, kCons2, dTup, kTup, dLst, kLst, dCall, kCall, spN, dCallK, kCK1, kCK2, pick, dMet, kM1, kM2, isLst, rApp, dSl, kSl1, kSl2, kSl3, rSl, dNoP, dPart, kPart,
  rAdd, rSub, rMul, rMulT, rInP, rFdiv, rMod, rPow, rShl, rShr, rAnd, rXor, rNeg, rEq, rNe, rLt, rLe, rGt, rGe, rIs, rIsNot, isNon, rIx, rIsi, rIsi2, isTy, spLen, spInt, spTuple, spAll, spAny, spMax, spMin, spAbs, spList, rIn, rNotIn, rIns, dRevL, kRev, dBack, kBack, dLc2, iEn, kEn, dSrtSet, kSrtSet, dChain, kCh1, kCh2, kCh3, iZp, kZp, dLenNew, dLenSet, kLenSet, kLenNew, dDicE, isDic, rDset, dDget, kDg1, kDg2, dDget2, kDh1, kDh2, kDh3, rDget, gDb, kGd1, kGd2, dStp, kSt0, kSt1, kSt2, spSumB, rDin, dBits, kBits, rDnin, spLenD, dAugS, kAs1, kAs2, kAs3, kAs4, rRem, rIdx, spStr, dJoin, kJoin1, kJoin2, rPop1, rPop0, rRev, dDc, dTupRg, kTupRg, dLstRg, kLstRg, iSq, iRg1, kRg1, iRg2, kRg2, rIAdd, endsD,
  isL_iff, atI0, atI1, atI2, get_at0, get_at, List.set_set, List.length_set, lget_at0, lget_at, lget_hd, lget_tl, set_at0, set_at, app1, List.nil_append, List.cons_append, List.length_cons, List.length_nil, List.length_append,
  List.getElem?_cons_zero, List.getElem?_cons_succ, List.set_cons_zero, List.set_cons_succ, List.getElem?_nil, List.filterMap_cons, List.filterMap_nil, List.append_nil,
  Option.some.injEq, O.lst.injEq, exists_eq_left', exists_eq_left, exists_eq', List.cons.injEq, D.int.injEq, D.bl.injEq, D.tup.injEq, D.ref.injEq, D.str.injEq, Int.natCast_inj, true_and, and_true, and_self, Nat.reduceAdd, Nat.zero_add, Bool.not_true, Bool.not_false, reduceCtorEq, forall_const, imp_self, not_true_eq_false, not_false_eq_true, false_implies, true_implies, implies_true, Bool.true_eq_false, Bool.false_eq_true, Bool.true_or, Bool.or_true, Bool.false_or, Bool.or_false, Bool.and_true, Bool.true_and, decide_eq_true_eq, decide_eq_false_iff_not, Bool.not_eq_true', Bool.not_eq_false', decide_true, decide_false, or_false, false_or, exists_false, exists_and_left, and_assoc])
local macro_rules | `(tactic| walk_at "dz") => `(tactic| try simp only [dDrop, kDrop, dRet, dRetN, dIf, kIf, dNever, dNext, dBreak, dCont, dSet, kSet, dPar, kPar, dPar3, kPar3, dAug, kAug, dAsg, kAsg, gNm, gsNil, gsCons, gTp, gUl, gSb, kGs1, kGs2, rSet, dFor, kFor, dLc, dYes, wipeD, dRaise, kRaise, dTry, wTry, clrM, clrD, putD', dXv, kXv,
  dC, dVar, dUn, dOp, kOp1, kOp2, dTst, kB, dAnd, kAnd, dOr, kOr, dNot, kNot, dAndV, kAndV, dOrV, kOrV, dNotV, kNotV, dIfE, kIfE, dNil, dCons, kCons1, kCons2, dTup, kTup, dLst, kLst, dCall, kCall, spN, dCallK, kCK1, kCK2, pick, dMet, kM1, kM2, isLst, rApp, dSl, kSl1, kSl2, kSl3, rSl, dNoP, dPart, kPart,
  rAdd, rSub, rMul, rMulT, rInP, rFdiv, rMod, rPow, rShl, rShr, rAnd, rXor, rNeg, rEq, rNe, rLt, rLe, rGt, rGe, rIs, rIsNot, isNon, rIx, rIsi, rIsi2, isTy, spLen, spInt, spTuple, spAll, spAny, spMax, spMin, spAbs, spList, rIn, rNotIn, rIns, dRevL, kRev, dBack, kBack, dLc2, iEn, kEn, dSrtSet, kSrtSet, dChain, kCh1, kCh2, kCh3, iZp, kZp, dLenNew, dLenSet, kLenSet, kLenNew, dDicE, isDic, rDset, dDget, kDg1, kDg2, dDget2, kDh1, kDh2, kDh3, rDget, gDb, kGd1, kGd2, dStp, kSt0, kSt1, kSt2, spSumB, rDin, dBits, kBits, rDnin, spLenD, dAugS, kAs1, kAs2, kAs3, kAs4, rRem, rIdx, spStr, dJoin, kJoin1, kJoin2, rPop1, rPop0, rRev, dDc, dTupRg, kTupRg, dLstRg, kLstRg, iSq, iRg1, kRg1, iRg2, kRg2, rIAdd, endsD,
  isL_iff, atI0, atI1, atI2, get_at0, get_at, List.set_set, List.length_set, lget_at0, lget_at, lget_hd, lget_tl, set_at0, set_at, app1, List.nil_append, List.cons_append, List.length_cons, List.length_nil, List.length_append,
  List.getElem?_cons_zero, List.getElem?_cons_succ, List.set_cons_zero, List.set_cons_succ, List.getElem?_nil, List.filterMap_cons, List.filterMap_nil, List.append_nil,
  Option.some.injEq, O.lst.injEq, exists_eq_left', exists_eq_left, exists_eq', List.cons.injEq, D.int.injEq, D.bl.injEq, D.tup.injEq, D.ref.injEq, D.str.injEq, Int.natCast_inj, true_and, and_true, and_self, Nat.reduceAdd, Nat.zero_add, Bool.not_true, Bool.not_false, reduceCtorEq, forall_const, imp_self, not_true_eq_false, not_false_eq_true, false_implies, true_implies, implies_true, Bool.true_eq_false, Bool.false_eq_true, Bool.true_or, Bool.or_true, Bool.false_or, Bool.or_false, Bool.and_true, Bool.true_and, decide_eq_true_eq, decide_eq_false_iff_not, Bool.not_eq_true', Bool.not_eq_false', decide_true, decide_false, or_false, false_or, exists_false, exists_and_left, and_assoc])
namespace Q
open PySem
open Spec PyProof.Rows L2
/-! ### values near mixings (k35) -/
def sp__law_put : SpD := fun ds S k _ => ∃ (xs : List D) (a : Nat) (v : D), ds = [.tup xs, .int a, v] ∧ a < xs.length ∧ xs.length ≤ 1000 ∧ k (.tup (xs.take a ++ v :: xs.drop (a + 1))) S
def oddP (p : Int) (S : Sto) (e : D) : Prop := wild S 1000 3 e ∧ isPairB p e = false
def oddM (S : Sto) (e : D) : Prop := wild S 1000 5 e ∧ isMixD e = false
def sp__law_odd_mixings : SpD := fun ds S k _ => ∃ (n a b c m p : Nat) (ps : List (Nat × Nat)) (q : Nat × Nat), ds = [.ref n, mixD m p ps q] ∧ MixOk m p ps q ∧ ps.length ≤ 12 ∧ S[n]? = some (wellO a b c) ∧ b < 2 ^ 100 ∧ c < 2 ^ 49 ∧
  ∀ (a' c' j : Nat) (os : List D) (G : Sto), c' ≤ c + 1 → S.length ≤ j → (S.set n (wellO a' b c') ++ G)[j]? = some (.lst os) → os ≠ [] → os.length ≤ 100 → (∀ e ∈ os, oddM (S.set n (wellO a' b c') ++ G) e) → k (.ref j) (S.set n (wellO a' b c') ++ G)
/-- _law_put(_law_row_here, _law_at, _law_value); slots: 0 _law_row_here, 1 _law_at, 2 _law_value -/
def t__law_put : TSD := (dRet (dOp rAdd (dOp rAdd (dSl (dVar 0) dNoP (dPart (dVar 1))) (dTup (dCons (dVar 2) dNil))) (dSl (dVar 0) (dPart (dOp rAdd (dVar 1) (dC (.int 1)))) dNoP)))
/-- _law_odd_mixings(_law_well_here, _law_mixing_here); slots: 0 _law_well_here, 1 _law_mixing_here, 2 _law_m, 3 _law_p, 4 _law_pairs, 5 _law_mark_here, 6 _law_at, 7 _law_a, 8 _law_b, 9 _law_odds, 10 _law_found, 11 _law_odd -/
def t__law_odd_mixings : TSD := (dSeq (dAsg (dVar 1) (gTp 4 (gsCons (gNm 2) (gsCons (gNm 3) (gsCons (gNm 4) (gsCons (gNm 5) gsNil)))))) (dSeq (dSet 6 (dCall (spN 2 sp__law_dip) (dCons (dVar 0) (dCons (dCall spLen (dCons (dVar 4) dNil)) dNil)))) (dSeq (dAsg (dOp rIx (dVar 4) (dVar 6)) (gTp 2 (gsCons (gNm 7) (gsCons (gNm 8) gsNil)))) (dSeq (dSet 9 (dLst (dCons (dTup (dCons (dVar 3) (dCons (dVar 8) dNil))) (dCons (dTup (dCons (dVar 7) (dCons (dVar 3) dNil))) (dCons (dTup (dCons (dUn rNeg (dC (.int 1))) (dCons (dVar 8) dNil))) (dCons (dTup (dCons (dVar 7) (dCons (dUn rNeg (dC (.int 1))) dNil))) (dCons (dTup (dCons (dC (.bl true)) (dCons (dVar 8) dNil))) (dCons (dTup (dCons (dVar 7) (dCons (dC .non) dNil))) (dCons (dLst (dCons (dVar 7) (dCons (dVar 8) dNil))) (dCons (dTup (dCons (dVar 7) dNil)) (dCons (dTup (dCons (dVar 7) (dCons (dVar 8) (dCons (dC (.int 0)) dNil)))) (dCons (dC .non) (dCons (dVar 7) (dCons (dTup (dCons (dC (.str "0")) (dCons (dVar 8) dNil))) dNil)))))))))))))) (dSeq (dSet 9 (dOp rAdd (dVar 9) (dLst (dCons (dTup (dCons (dVar 7) (dCons (dTup (dCons (dVar 8) dNil)) dNil))) (dCons (dTup (dCons (dC .non) (dCons (dVar 8) dNil))) (dCons (dTup (dCons (dVar 7) (dCons (dC (.str "1")) dNil))) (dCons (dTup (dCons (dVar 7) (dCons (dOp rAdd (dVar 3) (dC (.int 7))) dNil))) dNil))))))) (dSeq (dSet 10 (dOp rAdd (dLc (iSq (dVar 9)) (gNm 11) dYes (dTup (dCons (dVar 2) (dCons (dVar 3) (dCons (dCall (spN 3 sp__law_put) (dCons (dVar 4) (dCons (dVar 6) (dCons (dVar 11) dNil)))) (dCons (dVar 5) dNil))))) [11]) (dLc (iSq (dVar 9)) (gNm 11) dYes (dTup (dCons (dVar 2) (dCons (dVar 3) (dCons (dVar 4) (dCons (dVar 11) dNil))))) [11]))) (dSeq (dSet 10 (dOp rAdd (dVar 10) (dLst (dCons (dTup (dCons (dC (.int 0)) (dCons (dVar 3) (dCons (dVar 4) (dCons (dVar 5) dNil))))) (dCons (dTup (dCons (dUn rNeg (dVar 2)) (dCons (dVar 3) (dCons (dVar 4) (dCons (dVar 5) dNil))))) (dCons (dTup (dCons (dC (.bl true)) (dCons (dVar 3) (dCons (dVar 4) (dCons (dVar 5) dNil))))) (dCons (dTup (dCons (dC .non) (dCons (dVar 3) (dCons (dVar 4) (dCons (dVar 5) dNil))))) dNil))))))) (dSeq (dSet 10 (dOp rAdd (dVar 10) (dLst (dCons (dTup (dCons (dVar 2) (dCons (dC (.int 1)) (dCons (dVar 4) (dCons (dVar 5) dNil))))) (dCons (dTup (dCons (dVar 2) (dCons (dC (.int 0)) (dCons (dTup (dCons (dTup (dCons (dC (.int 0)) (dCons (dC (.int 0)) dNil))) dNil)) (dCons (dTup (dCons (dC (.int 0)) (dCons (dC (.int 0)) dNil))) dNil))))) (dCons (dTup (dCons (dVar 2) (dCons (dUn rNeg (dVar 3)) (dCons (dVar 4) (dCons (dVar 5) dNil))))) (dCons (dTup (dCons (dVar 2) (dCons (dCall spStr (dCons (dVar 3) dNil)) (dCons (dVar 4) (dCons (dVar 5) dNil))))) dNil))))))) (dSeq (dSet 10 (dOp rAdd (dVar 10) (dLst (dCons (dTup (dCons (dVar 2) (dCons (dVar 3) (dCons (dTup dNil) (dCons (dVar 5) dNil))))) (dCons (dTup (dCons (dVar 2) (dCons (dVar 3) (dCons (dCall spList (dCons (dVar 4) dNil)) (dCons (dVar 5) dNil))))) (dCons (dTup (dCons (dVar 2) (dCons (dVar 3) (dCons (dVar 5) (dCons (dVar 5) dNil))))) (dCons (dTup (dCons (dVar 2) (dCons (dVar 3) (dCons (dVar 4) dNil)))) dNil))))))) (dSeq (dSet 10 (dOp rAdd (dVar 10) (dLst (dCons (dTup (dCons (dVar 2) (dCons (dVar 3) (dCons (dVar 4) (dCons (dVar 5) (dCons (dC (.int 0)) dNil)))))) (dCons (dCall spList (dCons (dVar 1) dNil)) (dCons (dC .non) (dCons (dTup dNil) (dCons (dC (.str "mixing")) (dCons (dC (.int 3)) (dCons (dTup (dCons (dVar 1) dNil)) (dCons (dTup (dCons (dVar 2) (dCons (dC .non) (dCons (dVar 4) (dCons (dVar 5) dNil))))) dNil))))))))))) (dSeq (dSet 10 (dOp rAdd (dVar 10) (dLst (dCons (dTup (dCons (dVar 2) (dCons (dC (.bl true)) (dCons (dTup (dCons (dTup (dCons (dC (.int 0)) (dCons (dC (.int 0)) dNil))) dNil)) (dCons (dTup (dCons (dC (.int 0)) (dCons (dC (.int 0)) dNil))) dNil))))) (dCons (dTup (dCons (dTup (dCons (dVar 2) dNil)) (dCons (dVar 3) (dCons (dVar 4) (dCons (dVar 5) dNil))))) (dCons (dTup (dCons (dVar 2) (dCons (dC (.int 1)) (dCons (dTup (dCons (dTup (dCons (dC (.int 0)) (dCons (dC (.int 0)) dNil))) dNil)) (dCons (dTup (dCons (dC (.int 0)) (dCons (dC (.int 0)) dNil))) dNil))))) dNil)))))) (dRet (dOp rAdd (dVar 10) (dLst (dCons (dTup (dCons (dVar 3) (dCons (dVar 4) (dCons (dVar 5) (dCons (dVar 2) dNil))))) dNil)))))))))))))))

theorem k__law_put : Keeps 3 3 t__law_put sp__law_put := by
  intro ds S k x hl cS cd h
  obtain ⟨xs, a, v, rfl, ha, hz, h⟩ := h
  show t__law_put (endsD S.length k x) [some (.tup xs), some (.int a), some v] S
  simp only [t__law_put]
  walk_at "dx"
  rw [cut_take, show (a : Int) + 1 = ((a + 1 : Nat) : Int) by omega, cut_drop]
  have h1 : (xs.take a).length ≤ xs.length := by rw [List.length_take]; omega
  have h2 : (xs.drop (a + 1)).length ≤ xs.length := by rw [List.length_drop]; omega
  refine ⟨by decide, by rw [sl16]; omega, by rw [sl16]; omega, ?_⟩
  rw [List.append_assoc]
  exact wk_now h
theorem oddP_app {p : Int} {S : Sto} (G : Sto) {e : D} (h : oddP p S e) : oddP p (S ++ G) e := ⟨wild_app G h.1, h.2⟩
theorem oddM_app {S : Sto} (G : Sto) {e : D} (h : oddM S e) : oddM (S ++ G) e := ⟨wild_app G h.1, h.2⟩
theorem wild_tup {S : Sto} {L n : Nat} {ds : List D} (h1 : ds.length ≤ L) (h2 : ∀ e ∈ ds, wild S L n e) : wild S L (n + 1) (.tup ds) := ⟨h1, h2⟩
theorem wild_str {S : Sto} {L n : Nat} {z : Str} (h : (PyData.str z).canLay0 = true) : wild S L n (.str z) := by cases n <;> exact h
theorem str_lay (i : Int) : (PyData.str (strI i)).canLay0 = true := by
  unfold PyData.canLay0
  unfold PyData.strOk
  rw [Array.all_eq_true']
  intro c hc
  refine decide_eq_true (Nat.lt_of_not_le fun hle => ?_)
  exact int_text_free' c ⟨by omega, .inr (by omega)⟩ i hc.val
theorem wl_nil {S : Sto} {L n : Nat} : ∀ e ∈ ([] : List D), wild S L n e := fun _ h => nomatch h
theorem wl_cons {S : Sto} {L n : Nat} {d : D} {ds : List D} (h1 : wild S L n d) (h2 : ∀ e ∈ ds, wild S L n e) : ∀ e ∈ d :: ds, wild S L n e := fun e he => by
  rcases List.mem_cons.mp he with rfl | he
  · exact h1
  · exact h2 e he
theorem wild_ref {S : Sto} {L n j : Nat} {ds : List D} (h1 : lget S j = some ds) (h0 : ds.length ≤ 1000000) (h2 : ∀ e ∈ ds, wild S L n e) : wild S L (n + 1) (.ref j) := ⟨ds, ⟨h1, h0⟩, h2⟩
theorem wild_non {S : Sto} {L n : Nat} : wild S L n .non := by cases n <;> trivial
theorem wild_bl {S : Sto} {L n : Nat} {b : Bool} : wild S L n (.bl b) := by cases n <;> trivial
def putP (m p : Nat) (ps : List (Nat × Nat)) (q : Nat × Nat) (t : Nat) (e : D) : D := .tup [.int (m : Int), .int (p : Int), .tup ((ps.map pairD).take t ++ e :: (ps.map pairD).drop (t + 1)), pairD q]
def putQ (m p : Nat) (ps : List (Nat × Nat)) (e : D) : D := .tup [.int (m : Int), .int (p : Int), .tup (ps.map pairD), e]
theorem wild_pairs {S : Sto} {n : Nat} {ps : List (Nat × Nat)} (h : ps.length ≤ 12) : wild S 1000 (n + 2) (.tup (ps.map pairD)) := wild_tup (by rw [List.length_map]; omega) fun e he => by
  obtain ⟨r, _, rfl⟩ := List.mem_map.mp he
  exact wild_pair r
theorem oddM_put {S : Sto} {m p t : Nat} {ps : List (Nat × Nat)} {q : Nat × Nat} {e : D} (h : ps.length ≤ 12) (he : oddP p S e) : oddM S (putP m p ps q t e) := by
  refine ⟨wild_tup (by simp) (wl_cons wild_int (wl_cons wild_int (wl_cons (wild_tup ?_ fun d hd => ?_) (wl_cons (wild_pair q) wl_nil)))), ?_⟩
  · rw [List.length_append, List.length_cons, List.length_take, List.length_drop, List.length_map]
    omega
  · rcases List.mem_append.mp hd with hd | hd
    · exact (wild_pairs (n := 2) h).2 d (List.mem_of_mem_take hd)
    · rcases List.mem_cons.mp hd with rfl | hd
      · exact he.1
      · exact (wild_pairs (n := 2) h).2 d (List.mem_of_mem_drop hd)
  · show (decide ((1 : Int) ≤ m) && decide ((2 : Int) ≤ p) && !_ && (isPairB p (pairD q) && (_ ++ e :: _).all (isPairB p))) = false
    rw [List.all_append, List.all_cons, he.2]
    simp
theorem oddM_mark {S : Sto} {m p : Nat} {ps : List (Nat × Nat)} {e : D} (h : ps.length ≤ 12) (he : oddP p S e) : oddM S (putQ m p ps e) := by
  refine ⟨wild_tup (by simp) (wl_cons wild_int (wl_cons wild_int (wl_cons (wild_pairs h) (wl_cons (wild_mono (Nat.le_refl _) (by decide) he.1) wl_nil)))), ?_⟩
  show (decide ((1 : Int) ≤ m) && decide ((2 : Int) ≤ p) && !_ && (isPairB p e && _)) = false
  rw [he.2]
  simp
theorem log_small {i : Int} (h : i.natAbs < 2 ^ 100) : i.natAbs.log2 < 1920 := Nat.lt_of_lt_of_le (log_lt (n := 100) h (by decide)) (by decide)
theorem k__law_odd_mixings : Keeps 2 12 t__law_odd_mixings sp__law_odd_mixings := by
  intro ds S k x hl cS cd h
  obtain ⟨n, a, b, c, m, p, ps, q, rfl, hM, hlen, hd, hb, hc, h⟩ := h
  show t__law_odd_mixings (endsD S.length k x) [some (.ref n), some (mixD m p ps q), none, none, none, none, none, none, none, none, none, none] S
  simp only [t__law_odd_mixings]
  have m1 := hM.m1
  have p1 := hM.p1
  have hmx : mixD m p ps q = .tup [.int (m : Int), .int (p : Int), .tup (ps.map pairD), pairD q] := rfl
  refine dSeq_go ?_
  rw [hmx]
  walk_at "dz"
  rw [← hmx]
  refine dSeq_go ?_
  walk_at "dz"
  have hp0 : 0 < ps.length := List.length_pos_iff.mpr hM.ne
  rw [List.length_map]
  refine ⟨n, a, b, c, ps.length, rfl, hp0, Nat.lt_of_le_of_lt hlen (by decide), hd, hb, by omega, fun t a1 c1 ht hc1 => ?_⟩
  walk_at "dz"
  have hat : atI (ps.map pairD) (t : Int) = some (pairD ps[t]) := atI_nat (by rw [List.getElem?_map, List.getElem?_eq_getElem ht]; rfl)
  have hpt : ps[t].1 < p ∧ ps[t].2 < p := hM.ps _ (List.getElem_mem ht)
  generalize ps[t] = rt at hat hpt
  refine dSeq_go ?_
  walk_at "dz"
  refine ⟨_, hat, ?_⟩
  simp only [pairD]
  walk_at "dz"
  have hSl : (S.set n (wellO a1 b c1)).length = S.length := List.length_set
  have hfin : ∀ (j : Nat) (os : List D) (G : Sto), S.length ≤ j → (S.set n (wellO a1 b c1) ++ G)[j]? = some (.lst os) → os ≠ [] → os.length ≤ 100 → (∀ e ∈ os, oddM (S.set n (wellO a1 b c1) ++ G) e) → wk S.length k (.ref j) (S.set n (wellO a1 b c1) ++ G) := fun j os G h0 h1 h2 h3 h4 => wk_now (h a1 c1 j os G hc1 h0 h1 h2 h3 h4)
  generalize S.set n (wellO a1 b c1) = T at hSl hfin
  have m2 := hM.m2
  have p2 := hM.p2
  have stm : (PyData.str (Str.ofString "mixing")).canLay0 = true := by decide +kernel
  have st0 : (PyData.str (Str.ofString "0")).canLay0 = true := by decide +kernel
  have st1 : (PyData.str (Str.ofString "1")).canLay0 = true := by decide +kernel
  refine dSeq_cut (fun sg S' => ∃ (os : List D) (G : Sto) (j : Nat), (T ++ G)[j]? = some (.lst os) ∧ (∀ e ∈ os, oddP p (T ++ G) e) ∧ os.length ≤ 20 ∧ sg = [some (.ref n), some (mixD m p ps q), some (.int (m : Int)), some (.int (p : Int)), some (.tup (ps.map pairD)), some (pairD q), some (.int (t : Int)), some (.int (rt.1 : Int)), some (.int (rt.2 : Int)), some (.ref j), none, none] ∧ S' = T ++ G) (fun nx hnx => ?_) ?_
  · walk_at "dz"
    refine ⟨by decide, by decide, by decide, by decide, by decide, by decide, by decide, by decide, by decide, by decide, by decide, hnx _ _ ⟨_, _, T.length + 1, get_k 1 rfl rfl, fun e he => ?_, by simp, rfl, rfl⟩⟩
    simp only [List.mem_cons, List.not_mem_nil, or_false] at he
    have w0 : ∀ X : Sto, lget (T ++ O.lst [D.int rt.1, D.int rt.2] :: X) T.length = some [D.int rt.1, D.int rt.2] := fun X => lget_k 0 rfl rfl
    rcases he with rfl | rfl | rfl | rfl | rfl | rfl | rfl | rfl | rfl | rfl | rfl | rfl
    all_goals refine ⟨?_, ?_⟩
    all_goals first | exact wild_ref (w0 _) (by simp) (wl_cons wild_int (wl_cons wild_int wl_nil)) | (simp [wild, w0, st0]; done) | (simp [isPairB, isBelowD]; done)
  · rintro sg S' ⟨os, G, j, hj, hos, hol, rfl, rfl⟩
    refine dSeq_cut (fun sg S' => ∃ (os : List D) (G : Sto) (j : Nat), (T ++ G)[j]? = some (.lst os) ∧ (∀ e ∈ os, oddP p (T ++ G) e) ∧ os.length ≤ 24 ∧ sg = [some (.ref n), some (mixD m p ps q), some (.int (m : Int)), some (.int (p : Int)), some (.tup (ps.map pairD)), some (pairD q), some (.int (t : Int)), some (.int (rt.1 : Int)), some (.int (rt.2 : Int)), some (.ref j), none, none] ∧ S' = T ++ G) (fun nx hnx => ?_) ?_
    · walk_at "dz"
      refine ⟨by decide, by decide, by decide, by decide, by decide, by decide, os, by rw [← List.append_assoc]; exact get_app hj, by rw [sl16]; omega, hnx _ _ ⟨_, _, T.length + (G.length + 1), get_k (G.length + 1) rfl (get_k 1 rfl rfl), fun e he => ?_, by simp; omega, rfl, rfl⟩⟩
      rcases List.mem_append.mp he with he | he
      · rw [← List.append_assoc]
        exact oddP_app _ (hos e he)
      · simp only [List.mem_cons, List.not_mem_nil, or_false] at he
        rcases he with rfl | rfl | rfl | rfl
        all_goals refine ⟨?_, ?_⟩
        all_goals first | (simp [wild, st1]; done) | (simp [isPairB, isBelowD]; done) | (simp [isPairB, isBelowD]; omega)
    · rintro sg S' ⟨os, G, j, hj, hos, hol, rfl, rfl⟩
      refine dSeq_cut (fun sg S' => ∃ (os : List D) (G : Sto) (j : Nat) (d9 : Option D), (T ++ G)[j]? = some (.lst os) ∧ (∀ e ∈ os, oddM (T ++ G) e) ∧ os.length ≤ 48 ∧ sg = [some (.ref n), some (mixD m p ps q), some (.int (m : Int)), some (.int (p : Int)), some (.tup (ps.map pairD)), some (pairD q), some (.int (t : Int)), some (.int (rt.1 : Int)), some (.int (rt.2 : Int)), d9, some (.ref j), none] ∧ S' = T ++ G) (fun nx hnx => ?_) ?_
      · walk_at "dz"
        refine ⟨os, lget_lst hj, lc_map (putP m p ps q t) (fun e he acc kk hk => ?_) (fun acc => lget_lst (get_app hj)) (by show os.length ≤ _; rw [sl16]; omega) ?_⟩
        · walk_at "dz"
          refine ⟨ps.map pairD, t, e, rfl, by rw [List.length_map]; exact ht, by rw [List.length_map]; omega, ?_⟩
          walk_at "dz"
          refine ⟨by decide, ?_⟩
          unfold putP at hk
          simpa only [List.append_assoc, List.cons_append, List.nil_append] using hk
        · walk_at "dz"
          refine ⟨os, lget_lst (by rw [← List.append_assoc]; exact get_app hj), lc_map (putQ m p ps) (fun e he acc kk hk => ?_) (fun acc => lget_lst (by rw [List.append_assoc, List.append_assoc, ← List.append_assoc]; exact get_app hj)) (by show os.length ≤ _; rw [sl16]; omega) ?_⟩
          · walk_at "dz"
            refine ⟨by decide, ?_⟩
            unfold putQ at hk
            simpa only [List.append_assoc, List.cons_append, List.nil_append] using hk
          · walk_at "dz"
            refine ⟨by rw [List.length_map, List.length_map, sl16]; omega, hnx _ _ ⟨os.map (putP m p ps q t) ++ os.map (putQ m p ps), G ++ [.lst (os.map (putP m p ps q t)), .lst (os.map (putQ m p ps)), .lst (os.map (putP m p ps q t) ++ os.map (putQ m p ps))], T.length + (G.length + 2), _, get_k (G.length + 2) rfl (get_k 2 rfl rfl), fun e he => ?_, by rw [List.length_append, List.length_map, List.length_map]; omega, rfl, rfl⟩⟩
            rw [← List.append_assoc]
            refine oddM_app _ ?_
            rcases List.mem_append.mp he with he | he
            · obtain ⟨o, ho, rfl⟩ := List.mem_map.mp he
              exact oddM_put hlen (hos o ho)
            · obtain ⟨o, ho, rfl⟩ := List.mem_map.mp he
              exact oddM_mark hlen (hos o ho)
      · rintro sg S' ⟨os, G, j, d9, hj, hos, hol, rfl, rfl⟩
        have hwr : ∀ X, wild X 1000 4 (.tup (ps.map pairD)) := fun X => wild_pairs hlen
        have hwq : ∀ X, wild X 1000 4 (pairD q) := fun X => wild_pair q
        have hwm : ∀ X, wild X 1000 4 (mixD m p ps q) := fun X => wild_mixN (n := 1) (by omega) (by decide)
        refine dSeq_cut (fun sg S' => ∃ (os : List D) (G : Sto) (j : Nat), (T ++ G)[j]? = some (.lst os) ∧ (∀ e ∈ os, oddM (T ++ G) e) ∧ os.length ≤ 52 ∧ sg = [some (.ref n), some (mixD m p ps q), some (.int (m : Int)), some (.int (p : Int)), some (.tup (ps.map pairD)), some (pairD q), some (.int (t : Int)), some (.int (rt.1 : Int)), some (.int (rt.2 : Int)), d9, some (.ref j), none] ∧ S' = T ++ G) (fun nx hnx => ?_) ?_
        · walk_at "dz"
          refine ⟨by decide, by decide, by decide, by decide, by decide, os, by rw [← List.append_assoc]; exact get_app hj, by rw [sl16]; omega, hnx _ _ ⟨_, _, T.length + (G.length + 1), get_k (G.length + 1) rfl (get_k 1 rfl rfl), fun e he => ?_, by simp; omega, rfl, rfl⟩⟩
          rcases List.mem_append.mp he with he | he
          · rw [← List.append_assoc]
            exact oddM_app _ (hos e he)
          · simp only [List.mem_cons, List.not_mem_nil, or_false] at he
            rcases he with rfl | rfl | rfl | rfl
            all_goals refine ⟨?_, ?_⟩
            all_goals try (simp [isMixD]; done)
            all_goals try (simp [isMixD]; omega)
            all_goals repeat' (first | exact wild_int | exact wild_non | exact wild_bl | exact hwr _ | exact hwq _ | exact hwm _ | exact wild_str (by first | assumption | exact str_lay _) | refine wild_tup (by simp) ?_ | exact wl_nil | refine wl_cons ?_ ?_)
        · rintro sg S' ⟨os, G, j, hj, hos, hol, rfl, rfl⟩
          refine dSeq_cut (fun sg S' => ∃ (os : List D) (G : Sto) (j : Nat), (T ++ G)[j]? = some (.lst os) ∧ (∀ e ∈ os, oddM (T ++ G) e) ∧ os.length ≤ 56 ∧ sg = [some (.ref n), some (mixD m p ps q), some (.int (m : Int)), some (.int (p : Int)), some (.tup (ps.map pairD)), some (pairD q), some (.int (t : Int)), some (.int (rt.1 : Int)), some (.int (rt.2 : Int)), d9, some (.ref j), none] ∧ S' = T ++ G) (fun nx hnx => ?_) ?_
          · walk_at "dz"
            repeat (refine ⟨by decide, ?_⟩)
            refine ⟨log_small (by omega), by decide, by decide, ?_⟩
            refine ⟨os, by rw [← List.append_assoc]; exact get_app hj, by rw [sl16]; omega, ?_⟩
            refine hnx _ _ ⟨_, _, T.length + (G.length + 1), get_k (G.length + 1) rfl (get_k 1 rfl rfl), fun e he => ?_, by simp; omega, rfl, rfl⟩
            rcases List.mem_append.mp he with he | he
            · rw [← List.append_assoc]
              exact oddM_app _ (hos e he)
            · simp only [List.mem_cons, List.not_mem_nil, or_false] at he
              rcases he with rfl | rfl | rfl | rfl
              all_goals refine ⟨?_, ?_⟩
              all_goals try (simp [isMixD]; done)
              all_goals try (simp [isMixD, isPairB]; omega)
              all_goals try (simp [isMixD, isPairB, pairD]; done)
              all_goals repeat' (first | exact wild_int | exact wild_non | exact wild_bl | exact hwr _ | exact hwq _ | exact hwm _ | exact wild_str (by first | assumption | exact str_lay _) | refine wild_tup (by simp) ?_ | refine wild_ref (lget_k G.length rfl (lget_end rfl)) (by first | (simp; done) | (simp; omega)) ?_ | exact (wild_pairs hlen).2 | exact wl_nil | refine wl_cons ?_ ?_)
          · rintro sg S' ⟨os, G, j, hj, hos, hol, rfl, rfl⟩
            refine dSeq_cut (fun sg S' => ∃ (os : List D) (G : Sto) (j : Nat), (T ++ G)[j]? = some (.lst os) ∧ (∀ e ∈ os, oddM (T ++ G) e) ∧ os.length ≤ 60 ∧ sg = [some (.ref n), some (mixD m p ps q), some (.int (m : Int)), some (.int (p : Int)), some (.tup (ps.map pairD)), some (pairD q), some (.int (t : Int)), some (.int (rt.1 : Int)), some (.int (rt.2 : Int)), d9, some (.ref j), none] ∧ S' = T ++ G) (fun nx hnx => ?_) ?_
            · walk_at "dz"
              repeat (refine ⟨by decide, ?_⟩)
              refine ⟨os, by rw [← List.append_assoc]; exact get_app hj, by rw [sl16]; omega, ?_⟩
              refine hnx _ _ ⟨_, _, T.length + (G.length + 2), get_k (G.length + 2) rfl (get_k 2 rfl rfl), fun e he => ?_, by simp; omega, rfl, rfl⟩
              rcases List.mem_append.mp he with he | he
              · rw [← List.append_assoc]
                exact oddM_app _ (hos e he)
              · simp only [List.mem_cons, List.not_mem_nil, or_false] at he
                rcases he with rfl | rfl | rfl | rfl
                all_goals refine ⟨?_, ?_⟩
                all_goals try (simp [isMixD]; done)
                all_goals try (simp [isMixD, isPairB]; omega)
                all_goals try (simp [isMixD, isPairB, pairD]; done)
                all_goals repeat' (first | exact wild_int | exact wild_non | exact wild_bl | exact hwr _ | exact hwq _ | exact hwm _ | exact wild_str (by first | assumption | exact str_lay _) | refine wild_tup (by simp) ?_ | refine wild_ref (lget_k G.length rfl (lget_end rfl)) (by first | (simp; done) | (simp; omega)) ?_ | exact (wild_pairs hlen).2 | exact wl_nil | refine wl_cons ?_ ?_)
            · rintro sg S' ⟨os, G, j, hj, hos, hol, rfl, rfl⟩
              refine dSeq_cut (fun sg S' => ∃ (os : List D) (G : Sto) (j : Nat), (T ++ G)[j]? = some (.lst os) ∧ (∀ e ∈ os, oddM (T ++ G) e) ∧ os.length ≤ 68 ∧ sg = [some (.ref n), some (mixD m p ps q), some (.int (m : Int)), some (.int (p : Int)), some (.tup (ps.map pairD)), some (pairD q), some (.int (t : Int)), some (.int (rt.1 : Int)), some (.int (rt.2 : Int)), d9, some (.ref j), none] ∧ S' = T ++ G) (fun nx hnx => ?_) ?_
              · rw [hmx]
                walk_at "dz"
                repeat (refine ⟨by decide, ?_⟩)
                refine ⟨os, by rw [← List.append_assoc]; exact get_app hj, by rw [sl16]; omega, ?_⟩
                refine hnx _ _ ⟨_, _, T.length + (G.length + 2), get_k (G.length + 2) rfl (get_k 2 rfl rfl), fun e he => ?_, by simp; omega, rfl, rfl⟩
                rcases List.mem_append.mp he with he | he
                · rw [← List.append_assoc]
                  exact oddM_app _ (hos e he)
                · simp only [List.mem_cons, List.not_mem_nil, or_false] at he
                  rcases he with rfl | rfl | rfl | rfl | rfl | rfl | rfl | rfl
                  all_goals refine ⟨?_, ?_⟩
                  all_goals try (simp [isMixD]; done)
                  all_goals try (simp [isMixD, isPairB]; omega)
                  all_goals try (simp [isMixD, isPairB, pairD]; done)
                  all_goals repeat' (first | exact wild_int | exact wild_non | exact wild_bl | exact hwr _ | exact hwq _ | exact hwm _ | exact wild_str (by first | assumption | exact str_lay _) | refine wild_tup (by simp) ?_ | refine wild_ref (lget_k G.length rfl (lget_end rfl)) (by first | (simp; done) | (simp; omega)) ?_ | exact (wild_pairs hlen).2 | exact wl_nil | refine wl_cons ?_ ?_)
              · rintro sg S' ⟨os, G, j, hj, hos, hol, rfl, rfl⟩
                refine dSeq_cut (fun sg S' => ∃ (os : List D) (G : Sto) (j : Nat), (T ++ G)[j]? = some (.lst os) ∧ (∀ e ∈ os, oddM (T ++ G) e) ∧ os.length ≤ 71 ∧ sg = [some (.ref n), some (mixD m p ps q), some (.int (m : Int)), some (.int (p : Int)), some (.tup (ps.map pairD)), some (pairD q), some (.int (t : Int)), some (.int (rt.1 : Int)), some (.int (rt.2 : Int)), d9, some (.ref j), none] ∧ S' = T ++ G) (fun nx hnx => ?_) ?_
                · walk_at "dz"
                  repeat (refine ⟨by decide, ?_⟩)
                  refine ⟨os, by rw [← List.append_assoc]; exact get_app hj, by rw [sl16]; omega, ?_⟩
                  refine hnx _ _ ⟨_, _, T.length + (G.length + 1), get_k (G.length + 1) rfl (get_k 1 rfl rfl), fun e he => ?_, by simp; omega, rfl, rfl⟩
                  rcases List.mem_append.mp he with he | he
                  · rw [← List.append_assoc]
                    exact oddM_app _ (hos e he)
                  · simp only [List.mem_cons, List.not_mem_nil, or_false] at he
                    rcases he with rfl | rfl | rfl
                    all_goals refine ⟨?_, ?_⟩
                    all_goals try (simp [isMixD]; done)
                    all_goals try (simp [isMixD, isPairB]; omega)
                    all_goals try (simp [isMixD, isPairB, pairD]; done)
                    all_goals repeat' (first | exact wild_int | exact wild_non | exact wild_bl | exact hwr _ | exact hwq _ | exact hwm _ | exact wild_str (by first | assumption | exact str_lay _) | refine wild_tup (by simp) ?_ | refine wild_ref (lget_k G.length rfl (lget_end rfl)) (by first | (simp; done) | (simp; omega)) ?_ | exact (wild_pairs hlen).2 | exact wl_nil | refine wl_cons ?_ ?_)
                · rintro sg S' ⟨os, G, j, hj, hos, hol, rfl, rfl⟩
                  walk_at "dz"
                  repeat (refine ⟨by decide, ?_⟩)
                  refine ⟨os, by rw [← List.append_assoc]; exact get_app hj, by rw [sl16]; omega, ?_⟩
                  refine hfin _ _ _ (by omega) (get_k (G.length + 1) rfl (get_k 1 rfl rfl)) (by simp) (by simp; omega) fun e he => ?_
                  rcases List.mem_append.mp he with he | he
                  · rw [← List.append_assoc]
                    exact oddM_app _ (hos e he)
                  · simp only [List.mem_cons, List.not_mem_nil, or_false] at he
                    rcases he with rfl
                    all_goals refine ⟨?_, ?_⟩
                    all_goals try (simp [isMixD]; done)
                    all_goals try (simp [isMixD, isPairB]; omega)
                    all_goals try (simp [isMixD, isPairB, pairD]; done)
                    all_goals repeat' (first | exact wild_int | exact wild_non | exact wild_bl | exact hwr _ | exact hwq _ | exact hwm _ | exact wild_str (by first | assumption | exact str_lay _) | refine wild_tup (by simp) ?_ | refine wild_ref (lget_k G.length rfl (lget_end rfl)) (by first | (simp; done) | (simp; omega)) ?_ | exact (wild_pairs hlen).2 | exact wl_nil | refine wl_cons ?_ ?_)
end Q
open Q
local macro_rules | `(tactic| walk_at "dx") => `(tactic| try simp only [dSeq, dDrop, kDrop, dRet, dRetN, dIf, kIf, dNever, dNext, dBreak, dCont, dSet, kSet, dPar, kPar, dPar3, kPar3, dAug, kAug, dAsg, kAsg, gNm, gsNil, gsCons, gTp, gUl, gSb, kGs1, kGs2, rSet, dFor, kFor, dLc, dYes, wipeD, dRaise, kRaise, dTry, wTry, clrM, clrD, putD', dXv, kXv,
  dC, dVar, dUn, dOp, kOp1, kOp2, dTst, kB, dAnd, kAnd, dOr, kOr, dNot, kNot, dAndV, kAndV, dOrV, kOrV, dNotV, kNotV, dIfE, kIfE, dNil, dCons, kCons1, kCons2, dTup, kTup, dLst, kLst, dCall, kCall, spN, dCallK, kCK1, kCK2, pick, dMet, kM1, kM2, isLst, rApp, dSl, kSl1, kSl2, kSl3, rSl, dNoP, dPart, kPart,
  rAdd, rSub, rMul, rMulT, rInP, rFdiv, rMod, rPow, rShl, rShr, rAnd, rXor, rNeg, rEq, rNe, rLt, rLe, rGt, rGe, rIs, rIsNot, isNon, rIx, rIsi, rIsi2, isTy, spLen, spInt, spTuple, spAll, spAny, spMax, spMin, spAbs, spList, rIn, rNotIn, rIns, dRevL, kRev, dBack, kBack, dLc2, iEn, kEn, dSrtSet, kSrtSet, dChain, kCh1, kCh2, kCh3, iZp, kZp, dLenNew, dLenSet, kLenSet, kLenNew, dDicE, isDic, rDset, dDget, kDg1, kDg2, dDget2, kDh1, kDh2, kDh3, rDget, gDb, kGd1, kGd2, dStp, kSt0, kSt1, kSt2, spSumB, rDin, dBits, kBits, rDnin, spLenD, dAugS, kAs1, kAs2, kAs3, kAs4, rRem, rIdx, spStr, dJoin, kJoin1, kJoin2, rPop1, rPop0, rRev, dDc, dTupRg, kTupRg, dLstRg, kLstRg, iSq, iRg1, kRg1, iRg2, kRg2, rIAdd, endsD,
  isL_iff, atI0, atI1, atI2, get_at0, get_at, List.set_set, List.length_set, lget_at0, lget_at, lget_hd, lget_tl, set_at0, set_at, app1, List.nil_append, List.cons_append, List.length_cons, List.length_nil, List.length_append,
  List.getElem?_cons_zero, List.getElem?_cons_succ, List.set_cons_zero, List.set_cons_succ, List.getElem?_nil, List.filterMap_cons, List.filterMap_nil, List.append_nil,
  Option.some.injEq, O.lst.injEq, exists_eq_left', exists_eq_left, exists_eq', List.cons.injEq, D.int.injEq, D.bl.injEq, D.tup.injEq, D.ref.injEq, D.str.injEq, Int.natCast_inj, true_and, and_true, and_self, Nat.reduceAdd, Nat.zero_add, Bool.not_true, Bool.not_false, reduceCtorEq, forall_const, imp_self, not_true_eq_false, not_false_eq_true, false_implies, true_implies, implies_true, Bool.true_eq_false, Bool.false_eq_true, Bool.true_or, Bool.or_true, Bool.false_or, Bool.or_false, Bool.and_true, Bool.true_and, decide_eq_true_eq, decide_eq_false_iff_not, Bool.not_eq_true', Bool.not_eq_false', decide_true, decide_false, or_false, false_or, exists_false, exists_and_left, and_assoc])
local macro_rules | `(tactic| walk_at "dz") => `(tactic| try simp only [dDrop, kDrop, dRet, dRetN, dIf, kIf, dNever, dNext, dBreak, dCont, dSet, kSet, dPar, kPar, dPar3, kPar3, dAug, kAug, dAsg, kAsg, gNm, gsNil, gsCons, gTp, gUl, gSb, kGs1, kGs2, rSet, dFor, kFor, dLc, dYes, wipeD, dRaise, kRaise, dTry, wTry, clrM, clrD, putD', dXv, kXv,
  dC, dVar, dUn, dOp, kOp1, kOp2, dTst, kB, dAnd, kAnd, dOr, kOr, dNot, kNot, dAndV, kAndV, dOrV, kOrV, dNotV, kNotV, dIfE, kIfE, dNil, dCons, kCons1, kCons2, dTup, kTup, dLst, kLst, dCall, kCall, spN, dCallK, kCK1, kCK2, pick, dMet, kM1, kM2, isLst, rApp, dSl, kSl1, kSl2, kSl3, rSl, dNoP, dPart, kPart,
  rAdd, rSub, rMul, rMulT, rInP, rFdiv, rMod, rPow, rShl, rShr, rAnd, rXor, rNeg, rEq, rNe, rLt, rLe, rGt, rGe, rIs, rIsNot, isNon, rIx, rIsi, rIsi2, isTy, spLen, spInt, spTuple, spAll, spAny, spMax, spMin, spAbs, spList, rIn, rNotIn, rIns, dRevL, kRev, dBack, kBack, dLc2, iEn, kEn, dSrtSet, kSrtSet, dChain, kCh1, kCh2, kCh3, iZp, kZp, dLenNew, dLenSet, kLenSet, kLenNew, dDicE, isDic, rDset, dDget, kDg1, kDg2, dDget2, kDh1, kDh2, kDh3, rDget, gDb, kGd1, kGd2, dStp, kSt0, kSt1, kSt2, spSumB, rDin, dBits, kBits, rDnin, spLenD, dAugS, kAs1, kAs2, kAs3, kAs4, rRem, rIdx, spStr, dJoin, kJoin1, kJoin2, rPop1, rPop0, rRev, dDc, dTupRg, kTupRg, dLstRg, kLstRg, iSq, iRg1, kRg1, iRg2, kRg2, rIAdd, endsD,
  isL_iff, atI0, atI1, atI2, get_at0, get_at, List.set_set, List.length_set, lget_at0, lget_at, lget_hd, lget_tl, set_at0, set_at, app1, List.nil_append, List.cons_append, List.length_cons, List.length_nil, List.length_append,
  List.getElem?_cons_zero, List.getElem?_cons_succ, List.set_cons_zero, List.set_cons_succ, List.getElem?_nil, List.filterMap_cons, List.filterMap_nil, List.append_nil,
  Option.some.injEq, O.lst.injEq, exists_eq_left', exists_eq_left, exists_eq', List.cons.injEq, D.int.injEq, D.bl.injEq, D.tup.injEq, D.ref.injEq, D.str.injEq, Int.natCast_inj, true_and, and_true, and_self, Nat.reduceAdd, Nat.zero_add, Bool.not_true, Bool.not_false, reduceCtorEq, forall_const, imp_self, not_true_eq_false, not_false_eq_true, false_implies, true_implies, implies_true, Bool.true_eq_false, Bool.false_eq_true, Bool.true_or, Bool.or_true, Bool.false_or, Bool.or_false, Bool.and_true, Bool.true_and, decide_eq_true_eq, decide_eq_false_iff_not, Bool.not_eq_true', Bool.not_eq_false', decide_true, decide_false, or_false, false_or, exists_false, exists_and_left, and_assoc])
namespace Q
open PySem
open Spec PyProof.Rows L2
/-! ### values near filters (k35) -/
def sp__law_odd_filters : SpD := fun ds S k _ => ∃ (n a b c : Nat) (M : Msh), ds = [.ref n, M.d] ∧ M.Ok ∧ M.m ≤ 40 ∧ M.ps.length ≤ 12 ∧ S[n]? = some (wellO a b c) ∧ b < 2 ^ 100 ∧ c < 2 ^ 48 ∧
  ∀ (a' c' j : Nat) (os : List D) (G : Sto), c' ≤ c + 20 → S.length ≤ j → (S.set n (wellO a' b c') ++ G)[j]? = some (.lst os) → os ≠ [] → os.length ≤ 100 → (∀ e ∈ os, oddD (S.set n (wellO a' b c') ++ G) e) → k (.ref j) (S.set n (wellO a' b c') ++ G)
/-- _law_odd_filters(_law_well_here, _law_own); slots: 0 _law_well_here, 1 _law_own, 2 _law_mixing_here, 3 _law_w, 4 _law_table, 5 _law_at, 6 _law_words, 7 _law_found, 8 _law_word, 9 _law_zeros, 10 _law_odd, 11 _law_odds, 12 _law_turn -/
def t__law_odd_filters : TSD := (dSeq (dAsg (dVar 1) (gTp 3 (gsCons (gNm 2) (gsCons (gNm 3) (gsCons (gNm 4) gsNil))))) (dSeq (dSet 5 (dCall (spN 2 sp__law_dip) (dCons (dVar 0) (dCons (dCall spLen (dCons (dVar 4) dNil)) dNil)))) (dSeq (dSet 6 (dLst (dCons (dCall (spN 1 sp__law_power) (dCons (dVar 3) dNil)) (dCons (dUn rNeg (dC (.int 1))) (dCons (dC (.bl true)) (dCons (dC (.bl false)) (dCons (dC .non) (dCons (dC (.str "0")) (dCons (dTup (dCons (dC (.int 0)) dNil)) (dCons (dLst (dCons (dC (.int 0)) dNil)) (dCons (dOp rAdd (dCall (spN 1 sp__law_power) (dCons (dVar 3) dNil)) (dC (.int 5))) dNil))))))))))) (dSeq (dSet 7 (dLc (iSq (dVar 6)) (gNm 8) dYes (dTup (dCons (dVar 2) (dCons (dVar 3) (dCons (dCall (spN 3 sp__law_put) (dCons (dVar 4) (dCons (dVar 5) (dCons (dVar 8) dNil)))) dNil)))) [8])) (dSeq (dSet 7 (dOp rAdd (dVar 7) (dLst (dCons (dTup (dCons (dVar 2) (dCons (dVar 3) (dCons (dOp rAdd (dVar 4) (dTup (dCons (dC (.int 0)) dNil))) dNil)))) (dCons (dTup (dCons (dVar 2) (dCons (dVar 3) (dCons (dSl (dVar 4) dNoP (dPart (dUn rNeg (dC (.int 1))))) dNil)))) (dCons (dTup (dCons (dVar 2) (dCons (dVar 3) (dCons (dCall spList (dCons (dVar 4) dNil)) dNil)))) (dCons (dTup (dCons (dVar 2) (dCons (dVar 3) (dCons (dC .non) dNil)))) dNil))))))) (dSeq (dSet 7 (dOp rAdd (dVar 7) (dLst (dCons (dTup (dCons (dVar 2) (dCons (dVar 3) (dCons (dTup dNil) dNil)))) (dCons (dTup (dCons (dVar 2) (dCons (dVar 3) (dCons (dC (.int 0)) dNil)))) (dCons (dTup (dCons (dVar 2) (dCons (dVar 3) (dCons (dC (.str "table")) dNil)))) (dCons (dTup (dCons (dVar 2) (dCons (dVar 3) (dCons (dOp rAdd (dSl (dVar 4) dNoP (dPart (dVar 5))) (dSl (dVar 4) (dPart (dOp rAdd (dVar 5) (dC (.int 1)))) dNoP)) dNil)))) dNil))))))) (dSeq (dSet 9 (dOp rMulT (dTup (dCons (dC (.int 0)) dNil)) (dCall spLen (dCons (dVar 4) dNil)))) (dSeq (dSet 7 (dOp rAdd (dVar 7) (dLc (iSq (dLst (dCons (dC (.int 0)) (dCons (dUn rNeg (dC (.int 1))) (dCons (dC (.bl true)) (dCons (dC .non) (dCons (dC (.str "1")) (dCons (dTup (dCons (dC (.int 1)) dNil)) (dCons (dLst (dCons (dC (.int 1)) dNil)) dNil))))))))) (gNm 10) dYes (dTup (dCons (dVar 2) (dCons (dVar 10) (dCons (dVar 9) dNil)))) [10]))) (dSeq (dSet 7 (dOp rAdd (dVar 7) (dLst (dCons (dTup (dCons (dVar 2) (dCons (dVar 3) dNil))) (dCons (dTup (dCons (dVar 2) (dCons (dVar 3) (dCons (dVar 4) (dCons (dC (.int 0)) dNil))))) (dCons (dCall spList (dCons (dVar 1) dNil)) (dCons (dC .non) (dCons (dTup dNil) (dCons (dC (.str "filter")) (dCons (dC (.int 5)) (dCons (dTup (dCons (dVar 3) (dCons (dVar 2) (dCons (dVar 4) dNil)))) (dCons (dTup (dCons (dVar 1) dNil)) dNil)))))))))))) (dSeq (dSet 11 (dCall (spN 2 sp__law_odd_mixings) (dCons (dVar 0) (dCons (dVar 2) dNil)))) (dRet (dOp rAdd (dVar 7) (dLc (iRg1 (dCons (dC (.int 8)) dNil)) (gNm 12) dYes (dTup (dCons (dOp rIx (dVar 11) (dCall (spN 2 sp__law_dip) (dCons (dVar 0) (dCons (dCall spLen (dCons (dVar 11) dNil)) dNil)))) (dCons (dVar 3) (dCons (dVar 4) dNil)))) [12])))))))))))))

theorem set_id {S : Sto} {n : Nat} {o : O} (h : S[n]? = some o) : S.set n o = S := by
  refine List.ext_getElem? fun i => ?_
  by_cases e : n = i
  · subst e
    rw [List.getElem?_set_self (get_lt h), h]
  · rw [List.getElem?_set_ne e]
theorem oddD_app {S : Sto} (G : Sto) {e : D} (h : oddD S e) : oddD (S ++ G) e := ⟨wild_app G h.1, h.2⟩
theorem wild_well {S G : Sto} {n a b c a' c' : Nat} {o : O} (hd : S[n]? = some o) {L k : Nat} {d : D} (h : wild (S.set n (wellO a b c) ++ G) L k d) : wild (S.set n (wellO a' b c') ++ G) L k d := by
  refine wild_sto (fun j ds hj => ?_) h
  have hn := get_lt hd
  by_cases e : j = n
  · subst e
    exact .inr ⟨_, ⟨lget_app (lget_lst (get_set_self hd)), by simp⟩, fun e he => by
      simp only [List.mem_cons, List.not_mem_nil, or_false] at he
      rcases he with rfl | rfl | rfl <;> exact ⟨_, rfl⟩⟩
  · refine .inl ?_
    unfold lget at hj ⊢
    rw [← hj]
    congr 1
    rw [List.getElem?_append, List.getElem?_append, List.length_set, List.length_set, List.getElem?_set_ne (fun z => e z.symm), List.getElem?_set_ne (fun z => e z.symm)]
theorem oddD_well {S G : Sto} {n a b c a' c' : Nat} {o : O} (hd : S[n]? = some o) {d : D} (h : oddD (S.set n (wellO a b c) ++ G) d) : oddD (S.set n (wellO a' b c') ++ G) d := ⟨wild_well hd h.1, h.2⟩
theorem oddM_well {S G : Sto} {n a b c a' c' : Nat} {o : O} (hd : S[n]? = some o) {d : D} (h : oddM (S.set n (wellO a b c) ++ G) d) : oddM (S.set n (wellO a' b c') ++ G) d := ⟨wild_well hd h.1, h.2⟩
def smallL (tb : List D) : Prop := ∀ e ∈ tb, ∀ i, e = .int i → i < 2 ^ 100000
theorem smallT_of {a b : D} {tb : List D} (h : smallL tb) : smallT (.tup [a, b, .tup tb]) := fun a' b' tb' e => by
  simp only [D.tup.injEq, List.cons.injEq, and_true] at e
  obtain ⟨_, _, rfl⟩ := e
  exact h
theorem smallL_app {a b : List D} (h1 : smallL a) (h2 : smallL b) : smallL (a ++ b) := fun e he => by
  rcases List.mem_append.mp he with he | he
  · exact h1 e he
  · exact h2 e he
theorem smallL_nil : smallL [] := fun _ h => nomatch h
theorem smallL_cons {d : D} {b : List D} (h1 : ∀ i, d = .int i → i < 2 ^ 100000) (h2 : smallL b) : smallL (d :: b) := fun e he => by
  rcases List.mem_cons.mp he with rfl | he
  · exact h1
  · exact h2 e he
theorem small_int {i : Int} (h : i < 2 ^ 70) : i < 2 ^ 100000 := Int.lt_of_lt_of_le h (by exact_mod_cast Nat.pow_le_pow_right (n := 2) (by decide) (show 70 ≤ 100000 by decide))
theorem smallL_nats {l : List Nat} (h : ∀ c ∈ l, c < 2 ^ 60) : smallL (natsD l) := fun e he i hi => by
  obtain ⟨c, hc, rfl⟩ := List.mem_map.mp he
  cases hi
  have := h c hc
  exact small_int (by omega)
theorem wild_msh7 {S : Sto} {M : Msh} (hM : M.Ok) (h40 : M.m ≤ 40) (hl : M.ps.length ≤ 12) : wild S 1000 5 M.d := wild_tup (by simp) (wl_cons (wild_mixN (n := 1) (by omega) (by decide)) (wl_cons wild_int (wl_cons (wild_tup (by rw [List.length_map, hM.len]; omega) fun e he => by
  obtain ⟨c, _, rfl⟩ := List.mem_map.mp he
  exact wild_int) wl_nil)))
def oddW (w : Nat) (S : Sto) (e : D) : Prop := wild S 1000 4 e ∧ isWordD w e = false ∧ ∀ i, e = .int i → i < 2 ^ 100000
theorem oddW_app {w : Nat} {S : Sto} (G : Sto) {e : D} (h : oddW w S e) : oddW w (S ++ G) e := ⟨wild_app G h.1, h.2⟩
theorem k__law_odd_filters : Keeps 2 13 t__law_odd_filters sp__law_odd_filters := by
  intro ds S k x hl cS cd h
  obtain ⟨n, a, b, c, M, rfl, hM, hm40, hlen, hd, hb, hc, h⟩ := h
  show t__law_odd_filters (endsD S.length k x) [some (.ref n), some M.d, none, none, none, none, none, none, none, none, none, none, none] S
  have w1 := hM.w1
  have w2 := hM.w2
  have m1 := hM.mix.m1
  have hpw : 2 ^ M.w ≤ 2 ^ 60 := Nat.pow_le_pow_right (by decide) w2
  have hMd : M.d = .tup [mixD M.m M.p M.ps M.q, .int (M.w : Int), .tup (natsD M.tb)] := rfl
  have htl : (natsD M.tb).length = M.m := by rw [List.length_map, hM.len]
  simp only [t__law_odd_filters]
  refine dSeq_go ?_
  rw [hMd]
  walk_at "dz"
  rw [← hMd]
  refine dSeq_go ?_
  walk_at "dz"
  rw [htl]
  refine ⟨n, a, b, c, M.m, rfl, m1, Nat.lt_of_le_of_lt hm40 (by decide), hd, hb, by omega, fun t a1 c1 ht hc1 => ?_⟩
  walk_at "dz"
  have hSl : (S.set n (wellO a1 b c1)).length = S.length := List.length_set
  have hd1 : (S.set n (wellO a1 b c1))[n]? = some (wellO a1 b c1) := get_set_self hd
  have hset : ∀ a' c', (S.set n (wellO a1 b c1)).set n (wellO a' b c') = S.set n (wellO a' b c') := fun a' c' => List.set_set ..
  generalize S.set n (wellO a1 b c1) = T at hSl hd1 hset
  have hwt : ∀ X, wild X 1000 5 (.tup (natsD M.tb)) := fun X => wild_tup (by rw [htl]; omega) fun e he => by
    obtain ⟨c, _, rfl⟩ := List.mem_map.mp he
    exact wild_int
  have hwe : ∀ X n, ∀ e ∈ natsD M.tb, wild X 1000 n e := fun X n e he => by
    obtain ⟨c, _, rfl⟩ := List.mem_map.mp he
    exact wild_int
  have hwm : ∀ X, wild X 1000 5 (mixD M.m M.p M.ps M.q) := fun X => wild_mixN (n := 2) (by omega) (by decide)
  have hst : smallL (natsD M.tb) := smallL_nats fun c hc => Nat.lt_of_lt_of_le (hM.lt c hc) hpw
  have hmt : isMixD (mixD M.m M.p M.ps M.q) = true := isMix_of hM.mix
  have hm0 : m0D (mixD M.m M.p M.ps M.q) = (M.m : Int) := rfl
  have hwM : ∀ X, wild X 1000 5 M.d := fun X => wild_msh7 hM hm40 hlen
  generalize hmx : mixD M.m M.p M.ps M.q = mx at hwm hmt hm0 hMd
  generalize natsD M.tb = tb at hwt hwe hst htl hMd
  have hpI : ((2 ^ M.w : Nat) : Int) ≤ 2 ^ 60 := by exact_mod_cast hpw
  have hLen : ∀ l : List D, l.length ≠ M.m → isMeshD (.tup [mx, .int (M.w : Int), .tup l]) = false := fun l hl => by
    show (isMixD mx && (_ && (decide ((l.length : Int) = m0D mx) && _))) = false
    rw [hm0, decide_eq_false (p := (l.length : Int) = (M.m : Int)) (by omega)]
    simp
  have noT : ∀ d : D, (∀ a b tb, d ≠ .tup [a, b, .tup tb]) → smallT d := fun d hd a b tb e => absurd e (hd a b tb)
  have hcut : cutD tb none (some (-1)) = tb.dropLast := by
    have hne : tb ≠ [] := fun z => by rw [z] at htl; simp at htl; omega
    conv => lhs; rw [← List.dropLast_concat_getLast hne]
    rw [cut_init]
  have hsub : ∀ l : List D, (∀ e ∈ l, e ∈ tb) → l.length ≤ 1000 → (∀ X, wild X 1000 5 (.tup l)) ∧ smallL l := fun l h1 h2 => ⟨fun X => wild_tup h2 fun e he => hwe _ _ e (h1 e he), fun e he => hst e (h1 e he)⟩
  have st0 : (PyData.str (Str.ofString "0")).canLay0 = true := by decide +kernel
  have st1 : (PyData.str (Str.ofString "1")).canLay0 = true := by decide +kernel
  have st2 : (PyData.str (Str.ofString "table")).canLay0 = true := by decide +kernel
  have st3 : (PyData.str (Str.ofString "filter")).canLay0 = true := by decide +kernel
  refine dSeq_cut (fun sg S' => ∃ (ws : List D) (G : Sto) (j : Nat), (T ++ G)[j]? = some (.lst ws) ∧ (∀ e ∈ ws, oddW M.w (T ++ G) e) ∧ ws.length ≤ 9 ∧ sg = [some (.ref n), some M.d, some mx, some (.int (M.w : Int)), some (.tup tb), some (.int (t : Int)), some (.ref j), none, none, none, none, none, none] ∧ S' = T ++ G) (fun nx hnx => ?_) ?_
  · walk_at "dz"
    refine ⟨M.w, rfl, by omega, ?_⟩
    walk_at "dz"
    refine ⟨by decide, by decide, M.w, rfl, by omega, ?_⟩
    walk_at "dz"
    have hl0 : ∀ X : Sto, lget (T ++ O.lst [D.int 0] :: X) T.length = some [D.int 0] := fun X => lget_k 0 rfl rfl
    refine ⟨by decide, hnx _ _ ⟨_, _, T.length + 1, get_k 1 rfl rfl, fun e he => ?_, by simp, rfl, rfl⟩⟩
    simp only [List.mem_cons, List.not_mem_nil, or_false] at he
    have hW : isWordD M.w (.int ((2 ^ M.w : Nat) : Int)) = false ∧ isWordD M.w (.int (((2 ^ M.w : Nat) : Int) + 5)) = false := by
      refine ⟨decide_eq_false fun z => ?_, decide_eq_false fun z => ?_⟩
      · have := z.2
        push_cast at this
        omega
      · have := z.2
        push_cast at this
        omega
    rcases he with rfl | rfl | rfl | rfl | rfl | rfl | rfl | rfl | rfl
    · exact ⟨wild_int, hW.1, fun i hi => by cases hi; exact small_int (by omega)⟩
    · exact ⟨wild_int, rfl, fun i hi => by cases hi; exact small_int (by omega)⟩
    · exact ⟨wild_bl, rfl, fun i hi => nomatch hi⟩
    · exact ⟨wild_bl, rfl, fun i hi => nomatch hi⟩
    · exact ⟨wild_non, rfl, fun i hi => nomatch hi⟩
    · exact ⟨wild_str st0, rfl, fun i hi => nomatch hi⟩
    · exact ⟨wild_tup (by simp) (wl_cons wild_int wl_nil), rfl, fun i hi => nomatch hi⟩
    · exact ⟨wild_ref (hl0 _) (by simp) (wl_cons wild_int wl_nil), rfl, fun i hi => nomatch hi⟩
    · exact ⟨wild_int, hW.2, fun i hi => by cases hi; exact small_int (by omega)⟩
  · rintro sg S' ⟨ws, G, j6, hj6, hws, hwl, rfl, rfl⟩
    refine dSeq_cut (fun sg S' => ∃ (os : List D) (G : Sto) (j : Nat) (d6 d8 d9 d11 : Option D), (T ++ G)[j]? = some (.lst os) ∧ (∀ e ∈ os, oddD (T ++ G) e) ∧ os.length ≤ 9 ∧ sg = [some (.ref n), some M.d, some mx, some (.int (M.w : Int)), some (.tup tb), some (.int (t : Int)), d6, some (.ref j), d8, d9, none, d11, none] ∧ S' = T ++ G) (fun nx hnx => ?_) ?_
    · walk_at "dz"
      refine ⟨ws, lget_lst hj6, lc_map (fun e => .tup [mx, .int (M.w : Int), .tup (tb.take t ++ e :: tb.drop (t + 1))]) (fun e he acc kk hk => ?_) (fun acc => lget_lst (get_app hj6)) (by show ws.length ≤ _; rw [sl16]; omega) ?_⟩
      · walk_at "dz"
        refine ⟨tb, t, e, rfl, by omega, by omega, ?_⟩
        walk_at "dz"
        refine ⟨by decide, ?_⟩
        simpa only [List.append_assoc, List.cons_append, List.nil_append] using hk
      · walk_at "dz"
        refine hnx _ _ ⟨_, _, T.length + G.length, _, _, _, _, get_k G.length rfl get_at0, fun e he => ?_, by rw [List.length_map]; exact hwl, rfl, rfl⟩
        obtain ⟨o, ho, rfl⟩ := List.mem_map.mp he
        rw [← List.append_assoc]
        refine oddD_app _ ?_
        obtain ⟨o1, o2, o3⟩ := hws o ho
        refine ⟨wild_tup (by simp) (wl_cons (hwm _) (wl_cons wild_int (wl_cons (wild_tup ?_ fun d hd => ?_) wl_nil))), smallT_of (smallL_app (fun d hd => hst d (List.mem_of_mem_take hd)) (smallL_cons o3 fun d hd => hst d (List.mem_of_mem_drop hd))), ?_⟩
        · rw [List.length_append, List.length_cons, List.length_take, List.length_drop]
          omega
        · rcases List.mem_append.mp hd with hd | hd
          · exact hwe _ _ d (List.mem_of_mem_take hd)
          · rcases List.mem_cons.mp hd with rfl | hd
            · exact wild_mono (Nat.le_refl _) (by decide) o1
            · exact hwe _ _ d (List.mem_of_mem_drop hd)
        · show (isMixD mx && (_ && (_ && (tb.take t ++ o :: tb.drop (t + 1)).all (isWordD ((M.w : Int)).toNat)))) = false
          rw [Int.toNat_natCast, List.all_append, List.all_cons, o2]
          simp
    · rintro sg S' ⟨os, G, j, d6, d8, d9, d11, hj, hos, hol, rfl, rfl⟩
      refine dSeq_cut (fun sg S' => ∃ (os : List D) (G : Sto) (j : Nat), (T ++ G)[j]? = some (.lst os) ∧ (∀ e ∈ os, oddD (T ++ G) e) ∧ os.length ≤ 13 ∧ sg = [some (.ref n), some M.d, some mx, some (.int (M.w : Int)), some (.tup tb), some (.int (t : Int)), d6, some (.ref j), d8, d9, none, d11, none] ∧ S' = T ++ G) (fun nx hnx => ?_) ?_
      · walk_at "dz"
        rw [hcut]
        refine ⟨by decide, by rw [sl16]; omega, by decide, by decide, by decide, by decide, by decide, os, by rw [← List.append_assoc]; exact get_app hj, by rw [sl16]; omega, hnx _ _ ⟨_, _, T.length + (G.length + 2), get_k (G.length + 2) rfl (get_k 2 rfl rfl), fun e he => ?_, by simp; omega, rfl, rfl⟩⟩
        rcases List.mem_append.mp he with he | he
        · rw [← List.append_assoc]
          exact oddD_app _ (hos e he)
        · simp only [List.mem_cons, List.not_mem_nil, or_false] at he
          rcases he with rfl | rfl | rfl | rfl
          · refine ⟨wild_tup (by simp) (wl_cons (hwm _) (wl_cons wild_int (wl_cons (wild_tup (by rw [List.length_append, List.length_singleton]; omega) fun d hd => ?_) wl_nil))), smallT_of (smallL_app hst (smallL_cons (fun i hi => by cases hi; exact small_int (by omega)) smallL_nil)), hLen _ (by rw [List.length_append, List.length_singleton]; omega)⟩
            rcases List.mem_append.mp hd with hd | hd
            · exact hwe _ _ d hd
            · rw [List.mem_singleton.mp hd]
              exact wild_int
          · obtain ⟨q1, q2⟩ := hsub tb.dropLast (fun e he => List.dropLast_subset _ he) (by rw [List.length_dropLast]; omega)
            exact ⟨wild_tup (by simp) (wl_cons (hwm _) (wl_cons wild_int (wl_cons (q1 _) wl_nil))), smallT_of q2, hLen _ (by rw [List.length_dropLast]; omega)⟩
          · refine ⟨?_, noT _ (by simp), rfl⟩
            repeat' (first | exact wild_int | exact wild_non | exact wild_bl | exact hwt _ | exact hwm _ | exact hwM _ | exact hwe _ _ | exact wild_str (by assumption) | refine wild_ref (lget_k G.length rfl (lget_end rfl)) (by first | (simp; done) | (simp; omega) | omega) ?_ | refine wild_tup (by simp) ?_ | exact wl_nil | refine wl_cons ?_ ?_)
          · refine ⟨?_, noT _ (by simp), rfl⟩
            repeat' (first | exact wild_int | exact wild_non | exact wild_bl | exact hwt _ | exact hwm _ | exact hwM _ | exact hwe _ _ | exact wild_str (by assumption) | refine wild_ref (lget_k G.length rfl (lget_end rfl)) (by first | (simp; done) | (simp; omega) | omega) ?_ | refine wild_tup (by simp) ?_ | exact wl_nil | refine wl_cons ?_ ?_)
      · rintro sg S' ⟨os, G, j, hj, hos, hol, rfl, rfl⟩
        refine dSeq_cut (fun sg S' => ∃ (os : List D) (G : Sto) (j : Nat), (T ++ G)[j]? = some (.lst os) ∧ (∀ e ∈ os, oddD (T ++ G) e) ∧ os.length ≤ 17 ∧ sg = [some (.ref n), some M.d, some mx, some (.int (M.w : Int)), some (.tup tb), some (.int (t : Int)), d6, some (.ref j), d8, d9, none, d11, none] ∧ S' = T ++ G) (fun nx hnx => ?_) ?_
        · walk_at "dz"
          rw [cut_take, show (t : Int) + 1 = ((t + 1 : Nat) : Int) by omega, cut_drop]
          have hcl : (tb.take t).length + (tb.drop (t + 1)).length = M.m - 1 := by
            rw [List.length_take, List.length_drop]
            omega
          refine ⟨by decide, by decide, by decide, by decide, by rw [sl16]; omega, by decide, by decide, os, by rw [← List.append_assoc]; exact get_app hj, by rw [sl16]; omega, hnx _ _ ⟨_, _, T.length + (G.length + 1), get_k (G.length + 1) rfl (get_k 1 rfl rfl), fun e he => ?_, by simp; omega, rfl, rfl⟩⟩
          rcases List.mem_append.mp he with he | he
          · rw [← List.append_assoc]
            exact oddD_app _ (hos e he)
          · simp only [List.mem_cons, List.not_mem_nil, or_false] at he
            rcases he with rfl | rfl | rfl | rfl
            · refine ⟨?_, smallT_of smallL_nil, hLen _ (by simp; omega)⟩
              repeat' (first | exact wild_int | exact wild_non | exact wild_bl | exact hwt _ | exact hwm _ | exact hwM _ | exact hwe _ _ | exact wild_str (by assumption) | refine wild_ref (lget_k G.length rfl (lget_end rfl)) (by first | (simp; done) | (simp; omega) | omega) ?_ | refine wild_tup (by simp) ?_ | exact wl_nil | refine wl_cons ?_ ?_)
            · refine ⟨?_, noT _ (by simp), rfl⟩
              repeat' (first | exact wild_int | exact wild_non | exact wild_bl | exact hwt _ | exact hwm _ | exact hwM _ | exact hwe _ _ | exact wild_str (by assumption) | refine wild_ref (lget_k G.length rfl (lget_end rfl)) (by first | (simp; done) | (simp; omega) | omega) ?_ | refine wild_tup (by simp) ?_ | exact wl_nil | refine wl_cons ?_ ?_)
            · refine ⟨?_, noT _ (by simp), rfl⟩
              repeat' (first | exact wild_int | exact wild_non | exact wild_bl | exact hwt _ | exact hwm _ | exact hwM _ | exact hwe _ _ | exact wild_str (by assumption) | refine wild_ref (lget_k G.length rfl (lget_end rfl)) (by first | (simp; done) | (simp; omega) | omega) ?_ | refine wild_tup (by simp) ?_ | exact wl_nil | refine wl_cons ?_ ?_)
            · obtain ⟨q1, q2⟩ := hsub (tb.take t ++ tb.drop (t + 1)) (fun e he => by
                rcases List.mem_append.mp he with he | he
                · exact List.mem_of_mem_take he
                · exact List.mem_of_mem_drop he) (by rw [List.length_append]; omega)
              exact ⟨wild_tup (by simp) (wl_cons (hwm _) (wl_cons wild_int (wl_cons (q1 _) wl_nil))), smallT_of q2, hLen _ (by rw [List.length_append]; omega)⟩
        · rintro sg S' ⟨os, G, j, hj, hos, hol, rfl, rfl⟩
          refine dSeq_go ?_
          walk_at "dz"
          refine ⟨by decide, by simp, by omega, by omega, by decide, ?_⟩
          refine dSeq_cut (fun sg S' => ∃ (os : List D) (G : Sto) (j : Nat) (d9 : Option D), (T ++ G)[j]? = some (.lst os) ∧ (∀ e ∈ os, oddD (T ++ G) e) ∧ os.length ≤ 24 ∧ sg = [some (.ref n), some M.d, some mx, some (.int (M.w : Int)), some (.tup tb), some (.int (t : Int)), d6, some (.ref j), d8, d9, none, d11, none] ∧ S' = T ++ G) (fun nx hnx => ?_) ?_
          · walk_at "dz"
            have ez : (List.replicate ((tb.length : Int)).toNat [D.int 0]).flatten = List.replicate tb.length (.int 0) := by
              rw [Int.toNat_natCast]
              generalize tb.length = u
              induction u with
              | zero => rfl
              | succ u ih => rw [List.replicate_succ, List.flatten_cons, ih]; rfl
            rw [ez]
            have hz : ∀ e ∈ List.replicate tb.length (D.int 0), e = .int 0 := fun e he => (List.mem_replicate.mp he).2
            have hzl : (List.replicate tb.length (D.int 0)).length = M.m := by rw [List.length_replicate, htl]
            generalize List.replicate tb.length (D.int 0) = zs at hz hzl
            refine ⟨by decide, by decide, by decide, lc_map (fun e => .tup [mx, e, .tup zs]) (fun e he acc kk hk => ?_) (fun acc => lget_app (lget_k (G.length + 1) rfl (lget_k 1 rfl rfl))) (by show 7 ≤ sizeLine; decide) ?_⟩
            · walk_at "dz"
              refine ⟨by decide, ?_⟩
              simpa only [List.append_assoc, List.cons_append, List.nil_append] using hk
            · walk_at "dz"
              refine ⟨os, by rw [← List.append_assoc]; exact get_app hj, by simp only [List.length_map, List.length_cons, List.length_nil]; rw [sl16]; omega, ?_⟩
              refine hnx _ _ ⟨_, _, T.length + (G.length + 3), _, get_k (G.length + 3) rfl (get_k 3 rfl rfl), fun e he => ?_, by simp; omega, rfl, rfl⟩
              have hwz : ∀ X, wild X 1000 5 (.tup zs) := fun X => wild_tup (by omega) fun e he => by
                rw [hz e he]
                exact wild_int
              have hsz : smallL zs := fun e he i hi => by
                rw [hz e he] at hi
                cases hi
                exact small_int (by omega)
              rcases List.mem_append.mp he with he | he
              · rw [← List.append_assoc]
                exact oddD_app _ (hos e he)
              · simp only [List.map_cons, List.map_nil, List.mem_cons, List.not_mem_nil, or_false] at he
                rcases he with rfl | rfl | rfl | rfl | rfl | rfl | rfl
                all_goals refine ⟨?_, smallT_of hsz, ?_⟩
                all_goals try rfl
                all_goals try (simp [isMeshD]; done)
                all_goals repeat' (first | exact wild_int | exact wild_non | exact wild_bl | exact hwt _ | exact hwz _ | exact hwm _ | exact hwM _ | exact hwe _ _ | exact wild_str (by assumption) | refine wild_ref (lget_k G.length rfl (lget_end rfl)) (by first | (simp; done) | (simp; omega) | omega) ?_ | refine wild_tup (by simp) ?_ | exact wl_nil | refine wl_cons ?_ ?_)
          · rintro sg S' ⟨os, G, j, d9, hj, hos, hol, rfl, rfl⟩
            refine dSeq_cut (fun sg S' => ∃ (os : List D) (G : Sto) (j : Nat), (T ++ G)[j]? = some (.lst os) ∧ (∀ e ∈ os, oddD (T ++ G) e) ∧ T.length ≤ j ∧ os.length ≤ 33 ∧ sg = [some (.ref n), some M.d, some mx, some (.int (M.w : Int)), some (.tup tb), some (.int (t : Int)), d6, some (.ref j), d8, d9, none, d11, none] ∧ S' = T ++ G) (fun nx hnx => ?_) ?_
            · rw [hMd]
              walk_at "dz"
              rw [← hMd]
              refine ⟨by decide, by decide, by decide, by decide, by decide, by decide, os, by rw [← List.append_assoc]; exact get_app hj, by rw [sl16]; omega, hnx _ _ ⟨_, _, T.length + (G.length + 2), get_k (G.length + 2) rfl (get_k 2 rfl rfl), fun e he => ?_, by omega, by simp; omega, rfl, rfl⟩⟩
              rcases List.mem_append.mp he with he | he
              · rw [← List.append_assoc]
                exact oddD_app _ (hos e he)
              · simp only [List.mem_cons, List.not_mem_nil, or_false] at he
                rcases he with rfl | rfl | rfl | rfl | rfl | rfl | rfl | rfl | rfl
                · exact ⟨by repeat' (first | exact wild_int | exact wild_non | exact wild_bl | exact hwt _ | exact hwm _ | exact hwM _ | exact hwe _ _ | exact wild_str (by assumption) | refine wild_ref (lget_k G.length rfl (lget_end rfl)) (by first | (simp; done) | (simp; omega) | omega) ?_ | refine wild_tup (by simp) ?_ | exact wl_nil | refine wl_cons ?_ ?_), noT _ (by simp), rfl⟩
                · exact ⟨by repeat' (first | exact wild_int | exact wild_non | exact wild_bl | exact hwt _ | exact hwm _ | exact hwM _ | exact hwe _ _ | exact wild_str (by assumption) | refine wild_ref (lget_k G.length rfl (lget_end rfl)) (by first | (simp; done) | (simp; omega) | omega) ?_ | refine wild_tup (by simp) ?_ | exact wl_nil | refine wl_cons ?_ ?_), noT _ (by simp), rfl⟩
                · exact ⟨by repeat' (first | exact wild_int | exact wild_non | exact wild_bl | exact hwt _ | exact hwm _ | exact hwM _ | exact hwe _ _ | exact wild_str (by assumption) | refine wild_ref (lget_k G.length rfl (lget_end rfl)) (by first | (simp; done) | (simp; omega) | omega) ?_ | refine wild_tup (by simp) ?_ | exact wl_nil | refine wl_cons ?_ ?_), noT _ (by simp), rfl⟩
                · exact ⟨by repeat' (first | exact wild_int | exact wild_non | exact wild_bl | exact hwt _ | exact hwm _ | exact hwM _ | exact hwe _ _ | exact wild_str (by assumption) | refine wild_ref (lget_k G.length rfl (lget_end rfl)) (by first | (simp; done) | (simp; omega) | omega) ?_ | refine wild_tup (by simp) ?_ | exact wl_nil | refine wl_cons ?_ ?_), noT _ (by simp), rfl⟩
                · exact ⟨by repeat' (first | exact wild_int | exact wild_non | exact wild_bl | exact hwt _ | exact hwm _ | exact hwM _ | exact hwe _ _ | exact wild_str (by assumption) | refine wild_ref (lget_k G.length rfl (lget_end rfl)) (by first | (simp; done) | (simp; omega) | omega) ?_ | refine wild_tup (by simp) ?_ | exact wl_nil | refine wl_cons ?_ ?_), noT _ (by simp), rfl⟩
                · exact ⟨by repeat' (first | exact wild_int | exact wild_non | exact wild_bl | exact hwt _ | exact hwm _ | exact hwM _ | exact hwe _ _ | exact wild_str (by assumption) | refine wild_ref (lget_k G.length rfl (lget_end rfl)) (by first | (simp; done) | (simp; omega) | omega) ?_ | refine wild_tup (by simp) ?_ | exact wl_nil | refine wl_cons ?_ ?_), noT _ (by simp), rfl⟩
                · exact ⟨by repeat' (first | exact wild_int | exact wild_non | exact wild_bl | exact hwt _ | exact hwm _ | exact hwM _ | exact hwe _ _ | exact wild_str (by assumption) | refine wild_ref (lget_k G.length rfl (lget_end rfl)) (by first | (simp; done) | (simp; omega) | omega) ?_ | refine wild_tup (by simp) ?_ | exact wl_nil | refine wl_cons ?_ ?_), noT _ (by simp), rfl⟩
                · refine ⟨by repeat' (first | exact wild_int | exact wild_non | exact wild_bl | exact hwt _ | exact hwm _ | exact hwM _ | exact hwe _ _ | exact wild_str (by assumption) | refine wild_ref (lget_k G.length rfl (lget_end rfl)) (by first | (simp; done) | (simp; omega) | omega) ?_ | refine wild_tup (by simp) ?_ | exact wl_nil | refine wl_cons ?_ ?_), smallT_of hst, ?_⟩
                  unfold isMeshD
                  rw [← hmx]
                  rfl
                · exact ⟨by repeat' (first | exact wild_int | exact wild_non | exact wild_bl | exact hwt _ | exact hwm _ | exact hwM _ | exact hwe _ _ | exact wild_str (by assumption) | refine wild_ref (lget_k G.length rfl (lget_end rfl)) (by first | (simp; done) | (simp; omega) | omega) ?_ | refine wild_tup (by simp) ?_ | exact wl_nil | refine wl_cons ?_ ?_), noT _ (by simp), rfl⟩
            · rintro sg S' ⟨os, G, j, hj, hos, hjT, hol, rfl, rfl⟩
              refine dSeq_go ?_
              walk_at "dz"
              refine ⟨n, a1, b, c1, M.m, M.p, M.ps, M.q, by rw [hmx], hM.mix, hlen, get_app hd1, hb, by omega, fun a2 c2 j2 os2 G2 hc2 hjT2 hj2 hne2 hol2 hos2 => ?_⟩
              walk_at "dz"
              rw [set_app (get_lt hd1), hset] at hj2 hos2 ⊢
              have hos : ∀ e ∈ os, oddD (S.set n (wellO a2 b c2) ++ (G ++ G2)) e := fun e he => by
                rw [← List.append_assoc, ← hset]
                refine oddD_app G2 (oddD_well (a := a1) (c := c1) hd1 ?_)
                rw [set_id hd1]
                exact hos e he
              rw [List.append_assoc] at hj2 hos2 ⊢
              have hnT := get_lt hd1
              have hget : ∀ (a' c' : Nat) (X : Sto) (i : Nat) (o : O), n < i → (S.set n (wellO a2 b c2) ++ (G ++ G2))[i]? = some o → (S.set n (wellO a' b c') ++ (G ++ (G2 ++ X)))[i]? = some o := fun a' c' X i o hi h => by
                rw [← List.append_assoc G, ← List.append_assoc]
                refine get_app ?_
                generalize G ++ G2 = Y at h ⊢
                rw [← h]
                by_cases hiS : i < S.length
                · rw [List.getElem?_append_left (by rw [List.length_set]; exact hiS), List.getElem?_append_left (by rw [List.length_set]; exact hiS), List.getElem?_set_ne (by omega), List.getElem?_set_ne (by omega)]
                · rw [List.getElem?_append_right (by rw [List.length_set]; omega), List.getElem?_append_right (by rw [List.length_set]; omega), List.length_set, List.length_set]
              have hjo : (S.set n (wellO a2 b c2) ++ (G ++ G2))[j]? = some (.lst os) := by
                have h1 : (T ++ G ++ G2)[j]? = some (.lst os) := get_app hj
                rw [← h1, List.append_assoc, List.getElem?_append_right hjT, List.getElem?_append_right (by rw [List.length_set]; omega), List.length_set, hSl]
              have hwell : ∀ (a' c' : Nat) (X : Sto), (∀ e ∈ os, oddD (S.set n (wellO a' b c') ++ (G ++ (G2 ++ X))) e) ∧ ∀ e ∈ os2, oddM (S.set n (wellO a' b c') ++ (G ++ (G2 ++ X))) e := fun a' c' X => by
                rw [← List.append_assoc G, ← List.append_assoc]
                exact ⟨fun e he => oddD_app X (oddD_well hd (hos e he)), fun e he => oddM_app X (oddM_well hd (hos2 e he))⟩
              refine ⟨by decide, by decide, lc_ind (fun items acc T' => ∃ (a' c' : Nat), items.length + acc.length = 8 ∧ c' ≤ c2 + acc.length ∧ (∀ e ∈ acc, oddD (S.set n (wellO a' b c') ++ (G ++ G2)) e) ∧ T' = S.set n (wellO a' b c') ++ (G ++ (G2 ++ [.lst acc]))) ⟨a2, c2, by simp, by simp, fun e he => (nomatch he), by simp only [List.append_assoc]⟩ ?_ ?_⟩
              · rintro acc T' ⟨a', c', hil, hc', hacc, rfl⟩
                refine ⟨trivial, ?_⟩
                walk_at "dz"
                rw [List.length_nil, Nat.zero_add] at hil
                refine ⟨os, hget a' c' _ j _ (by omega) hjo, acc, get_k (G.length + G2.length) (by rw [List.length_set]) (by rw [← List.append_assoc, ← List.length_append]; exact get_at0), by rw [sl16]; omega, ?_⟩
                refine wk_now (h a' c' _ (os ++ acc) _ (by omega) (by omega) (get_k (G.length + (G2.length + 1)) (by rw [List.length_set]) (get_k (G2.length + 1) rfl (get_k 1 rfl rfl))) (fun z => ?_) (by rw [List.length_append]; omega) fun e he => ?_)
                · have := congrArg List.length z
                  rw [List.length_append, List.length_nil] at this
                  omega
                · rcases List.mem_append.mp he with he | he
                  · exact (hwell a' c' _).1 e he
                  · have := oddD_app [.lst acc, .lst (os ++ acc)] (hacc e he)
                    simpa only [List.append_assoc, List.cons_append, List.nil_append] using this
              · rintro d rest acc T' kk ⟨a', c', hil, hc', hacc, rfl⟩ hkk
                rw [List.length_cons] at hil
                refine ⟨trivial, ?_⟩
                walk_at "dz"
                refine ⟨os2, lget_lst (hget a' c' _ j2 _ (by rw [List.length_append] at hjT2; omega) hj2), n, a', b, c', os2.length, rfl, List.length_pos_iff.mpr hne2, Nat.lt_of_le_of_lt hol2 (by decide), get_app (get_set_self hd), hb, by omega, fun r a3 c3 hr hc3 => ?_⟩
                rw [set_app (by rw [List.length_set]; omega), List.set_set]
                walk_at "dz"
                refine ⟨os2, lget_lst (hget a3 c3 _ j2 _ (by rw [List.length_append] at hjT2; omega) hj2), os2[r], atI_nat (List.getElem?_eq_getElem hr), ?_⟩
                have ho2 : oddM (S.set n (wellO a3 b c3) ++ (G ++ G2)) os2[r] := oddM_well hd (hos2 _ (List.getElem_mem hr))
                generalize os2[r] = o2 at ho2 ⊢
                walk_at "dz"
                refine ⟨by decide, hkk _ _ (get_k (G.length + G2.length) (by simp only [List.length_append, List.length_set]) (by rw [← List.append_assoc, ← List.length_append]; exact get_at0)) (by rw [sl16]; omega) ⟨a3, c3, by rw [List.length_append, List.length_singleton]; omega, by rw [List.length_append, List.length_singleton]; omega, fun e he => ?_, ?_⟩⟩
                · rcases List.mem_append.mp he with he | he
                  · exact oddD_well hd (hacc e he)
                  · rw [List.mem_singleton.mp he]
                    refine ⟨wild_tup (by simp) (wl_cons (wild_mono (Nat.le_refl _) (by decide) ho2.1) (wl_cons wild_int (wl_cons (hwt _) wl_nil))), smallT_of hst, ?_⟩
                    show (isMixD o2 && _) = false
                    rw [ho2.2, Bool.false_and]
                · rw [← List.append_assoc G, set_mid (by simp only [List.length_append, List.length_set]), List.append_assoc]
end Q
open Q
local macro_rules | `(tactic| walk_at "dx") => `(tactic| try simp only [dSeq, dDrop, kDrop, dRet, dRetN, dIf, kIf, dNever, dNext, dBreak, dCont, dSet, kSet, dPar, kPar, dPar3, kPar3, dAug, kAug, dAsg, kAsg, gNm, gsNil, gsCons, gTp, gUl, gSb, kGs1, kGs2, rSet, dFor, kFor, dLc, dYes, wipeD, dRaise, kRaise, dTry, wTry, clrM, clrD, putD', dXv, kXv,
  dC, dVar, dUn, dOp, kOp1, kOp2, dTst, kB, dAnd, kAnd, dOr, kOr, dNot, kNot, dAndV, kAndV, dOrV, kOrV, dNotV, kNotV, dIfE, kIfE, dNil, dCons, kCons1, kCons2, dTup, kTup, dLst, kLst, dCall, kCall, spN, dCallK, kCK1, kCK2, pick, dMet, kM1, kM2, isLst, rApp, dSl, kSl1, kSl2, kSl3, rSl, dNoP, dPart, kPart,
  rAdd, rSub, rMul, rMulT, rInP, rFdiv, rMod, rPow, rShl, rShr, rAnd, rXor, rNeg, rEq, rNe, rLt, rLe, rGt, rGe, rIs, rIsNot, isNon, rIx, rIsi, rIsi2, isTy, spLen, spInt, spTuple, spAll, spAny, spMax, spMin, spAbs, spList, rIn, rNotIn, rIns, dRevL, kRev, dBack, kBack, dLc2, iEn, kEn, dSrtSet, kSrtSet, dChain, kCh1, kCh2, kCh3, iZp, kZp, dLenNew, dLenSet, kLenSet, kLenNew, dDicE, isDic, rDset, dDget, kDg1, kDg2, dDget2, kDh1, kDh2, kDh3, rDget, gDb, kGd1, kGd2, dStp, kSt0, kSt1, kSt2, spSumB, rDin, dBits, kBits, rDnin, spLenD, dAugS, kAs1, kAs2, kAs3, kAs4, rRem, rIdx, spStr, dJoin, kJoin1, kJoin2, rPop1, rPop0, rRev, dDc, dTupRg, kTupRg, dLstRg, kLstRg, iSq, iRg1, kRg1, iRg2, kRg2, rIAdd, endsD,
  isL_iff, atI0, atI1, atI2, get_at0, get_at, List.set_set, List.length_set, lget_at0, lget_at, lget_hd, lget_tl, set_at0, set_at, app1, List.nil_append, List.cons_append, List.length_cons, List.length_nil, List.length_append,
  List.getElem?_cons_zero, List.getElem?_cons_succ, List.set_cons_zero, List.set_cons_succ, List.getElem?_nil, List.filterMap_cons, List.filterMap_nil, List.append_nil,
  Option.some.injEq, O.lst.injEq, exists_eq_left', exists_eq_left, exists_eq', List.cons.injEq, D.int.injEq, D.bl.injEq, D.tup.injEq, D.ref.injEq, D.str.injEq, Int.natCast_inj, true_and, and_true, and_self, Nat.reduceAdd, Nat.zero_add, Bool.not_true, Bool.not_false, reduceCtorEq, forall_const, imp_self, not_true_eq_false, not_false_eq_true, false_implies, true_implies, implies_true, Bool.true_eq_false, Bool.false_eq_true, Bool.true_or, Bool.or_true, Bool.false_or, Bool.or_false, Bool.and_true, Bool.true_and, decide_eq_true_eq, decide_eq_false_iff_not, Bool.not_eq_true', Bool.not_eq_false', decide_true, decide_false, or_false, false_or, exists_false, exists_and_left, and_assoc])
local macro_rules | `(tactic| walk_at "dz") => `(tactic| try simp only [dDrop, kDrop, dRet, dRetN, dIf, kIf, dNever, dNext, dBreak, dCont, dSet, kSet, dPar, kPar, dPar3, kPar3, dAug, kAug, dAsg, kAsg, gNm, gsNil, gsCons, gTp, gUl, gSb, kGs1, kGs2, rSet, dFor, kFor, dLc, dYes, wipeD, dRaise, kRaise, dTry, wTry, clrM, clrD, putD', dXv, kXv,
  dC, dVar, dUn, dOp, kOp1, kOp2, dTst, kB, dAnd, kAnd, dOr, kOr, dNot, kNot, dAndV, kAndV, dOrV, kOrV, dNotV, kNotV, dIfE, kIfE, dNil, dCons, kCons1, kCons2, dTup, kTup, dLst, kLst, dCall, kCall, spN, dCallK, kCK1, kCK2, pick, dMet, kM1, kM2, isLst, rApp, dSl, kSl1, kSl2, kSl3, rSl, dNoP, dPart, kPart,
  rAdd, rSub, rMul, rMulT, rInP, rFdiv, rMod, rPow, rShl, rShr, rAnd, rXor, rNeg, rEq, rNe, rLt, rLe, rGt, rGe, rIs, rIsNot, isNon, rIx, rIsi, rIsi2, isTy, spLen, spInt, spTuple, spAll, spAny, spMax, spMin, spAbs, spList, rIn, rNotIn, rIns, dRevL, kRev, dBack, kBack, dLc2, iEn, kEn, dSrtSet, kSrtSet, dChain, kCh1, kCh2, kCh3, iZp, kZp, dLenNew, dLenSet, kLenSet, kLenNew, dDicE, isDic, rDset, dDget, kDg1, kDg2, dDget2, kDh1, kDh2, kDh3, rDget, gDb, kGd1, kGd2, dStp, kSt0, kSt1, kSt2, spSumB, rDin, dBits, kBits, rDnin, spLenD, dAugS, kAs1, kAs2, kAs3, kAs4, rRem, rIdx, spStr, dJoin, kJoin1, kJoin2, rPop1, rPop0, rRev, dDc, dTupRg, kTupRg, dLstRg, kLstRg, iSq, iRg1, kRg1, iRg2, kRg2, rIAdd, endsD,
  isL_iff, atI0, atI1, atI2, get_at0, get_at, List.set_set, List.length_set, lget_at0, lget_at, lget_hd, lget_tl, set_at0, set_at, app1, List.nil_append, List.cons_append, List.length_cons, List.length_nil, List.length_append,
  List.getElem?_cons_zero, List.getElem?_cons_succ, List.set_cons_zero, List.set_cons_succ, List.getElem?_nil, List.filterMap_cons, List.filterMap_nil, List.append_nil,
  Option.some.injEq, O.lst.injEq, exists_eq_left', exists_eq_left, exists_eq', List.cons.injEq, D.int.injEq, D.bl.injEq, D.tup.injEq, D.ref.injEq, D.str.injEq, Int.natCast_inj, true_and, and_true, and_self, Nat.reduceAdd, Nat.zero_add, Bool.not_true, Bool.not_false, reduceCtorEq, forall_const, imp_self, not_true_eq_false, not_false_eq_true, false_implies, true_implies, implies_true, Bool.true_eq_false, Bool.false_eq_true, Bool.true_or, Bool.or_true, Bool.false_or, Bool.or_false, Bool.and_true, Bool.true_and, decide_eq_true_eq, decide_eq_false_iff_not, Bool.not_eq_true', Bool.not_eq_false', decide_true, decide_false, or_false, false_or, exists_false, exists_and_left, and_assoc])
namespace Q
open PySem
open Spec PyProof.Rows L2
/-! ### law k35 -/
def sp__law_refused : SpD := fun ds S k _ => ∃ (way : Nat) (d : D) (M : Msh), ds = [.int way, d, M.d] ∧ way ≤ 4 ∧ M.Ok ∧ M.p ≤ 1000 ∧ ((oddD S d ∧ k (.ref S.length) (S ++ [.lst [d]])) ∨ (d = M.d ∧ k (.ref S.length) (S ++ [.lst []])))
def sp_law : SpD := fun ds S k _ => ∃ (n : Nat) (ns : List Int), ds = [.ref n] ∧ S[n]? = some (.ro (ns.map D.int)) ∧ ns.length ≤ 63 ∧ k (.bl true) S
/-- _law_refused(_law_way, _law_mesh, _law_good); slots: 0 _law_way, 1 _law_mesh, 2 _law_good, 3 _law_found, 4 e -/
def t__law_refused : TSD := (dSeq (dSet 3 (dLst dNil)) (dSeq (dTry (dIf (dTst (dOp rEq (dVar 0) (dC (.int 0)))) (dDrop (dCall (spN 2 sp_lets_in) (dCons (dVar 1) (dCons (dC (.int 3)) dNil)))) (dIf (dTst (dOp rEq (dVar 0) (dC (.int 1)))) (dDrop (dCallK (spN 2 sp_how_many_in) 0 2 [1, 0] dNil (dCons (dC (.int 3)) (dCons (dVar 1) dNil)))) (dIf (dTst (dOp rEq (dVar 0) (dC (.int 2)))) (dDrop (dCall (spN 3 sp_wrongly) (dCons (dVar 1) (dCons (dTup dNil) (dCons (dC (.int 3)) dNil))))) (dIf (dTst (dOp rEq (dVar 0) (dC (.int 3)))) (dDrop (dCall (spN 3 sp_both) (dCons (dVar 1) (dCons (dVar 2) (dCons (dC (.int 3)) dNil))))) (dDrop (dCall (spN 3 sp_both) (dCons (dVar 2) (dCons (dVar 1) (dCons (dC (.int 3)) dNil))))))))) (⟨"InvalidFilter", (some 4), (dSet 3 (dLst (dCons (dXv (dVar 4)) dNil)))⟩ :: [])) (dRet (dVar 3))))
/-- law(_law_script); slots: 0 _law_script, 1 _law_spot, 2 _law_well_here, 3 _law_own, 4 _law_odds, 5 _law_turn, 6 _law_odd, 7 _law_way -/
def t_law : TSD := (dSeq (dFor (iRg1 (dCons (dCall spMax (dCons (dC (.int 1)) (dCons (dCall spMin (dCons (dC (.int 8)) (dCons (dCall spLen (dCons (dVar 0) dNil)) dNil))) dNil))) dNil)) (gNm 1) (dSeq (dSet 2 (dCall (spN 2 sp__law_well) (dCons (dVar 0) (dCons (dVar 1) dNil)))) (dSeq (dSet 3 (dCall (spN 2 sp__law_filter) (dCons (dVar 2) (dCons (dOp rIx (dLst (dCons (dC (.int 8)) (dCons (dC (.int 40)) dNil))) (dCall (spN 2 sp__law_dip) (dCons (dVar 2) (dCons (dC (.int 2)) dNil)))) dNil)))) (dSeq (dSet 3 (dIfE (dTst (dOp rEq (dCall (spN 2 sp__law_dip) (dCons (dVar 2) (dCons (dC (.int 6)) dNil))) (dC (.int 0)))) (dTup (dCons (dOp rIx (dVar 3) (dC (.int 0))) (dCons (dC (.int 60)) (dCons (dOp rIx (dVar 3) (dC (.int 2))) dNil)))) (dVar 3))) (dSeq (dIf (dOr (dTst (dOp rIsNot (dCall (spN 1 sp_is_filter) (dCons (dVar 3) dNil)) (dC (.bl true)))) (dTst (dOp rIsNot (dCallK (spN 1 sp_is_filter) 0 1 [0] dNil (dCons (dVar 3) dNil)) (dC (.bl true))))) (dRet (dC (.bl false))) dNext) (dSeq (dSet 4 (dCall (spN 2 sp__law_odd_filters) (dCons (dVar 2) (dCons (dVar 3) dNil)))) (dSeq (dFor (iRg1 (dCons (dC (.int 6)) dNil)) (gNm 5) (dSeq (dSet 6 (dOp rIx (dVar 4) (dCall (spN 2 sp__law_dip) (dCons (dVar 2) (dCons (dCall spLen (dCons (dVar 4) dNil)) dNil))))) (dIf (dOr (dTst (dOp rIsNot (dCall (spN 1 sp_is_filter) (dCons (dVar 6) dNil)) (dC (.bl false)))) (dNot (dTst (dCall (spN 2 sp__law_same) (dCons (dCall (spN 3 sp__law_refused) (dCons (dCall (spN 2 sp__law_dip) (dCons (dVar 2) (dCons (dC (.int 5)) dNil))) (dCons (dVar 6) (dCons (dVar 3) dNil)))) (dCons (dLst (dCons (dVar 6) dNil)) dNil)))))) (dRet (dC (.bl false))) dNext))) (dIf (dNot (dTst (dCall (spN 2 sp__law_same) (dCons (dLc (iRg1 (dCons (dC (.int 5)) dNil)) (gNm 7) dYes (dCall (spN 3 sp__law_refused) (dCons (dVar 7) (dCons (dVar 3) (dCons (dVar 3) dNil)))) [7]) (dCons (dLst (dCons (dLst dNil) (dCons (dLst dNil) (dCons (dLst dNil) (dCons (dLst dNil) (dCons (dLst dNil) dNil)))))) dNil))))) (dRet (dC (.bl false))) dNext)))))))) (dRet (dC (.bl true))))

theorem k__law_refused : Keeps 3 5 t__law_refused sp__law_refused := by
  intro ds S k x hl cS cd h
  obtain ⟨way, d, M, rfl, hw, hM, hMp, h⟩ := h
  show t__law_refused (endsD S.length k x) [some (.int way), some d, some M.d, none, none] S
  simp only [t__law_refused]
  have hcd : clD S.length d := cd.2.1
  have hcd2 : clD S.length M.d := cd.2.2.1
  have hno : NumsOk [] := ⟨List.nodup_nil, by decide, fun x hx => nomatch hx⟩
  refine dSeq_go ?_
  walk_at "dz"
  refine ⟨by decide, ?_⟩
  refine dSeq_go ?_
  rcases h with ⟨hd, h⟩ | ⟨rfl, h⟩
  · have hd1 := oddD_app [.lst []] hd
    have hX : (exSub "InvalidFilter" "InvalidFilter" = true → ∃ (x : Str) (v : D), O.exo "InvalidFilter" d = O.exo x v ∧ 1 ≤ sizeLine ∧ wk S.length k (D.ref ((S ++ [O.lst []]).length + 1)) (S ++ [O.lst []] ++ [O.exo "InvalidFilter" d, O.lst [v]])) ∧ (exSub "InvalidFilter" "InvalidFilter" = false → wkX S.length x ("InvalidFilter", d) (S ++ [O.lst []])) := by
      refine ⟨fun _ => ⟨_, d, rfl, by decide, ?_⟩, fun z => nomatch (show true = false from z)⟩
      rw [List.append_assoc]
      exact wk_new (o := .lst [d]) rfl cS (by simp; omega) (get_k 2 (by simp) rfl) ⟨hcd, trivial⟩ h
    walk_at "dz"
    exact ⟨fun _ => ⟨d, 3, rfl, .inr ⟨hd1, hX⟩⟩, fun _ => ⟨fun _ => ⟨d, 3, rfl, .inr ⟨hd1, hX⟩⟩, fun _ => ⟨fun _ => ⟨by decide, d, .tup [], [], 3, rfl, .inr ⟨hd1, hX⟩⟩, fun _ => ⟨fun _ => ⟨d, M.d, 3, rfl, .inr (.inl ⟨hd1, hX⟩)⟩, fun _ => ⟨M.d, d, 3, rfl, .inr (.inr ⟨M, rfl, hM, hd1, hX⟩)⟩⟩⟩⟩⟩
  · have hok : wk S.length k (.ref S.length) (S ++ [.lst []]) := wk_now h
    have hok2 : ∀ l, wk S.length k (.ref S.length) (S ++ [.lst []] ++ [.lst l]) := fun l => by
      rw [List.append_assoc]
      exact wk_new (o := .lst []) rfl cS (Nat.le_refl _) (get_k 0 rfl rfl) trivial h
    walk_at "dz"
    refine ⟨fun _ => ⟨M.d, 3, rfl, .inl ⟨M, rfl, hM, hok⟩⟩, fun _ => ⟨fun _ => ⟨M.d, 3, rfl, .inl ⟨M, rfl, hM, hMp, by decide, hok⟩⟩, fun _ => ⟨fun _ => ⟨by decide, M.d, .tup [], [], 3, rfl, .inl ⟨M, rfl, hM, .inl rfl, hno, by decide, hok2 _⟩⟩, fun _ => ⟨fun _ => ⟨M.d, M.d, 3, rfl, .inl ⟨M, M, rfl, rfl, hM, hM, hMp, hMp, by decide, hok⟩⟩, fun _ => ⟨M.d, M.d, 3, rfl, .inl ⟨M, M, rfl, rfl, hM, hM, hMp, hMp, by decide, hok⟩⟩⟩⟩⟩⟩
theorem wild_same {S : Sto} {L : Nat} (hL : L ≤ 1000000) : ∀ {n : Nat} {d : D}, wild S L n d → sameD S (n + 1) d d := by
  intro n
  induction n with
  | zero =>
    intro d h
    cases d with
    | tup ds => exact h.elim
    | ref j => exact h.elim
    | _ => exact sameD_flat rfl _
  | succ n ih =>
    intro d h
    cases d with
    | tup ds => exact sameD_tup (sl_ok _ (Nat.le_trans h.1 hL)) (paired_same (f := fun _ => True) ds fun e he => ih (h.2 e he))
    | ref j =>
      obtain ⟨ds, h1, h2⟩ := h
      exact sameD_lst h1.1 h1.1 (sl_ok _ h1.2) (paired_same (f := fun _ => True) ds fun e he => ih (h2 e he))
    | _ => exact sameD_flat rfl _
theorem k_law : Keeps 1 8 t_law sp_law := by
  intro ds S k x hl cS cd h
  obtain ⟨n, ns, rfl, hd, hn, h⟩ := h
  show t_law (endsD S.length k x) [some (.ref n), none, none, none, none, none, none, none] S
  have hL : lget S n = some (ns.map D.int) := by unfold lget; rw [hd]
  simp only [t_law]
  refine dSeq_cut (fun sg S' => ∃ G, S' = S ++ G) (fun nx hnx => ?_) ?_
  · walk_at "dz"
    refine ⟨_, hL, ?_⟩
    rw [List.length_map]
    generalize hN : (if (if (ns.length : Int) < 8 then (ns.length : Int) else 8) > 1 then (if (ns.length : Int) < 8 then (ns.length : Int) else 8) else (1 : Int)) = N
    have hN2 : N ≤ 8 ∧ 0 ≤ N := by
      rw [← hN]
      split
      · split
        · omega
        · omega
      · omega
    refine ⟨by omega, by omega, ?_⟩
    refine wFor_rng _ (fun i sg S' => ∃ (G : Sto) (d1 d2 d3 d4 d5 d6 d7 : Option D), sg = [some (.ref n), d1, d2, d3, d4, d5, d6, d7] ∧ S' = S ++ G) ⟨[], none, none, none, none, none, none, none, rfl, by simp⟩ ?_ ?_
    · rintro sg S' ⟨G, d1, d2, d3, d4, d5, d6, d7, rfl, rfl⟩
      exact ⟨trivial, hnx _ _ ⟨G, rfl⟩⟩
    · rintro i sg S' nx2 hi ⟨G, d1, d2, d3, d4, d5, d6, d7, rfl, rfl⟩ hnx2
      refine ⟨trivial, ?_⟩
      rw [show (0 : Int) + (i : Int) = (i : Int) by omega]
      refine dSeq_go ?_
      walk_at "dz"
      refine ⟨n, i, ns, rfl, get_app hd, by omega, by rw [sl16]; omega, fun a b hb => ?_⟩
      have hfin : ∀ (a' c : Nat) (G2 : Sto), ∃ G', (S ++ G ++ [wellO a b 0]).set (S ++ G).length (wellO a' b c) ++ G2 = S ++ G' := fun a' c G2 => ⟨G ++ (wellO a' b c :: G2), by rw [set_at0]; simp⟩
      generalize hU : S ++ G ++ [wellO a b 0] = U at hfin
      have hw : U[(S ++ G).length]? = some (wellO a b 0) := by
        rw [← hU]
        exact get_at0
      generalize (S ++ G).length = w at hw hfin
      walk_at "dz"
      refine dSeq_cut (fun sg S' => ∃ (M : Msh) (a c : Nat) (G2 : Sto), M.Ok ∧ M.m ≤ 40 ∧ M.p ≤ 1000 ∧ M.ps.length ≤ 12 ∧ c ≤ 1000 ∧ sg = [some (.ref n), some (.int (i : Int)), some (.ref w), some M.d, d4, d5, d6, d7] ∧ S' = U.set w (wellO a b c) ++ G2) (fun nx3 hnx3 => ?_) ?_
      · walk_at "dz"
        have pick : ∀ (r : Nat), r < 2 → ∃ v : Nat, atI [D.int 8, D.int 40] (r : Int) = some (.int (v : Int)) ∧ 0 < v ∧ v ≤ 40 := fun r hr => by
          have hr : r = 0 ∨ r = 1 := by omega
          rcases hr with rfl | rfl
          · exact ⟨8, rfl, by decide, by decide⟩
          · exact ⟨40, rfl, by decide, by decide⟩
        refine ⟨by decide, dip_app hw (many := 2) rfl (by decide) (by decide) hb (by omega) fun r2 a2 c2 hr2 hc2 => ?_⟩
        walk_at "dz"
        obtain ⟨v, hv1, hv0, hv40⟩ := pick r2 hr2
        refine ⟨_, lget_end (by simp), _, hv1, w, a2, b, c2, v, rfl, hv0, hv40, get_app (get_set_self hw), hb, by omega, fun M a3 c3 hM hMm hMp hMl hc3 => ?_⟩
        rw [setT hw]
        exact hnx3 _ _ ⟨M, a3, c3, _, hM, hMm, hMp, hMl, by omega, rfl, rfl⟩
      · rintro sg S' ⟨M, a1, c1, G2, hM, hMm, hMp, hMl, hc1, rfl, rfl⟩
        refine dSeq_cut (fun sg S' => ∃ (M : Msh) (a c : Nat) (G2 : Sto), M.Ok ∧ M.m ≤ 40 ∧ M.p ≤ 1000 ∧ M.ps.length ≤ 12 ∧ c ≤ 1001 ∧ sg = [some (.ref n), some (.int (i : Int)), some (.ref w), some M.d, d4, d5, d6, d7] ∧ S' = U.set w (wellO a b c) ++ G2) (fun nx3 hnx3 => ?_) ?_
        · walk_at "dz"
          refine dip_set hw (many := 6) rfl (by decide) (by decide) hb (by omega) fun r2 a2 c2 hr2 hc2 => ?_
          have hMd : M.d = .tup [mixD M.m M.p M.ps M.q, .int (M.w : Int), .tup (natsD M.tb)] := rfl
          walk_at "dz"
          rw [hMd]
          walk_at "dz"
          refine ⟨fun _ => ?_, fun _ => hnx3 _ _ ⟨M, a2, c2, _, hM, hMm, hMp, hMl, by omega, rfl, rfl⟩⟩
          refine ⟨by decide, hnx3 _ _ ⟨⟨M.m, M.p, M.ps, M.q, 60, M.tb⟩, a2, c2, _, ⟨hM.mix, show 1 ≤ 60 by decide, show 60 ≤ 60 by decide, hM.len, fun t ht => Nat.lt_of_lt_of_le (hM.lt t ht) (Nat.pow_le_pow_right (by decide) hM.w2)⟩, hMm, hMp, hMl, by omega, rfl, rfl⟩⟩
        · rintro sg S' ⟨M, a1, c1, G2, hM, hMm, hMp, hMl, hc1, rfl, rfl⟩
          refine dSeq_go ?_
          walk_at "dz"
          refine ⟨M.d, rfl, wild_msh hM, smallT_msh hM, ?_⟩
          rw [isMesh_msh hM]
          walk_at "dz"
          refine ⟨M.d, rfl, wild_msh hM, smallT_msh hM, ?_⟩
          rw [isMesh_msh hM]
          walk_at "dz"
          refine dSeq_go ?_
          walk_at "dz"
          refine ⟨w, a1, b, c1, M, rfl, hM, hMm, hMl, get_app (get_set_self hw), hb, by omega, fun a2 c2 j os G3 hc2 hjl hj hne hol hos => ?_⟩
          rw [setT hw] at hj hos ⊢
          have hwU := get_lt hw
          have hjw : w < j := by
            rw [List.length_append, List.length_set] at hjl
            omega
          rw [List.append_assoc] at hj hos ⊢
          walk_at "dz"
          have hos2 : ∀ (a' c' : Nat) (X : Sto), ∀ e ∈ os, oddD (U.set w (wellO a' b c') ++ (G2 ++ G3 ++ X)) e := fun a' c' X e he => by
            rw [← List.append_assoc]
            exact oddD_app X (oddD_well hw (hos e he))
          have hget : ∀ (a' c' : Nat) (X : Sto), (U.set w (wellO a' b c') ++ (G2 ++ G3 ++ X))[j]? = some (.lst os) := fun a' c' X => by
            rw [← List.append_assoc]
            refine get_app ?_
            generalize G2 ++ G3 = Y at hj ⊢
            rw [← hj]
            by_cases hiS : j < U.length
            · rw [List.getElem?_append_left (by rw [List.length_set]; exact hiS), List.getElem?_append_left (by rw [List.length_set]; exact hiS), List.getElem?_set_ne (by omega), List.getElem?_set_ne (by omega)]
            · rw [List.getElem?_append_right (by rw [List.length_set]; omega), List.getElem?_append_right (by rw [List.length_set]; omega), List.length_set, List.length_set]
          refine dSeq_cut (fun sg S' => ∃ (a c : Nat) (G4 : Sto) (d5 d6 : Option D), sg = [some (.ref n), some (.int (i : Int)), some (.ref w), some M.d, some (.ref j), d5, d6, d7] ∧ S' = U.set w (wellO a b c) ++ G4) (fun nx4 hnx4 => ?_) ?_
          · walk_at "dz"
            refine ⟨by decide, by decide, wFor_rng _ (fun t sg S' => ∃ (a c : Nat) (X : Sto) (d5 d6 : Option D), c ≤ 1100 + 10 * t ∧ sg = [some (.ref n), some (.int (i : Int)), some (.ref w), some M.d, some (.ref j), d5, d6, d7] ∧ S' = U.set w (wellO a b c) ++ (G2 ++ G3 ++ X)) ⟨a2, c2, [], _, _, by omega, rfl, by rw [List.append_nil]⟩ ?_ ?_⟩
            · rintro sg S' ⟨a, c, X, d5, d6, hc, rfl, rfl⟩
              exact ⟨trivial, hnx4 _ _ ⟨a, c, _, _, _, rfl, rfl⟩⟩
            · rintro t sg S' nx5 ht ⟨a3, c3, X, d5, d6, hc3, rfl, rfl⟩ hnx5
              have ht : t < 6 := ht
              refine ⟨trivial, ?_⟩
              refine dSeq_go ?_
              walk_at "dz"
              refine ⟨os, lget_lst (hget _ _ _), dip_set hw rfl (List.length_pos_iff.mpr hne) (Nat.lt_of_le_of_lt hol (by decide)) hb (by omega) fun r a4 c4 hr hc4 => ?_⟩
              walk_at "dz"
              refine ⟨os, lget_lst (hget _ _ _), os[r], atI_nat (List.getElem?_eq_getElem hr), ?_⟩
              have hom := List.getElem_mem hr
              generalize os[r] = od at hom
              have ho := hos2 a4 c4 X od hom
              walk_at "dz"
              refine ⟨od, rfl, wild_mono (Nat.le_refl _) (by decide) ho.1, ho.2.1, ?_⟩
              rw [ho.2.2]
              walk_at "dz"
              refine dip_set hw (many := 5) rfl (by decide) (by decide) hb (by omega) fun q a5 c5 hq hc5 => ?_
              walk_at "dz"
              refine ⟨q, od, M, rfl, by omega, hM, hMp, .inl ⟨hos2 a5 c5 X od hom, ?_⟩⟩
              walk_at "dz"
              have hsd : sameD (U.set w (wellO a5 b c5) ++ (G2 ++ G3 ++ (X ++ [O.lst [od], O.lst [od]]))) 7 od od := wild_same (by decide) (hos2 a5 c5 _ od hom).1
              refine ⟨by decide, _, _, rfl, sameD_lst (n := 7) (xs := [od]) (ys := [od]) (lget_k (G2.length + G3.length + X.length) (by simp) ?_) (lget_k (G2.length + G3.length + (X.length + 1)) (by simp) ?_) (show 1 ≤ sizeLine by decide) (.cons hsd .nil), ?_⟩
              · rw [← List.append_assoc, ← List.length_append, ← List.length_append]
                exact lget_at0
              · rw [← List.append_assoc, ← Nat.add_assoc, ← List.length_append, ← List.length_append]
                exact lget_end1 rfl
              walk_at "dz"
              exact hnx5 _ _ ⟨a5, c5, _, _, _, by omega, rfl, rfl⟩
          · rintro sg S' ⟨a, c, G4, d5, d6, rfl, rfl⟩
            walk_at "dz"
            generalize hV : U.set w (wellO a b c) ++ G4 = V
            have hVf : ∀ X, ∃ G', V ++ X = S ++ G' := fun X => by
              rw [← hV, List.append_assoc]
              exact hfin a c _
            refine ⟨by decide, by decide, lc_ind (fun items acc T => ∃ (done rest : List Nat) (G5 : Sto), List.range 5 = done ++ rest ∧ items = rest.map (fun i : Nat => D.int (0 + (i : Int))) ∧ acc.length = done.length ∧ (∀ e ∈ acc, ∃ u, e = .ref (V.length + (u + 1)) ∧ G5[u]? = some (.lst [])) ∧ T = V ++ (.lst acc :: G5)) ⟨[], List.range 5, [], rfl, rfl, rfl, fun e he => (nomatch he), rfl⟩ ?_ ?_⟩
            · rintro acc T ⟨done, rest, G5, hr, hit, hal, hacc, rfl⟩
              cases rest with
              | cons y r => exact nomatch hit
              | nil =>
                rw [List.append_nil] at hr
                have ha5 : acc.length = 5 := by rw [hal, ← hr]; rfl
                refine ⟨trivial, ?_⟩
                walk_at "dz"
                generalize hY : [O.lst [], O.lst [], O.lst [], O.lst [], O.lst [], O.lst [D.ref (List.length V + (List.length G5 + 1)), D.ref (List.length V + (List.length G5 + 1 + 1)), D.ref (List.length V + (List.length G5 + 2 + 1)), D.ref (List.length V + (List.length G5 + 3 + 1)), D.ref (List.length V + (List.length G5 + 4 + 1))]] = Y
                have hold : ∀ e ∈ acc, ∃ q, e = .ref q ∧ lget (V ++ O.lst acc :: (G5 ++ Y)) q = some [] := fun e he => by
                  obtain ⟨u, rfl, hu⟩ := hacc e he
                  exact ⟨_, rfl, lget_k (u + 1) rfl (by rw [lget_tl]; exact lget_lst (get_app hu))⟩
                have hnew : ∀ v, v < 5 → lget (V ++ O.lst acc :: (G5 ++ Y)) (V.length + (G5.length + v + 1)) = some [] := fun v hv => by
                  refine lget_k (G5.length + v + 1) rfl ?_
                  rw [lget_tl]
                  refine lget_k v rfl ?_
                  rw [← hY]
                  match v, hv with
                  | 0, _ => rfl
                  | 1, _ => rfl
                  | 2, _ => rfl
                  | 3, _ => rfl
                  | 4, _ => rfl
                  | v + 5, hv => exact absurd hv (by omega)
                have h5 : lget (V ++ O.lst acc :: (G5 ++ Y)) (V.length + (G5.length + 5 + 1)) = some [D.ref (List.length V + (List.length G5 + 1)), D.ref (List.length V + (List.length G5 + 1 + 1)), D.ref (List.length V + (List.length G5 + 2 + 1)), D.ref (List.length V + (List.length G5 + 3 + 1)), D.ref (List.length V + (List.length G5 + 4 + 1))] := by
                  refine lget_k (G5.length + 5 + 1) rfl ?_
                  rw [lget_tl]
                  refine lget_k 5 rfl ?_
                  rw [← hY]
                  rfl
                have hA : lget (V ++ O.lst acc :: (G5 ++ Y)) V.length = some acc := lget_at0
                obtain ⟨G', hG'⟩ := hVf (O.lst acc :: (G5 ++ Y))
                generalize V ++ O.lst acc :: (G5 ++ Y) = T at hold hnew h5 hA hG' ⊢
                have one : ∀ e ∈ acc, ∀ v, v < 5 → sameD T 7 e (.ref (V.length + (G5.length + v + 1))) := fun e he v hv => by
                  obtain ⟨q, rfl, hq⟩ := hold e he
                  exact sameD_lst (n := 6) hq (hnew v hv) (Nat.zero_le _) .nil
                refine ⟨by decide, by decide, by decide, by decide, by decide, by decide, _, _, rfl, sameD_lst (n := 7) hA h5 (show 5 ≤ sizeLine by decide) ?_, ?_⟩
                · match acc, ha5, one with
                  | [e1, e2, e3, e4, e5], _, one => exact .cons (one e1 (by simp) 0 (by decide)) (.cons (one e2 (by simp) 1 (by decide)) (.cons (one e3 (by simp) 2 (by decide)) (.cons (one e4 (by simp) 3 (by decide)) (.cons (one e5 (by simp) 4 (by decide)) .nil))))
                · walk_at "dz"
                  rw [hG']
                  exact hnx2 _ _ ⟨G', _, _, _, _, _, _, _, rfl, rfl⟩
            · rintro d rest' acc T kk ⟨done, rest, G5, hr, hit, hal, hacc, rfl⟩ hkk
              cases rest with
              | nil => exact nomatch hit
              | cons y rest =>
                obtain ⟨rfl, rfl⟩ := List.cons.inj hit
                have hy : y < 5 := List.mem_range.mp (by rw [hr]; simp)
                refine ⟨trivial, ?_⟩
                walk_at "dz"
                refine ⟨y, M.d, M, by simp, by omega, hM, hMp, .inr ⟨rfl, ?_⟩⟩
                have hdl : done.length < 5 := by
                  have := congrArg List.length hr
                  rw [List.length_range, List.length_append, List.length_cons] at this
                  omega
                refine hkk _ _ (by rw [List.append_assoc]; exact get_at0) (by rw [sl16]; omega) ⟨done ++ [y], rest, G5 ++ [.lst []], by rw [hr]; simp, rfl, by simp [hal], fun e he => ?_, by rw [List.append_assoc, List.cons_append, set_at0]⟩
                rcases List.mem_append.mp he with he | he
                · obtain ⟨u, e1, hu⟩ := hacc e he
                  exact ⟨u, e1, get_app hu⟩
                · rw [List.mem_singleton.mp he]
                  exact ⟨G5.length, by simp, get_at0⟩
  · rintro sg S' ⟨G, rfl⟩
    walk_at "dz"
    exact wk_drop rfl cS trivial h
theorem law_top (ns : List Int) (h : ns.length ≤ 63) : sp_law [.ref 0] [.ro (ns.map D.int)] (fun d _ => d = .bl true) XF := ⟨0, ns, rfl, rfl, h, rfl⟩
end Q
namespace Lk
open PySem PySem.Spec PyProof.Rows L2 Q
def top (i : Nat) : Stmt := PySem.Challenge.pw_keytellers_k35_whole_filters_judged.main.body.getD i (.Pass ⟨0, 0, 0, 0⟩)
abbrev FnP (K : PySem.W.Frag) (x : Str) (st : Stmt) (f : Addr) (fd : FuncData) : Prop := FunD K x x (defArgs st) (defBody st) (defScope st) [] [] f fd
abbrev s_is_integer : Stmt := top 7
theorem sc_is_integer : FnScope ["value"] ["value"] (defScope s_is_integer) := ⟨rfl, rfl, rfl, by decide +kernel, rfl, by decide +kernel, by decide +kernel⟩
abbrev s_is_natural : Stmt := top 8
theorem sc_is_natural : FnScope ["value"] ["value"] (defScope s_is_natural) := ⟨rfl, rfl, rfl, by decide +kernel, rfl, by decide +kernel, by decide +kernel⟩
abbrev s_sum_of_words : Stmt := top 9
theorem sc_sum_of_words : FnScope ["words", "total", "word"] ["words"] (defScope s_sum_of_words) := ⟨rfl, rfl, rfl, by decide +kernel, rfl, by decide +kernel, by decide +kernel⟩
abbrev s_bits_of : Stmt := top 10
theorem sc_bits_of : FnScope ["a", "found", "place", "rest"] ["a"] (defScope s_bits_of) := ⟨rfl, rfl, rfl, by decide +kernel, rfl, by decide +kernel, by decide +kernel⟩
abbrev s_width_of : Stmt := top 12
theorem sc_width_of : FnScope ["a", "places"] ["a"] (defScope s_width_of) := ⟨rfl, rfl, rfl, by decide +kernel, rfl, by decide +kernel, by decide +kernel⟩
abbrev s_is_word_of : Stmt := top 13
theorem sc_is_word_of : FnScope ["w", "told"] ["w", "told"] (defScope s_is_word_of) := ⟨rfl, rfl, rfl, by decide +kernel, rfl, by decide +kernel, by decide +kernel⟩
abbrev s_told_by_row : Stmt := top 15
theorem sc_told_by_row : FnScope ["table", "row", "cell"] ["table", "row"] (defScope s_told_by_row) := ⟨rfl, rfl, rfl, by decide +kernel, rfl, by decide +kernel, by decide +kernel⟩
abbrev s_is_pair_below : Stmt := top 17
theorem sc_is_pair_below : FnScope ["p", "told", "number"] ["p", "told"] (defScope s_is_pair_below) := ⟨rfl, rfl, rfl, by decide +kernel, rfl, by decide +kernel, by decide +kernel⟩
abbrev s_is_mixing_told : Stmt := top 18
theorem sc_is_mixing_told : FnScope ["told", "m", "p", "pairs", "mark", "pair"] ["told"] (defScope s_is_mixing_told) := ⟨rfl, rfl, rfl, by decide +kernel, rfl, by decide +kernel, by decide +kernel⟩
abbrev s_check_from : Stmt := top 19
theorem sc_check_from : FnScope ["number", "least"] ["number", "least"] (defScope s_check_from) := ⟨rfl, rfl, rfl, by decide +kernel, rfl, by decide +kernel, by decide +kernel⟩
abbrev s_check_numbers : Stmt := top 20
theorem sc_check_numbers : FnScope ["numbers", "good", "number"] ["numbers"] (defScope s_check_numbers) := ⟨rfl, rfl, rfl, by decide +kernel, rfl, by decide +kernel, by decide +kernel⟩
abbrev s_mixed : Stmt := top 21
theorem sc_mixed : FnScope ["pair", "p", "x"] ["pair", "p", "x"] (defScope s_mixed) := ⟨rfl, rfl, rfl, by decide +kernel, rfl, by decide +kernel, by decide +kernel⟩
abbrev s_row_by : Stmt := top 22
theorem sc_row_by : FnScope ["mixing", "x", "m", "p", "pairs", "mark", "pair"] ["mixing", "x"] (defScope s_row_by) := ⟨rfl, rfl, rfl, by decide +kernel, rfl, by decide +kernel, by decide +kernel⟩
abbrev s_mark_by : Stmt := top 23
theorem sc_mark_by : FnScope ["mixing", "w", "x"] ["mixing", "w", "x"] (defScope s_mark_by) := ⟨rfl, rfl, rfl, by decide +kernel, rfl, by decide +kernel, by decide +kernel⟩
abbrev s_is_mesh : Stmt := top 25
theorem sc_is_mesh : FnScope ["told", "mixing", "w", "table", "word"] ["told"] (defScope s_is_mesh) := ⟨rfl, rfl, rfl, by decide +kernel, rfl, by decide +kernel, by decide +kernel⟩
abbrev s_check_mesh : Stmt := top 26
theorem sc_check_mesh : FnScope ["mesh"] ["mesh"] (defScope s_check_mesh) := ⟨rfl, rfl, rfl, by decide +kernel, rfl, by decide +kernel, by decide +kernel⟩
abbrev s_lets : Stmt := top 27
theorem sc_lets : FnScope ["mesh", "x", "mixing", "w", "table"] ["mesh", "x"] (defScope s_lets) := ⟨rfl, rfl, rfl, by decide +kernel, rfl, by decide +kernel, by decide +kernel⟩
abbrev s_let_rests : Stmt := top 28
theorem sc_let_rests : FnScope ["mesh", "x"] ["mesh"] (defScope s_let_rests) := ⟨rfl, rfl, rfl, by decide +kernel, rfl, by decide +kernel, by decide +kernel⟩
abbrev s_is_filter : Stmt := top 29
theorem sc_is_filter : FnScope ["told"] ["told"] (defScope s_is_filter) := ⟨rfl, rfl, rfl, by decide +kernel, rfl, by decide +kernel, by decide +kernel⟩
abbrev s_lets_in : Stmt := top 30
theorem sc_lets_in : FnScope ["mesh", "x"] ["mesh", "x"] (defScope s_lets_in) := ⟨rfl, rfl, rfl, by decide +kernel, rfl, by decide +kernel, by decide +kernel⟩
abbrev s_wrongly : Stmt := top 31
theorem sc_wrongly : FnScope ["mesh", "numbers", "many", "x"] ["mesh", "numbers", "many"] (defScope s_wrongly) := ⟨rfl, rfl, rfl, by decide +kernel, rfl, by decide +kernel, by decide +kernel⟩
abbrev s_how_many_in : Stmt := top 32
theorem sc_how_many_in : FnScope ["mesh", "many", "rests"] ["mesh", "many"] (defScope s_how_many_in) := ⟨rfl, rfl, rfl, by decide +kernel, rfl, by decide +kernel, by decide +kernel⟩
abbrev s_both : Stmt := top 33
theorem sc_both : FnScope ["one", "other", "many", "first", "second", "common", "whole", "in_round", "rest", "left", "x"] ["one", "other", "many"] (defScope s_both) := ⟨rfl, rfl, rfl, by decide +kernel, rfl, by decide +kernel, by decide +kernel⟩
abbrev s__law_well : Stmt := top 35
theorem sc__law_well : FnScope ["_law_script", "_law_place", "_law_cell"] ["_law_script", "_law_place"] (defScope s__law_well) := ⟨rfl, rfl, rfl, by decide +kernel, rfl, by decide +kernel, by decide +kernel⟩
abbrev s__law_dip : Stmt := top 36
theorem sc__law_dip : FnScope ["_law_well_here", "_law_many", "_law_figure", "_law_mixed"] ["_law_well_here", "_law_many"] (defScope s__law_dip) := ⟨rfl, rfl, rfl, by decide +kernel, rfl, by decide +kernel, by decide +kernel⟩
abbrev s__law_same : Stmt := top 37
theorem sc__law_same : FnScope ["_law_told", "_law_due", "_law_kind", "_law_spot"] ["_law_told", "_law_due"] (defScope s__law_same) := ⟨rfl, rfl, rfl, by decide +kernel, rfl, by decide +kernel, by decide +kernel⟩
abbrev s__law_sum : Stmt := top 38
theorem sc__law_sum : FnScope ["_law_some", "_law_total", "_law_word"] ["_law_some"] (defScope s__law_sum) := ⟨rfl, rfl, rfl, by decide +kernel, rfl, by decide +kernel, by decide +kernel⟩
abbrev s__law_power : Stmt := top 39
theorem sc__law_power : FnScope ["_law_many", "_law_found", "_law_turn"] ["_law_many"] (defScope s__law_power) := ⟨rfl, rfl, rfl, by decide +kernel, rfl, by decide +kernel, by decide +kernel⟩
abbrev s__law_first : Stmt := top 40
theorem sc__law_first : FnScope ["_law_m", "_law_rows", "_law_values", "_law_kept", "_law_table", "_law_row_here", "_law_value", "_law_left", "_law_other", "_law_word", "_law_cell"] ["_law_m", "_law_rows", "_law_values"] (defScope s__law_first) := ⟨rfl, rfl, rfl, by decide +kernel, rfl, by decide +kernel, by decide +kernel⟩
abbrev s__law_mixing : Stmt := top 41
theorem sc__law_mixing : FnScope ["_law_well_here", "_law_most", "_law_m", "_law_p", "_law_many", "_law_pairs", "_law_turn"] ["_law_well_here", "_law_most"] (defScope s__law_mixing) := ⟨rfl, rfl, rfl, by decide +kernel, rfl, by decide +kernel, by decide +kernel⟩
abbrev s__law_row : Stmt := top 42
theorem sc__law_row : FnScope ["_law_mixing_here", "_law_x", "_law_m", "_law_p", "_law_pairs", "_law_mark_here", "_law_found", "_law_a", "_law_b", "_law_cell"] ["_law_mixing_here", "_law_x"] (defScope s__law_row) := ⟨rfl, rfl, rfl, by decide +kernel, rfl, by decide +kernel, by decide +kernel⟩
abbrev s__law_mark : Stmt := top 43
theorem sc__law_mark : FnScope ["_law_mixing_here", "_law_w", "_law_x", "_law_a", "_law_b"] ["_law_mixing_here", "_law_w", "_law_x"] (defScope s__law_mark) := ⟨rfl, rfl, rfl, by decide +kernel, rfl, by decide +kernel, by decide +kernel⟩
abbrev s__law_numbers : Stmt := top 44
theorem sc__law_numbers : FnScope ["_law_well_here", "_law_most", "_law_found", "_law_turn", "_law_x"] ["_law_well_here", "_law_most"] (defScope s__law_numbers) := ⟨rfl, rfl, rfl, by decide +kernel, rfl, by decide +kernel, by decide +kernel⟩
abbrev s__law_lets : Stmt := top 45
theorem sc__law_lets : FnScope ["_law_own", "_law_x", "_law_mixing_here", "_law_w", "_law_table", "_law_cell"] ["_law_own", "_law_x"] (defScope s__law_lets) := ⟨rfl, rfl, rfl, by decide +kernel, rfl, by decide +kernel, by decide +kernel⟩
abbrev s__law_filter : Stmt := top 46
theorem sc__law_filter : FnScope ["_law_well_here", "_law_most", "_law_mixing_here", "_law_w", "_law_numbers_here", "_law_marks", "_law_found", "_law_x", "_law_cell"] ["_law_well_here", "_law_most"] (defScope s__law_filter) := ⟨rfl, rfl, rfl, by decide +kernel, rfl, by decide +kernel, by decide +kernel⟩
abbrev s__law_put : Stmt := top 47
theorem sc__law_put : FnScope ["_law_row_here", "_law_at", "_law_value"] ["_law_row_here", "_law_at", "_law_value"] (defScope s__law_put) := ⟨rfl, rfl, rfl, by decide +kernel, rfl, by decide +kernel, by decide +kernel⟩
abbrev s__law_odd_mixings : Stmt := top 48
theorem sc__law_odd_mixings : FnScope ["_law_well_here", "_law_mixing_here", "_law_m", "_law_p", "_law_pairs", "_law_mark_here", "_law_at", "_law_a", "_law_b", "_law_odds", "_law_found", "_law_odd"] ["_law_well_here", "_law_mixing_here"] (defScope s__law_odd_mixings) := ⟨rfl, rfl, rfl, by decide +kernel, rfl, by decide +kernel, by decide +kernel⟩
abbrev s__law_odd_filters : Stmt := top 49
theorem sc__law_odd_filters : FnScope ["_law_well_here", "_law_own", "_law_mixing_here", "_law_w", "_law_table", "_law_at", "_law_words", "_law_found", "_law_word", "_law_zeros", "_law_odd", "_law_odds", "_law_turn"] ["_law_well_here", "_law_own"] (defScope s__law_odd_filters) := ⟨rfl, rfl, rfl, by decide +kernel, rfl, by decide +kernel, by decide +kernel⟩
abbrev s__law_refused : Stmt := top 50
theorem sc__law_refused : FnScope ["_law_way", "_law_mesh", "_law_good", "_law_found", "e"] ["_law_way", "_law_mesh", "_law_good"] (defScope s__law_refused) := ⟨rfl, rfl, rfl, by decide +kernel, rfl, by decide +kernel, by decide +kernel⟩
abbrev s_law : Stmt := top 51
theorem sc_law : FnScope ["_law_script", "_law_spot", "_law_well_here", "_law_own", "_law_odds", "_law_turn", "_law_odd", "_law_way"] ["_law_script"] (defScope s_law) := ⟨rfl, rfl, rfl, by decide +kernel, rfl, by decide +kernel, by decide +kernel⟩
abbrev s_init : Stmt := clsDef 0 (top 2)
theorem sc_init : FnScope ["self", "value"] ["self", "value"] (defScope s_init) := ⟨rfl, rfl, rfl, by decide +kernel, rfl, by decide +kernel, by decide +kernel⟩
section
variable {P : Program} {w : World} {K : PySem.W.Frag} {mg : Str → Option Value} {base : Heap}
theorem ok_init {f : Addr} {fd : FuncData} (F : FunD K "__init__" "TellError.__init__" (defArgs s_init) (defBody s_init) (defScope s_init) [] [] f fd) (hm : mg "ValueError" = none) (vV : PySem.W.findCls K (.type "ValueError") (.type "type") "__init__" = some (.val (.builtin "ValueError.__init__"))) : FnOk P w K mg base (L2.CX P w) 1 f fd ["self", "value"] (spI K) := init_ok F sc_init fun cdv A outer s H E => pss_cons (ps_expr (pe_veinit (by rfl) hm vV (pa_cons (pe_var (i := 0) rfl (Or.inl rfl)) (pa_cons (pe_var (i := 1) rfl (Or.inl rfl)) pa_nil)))) (pss_one (ps_ost (pe_var (i := 0) rfl (Or.inl rfl)) (pe_var (i := 1) rfl (Or.inl rfl))))
theorem kb_how_many_in_0_many_mesh {f : Addr} {fd : FuncData} (F : FnP K "how_many_in" s_how_many_in f fd) : KB K fd ["mesh", "many"] 0 ["many", "mesh"] [1, 0] := kb_of F _ _ _ fun _ _ _ _ _ _ us ws h1 h2 => match us, ws, h1, h2 with | [], [_, _], _, _ => rfl
theorem kb_is_filter_0_told {f : Addr} {fd : FuncData} (F : FnP K "is_filter" s_is_filter f fd) : KB K fd ["told"] 0 ["told"] [0] := kb_of F _ _ _ fun _ _ _ _ _ _ us ws h1 h2 => match us, ws, h1, h2 with | [], [_], _, _ => rfl
theorem ok_is_integer {f : Addr} {fd : FuncData} (F : FnP K "is_integer" s_is_integer f fd) (m_isinstance : mg "isinstance" = none) (m_int : mg "int" = none) (m_bool : mg "bool" = none) : FnOk P w K mg base (L2.CX P w) 1 f fd ["value"] (LP K mg 1 sp_is_integer) := def_ok F sc_is_integer (fun cdv A outer s H E hr => by
  have nd := sc_is_integer.nd
  have hu := hr.units
  have hp := own_cx (P := P) (w := w) (K := K) (mg := mg) (base := base) (N := ["value"]) (qual := "is_integer") (scope := defScope s_is_integer) (f := f) (cd := cdv) (A := A) (outer := outer) (s := s) (H := H) (E := E)
  have hx := pass_cx (P := P) (w := w) (K := K) (mg := mg) (base := base) (N := ["value"]) (qual := "is_integer") (scope := defScope s_is_integer) (f := f) (cd := cdv) (A := A) (outer := outer) (s := s) (H := H) (E := E)
  exact (q_one1 (q_ret (q_andV (q_isi .int (by decide) (q_var 0) (by rfl) m_isinstance (by rfl) m_int (by decide +kernel)) (q_one (q_notV (q_isi .bool (by decide) (q_var 0) (by rfl) m_isinstance (by rfl) m_bool (by decide +kernel)))))))) k_is_integer
theorem ok_is_natural {f : Addr} {fd : FuncData} (F : FnP K "is_natural" s_is_natural f fd) {f_is_integer : Addr} {fd_is_integer : FuncData} (T_is_integer : FT P w K mg base "is_integer" 1 ["value"] sp_is_integer f_is_integer fd_is_integer) : FnOk P w K mg base (L2.CX P w) 2 f fd ["value"] (LP K mg 1 sp_is_natural) := def_ok F sc_is_natural (fun cdv A outer s H E hr => by
  have nd := sc_is_natural.nd
  have hu := hr.units
  have hp := own_cx (P := P) (w := w) (K := K) (mg := mg) (base := base) (N := ["value"]) (qual := "is_natural") (scope := defScope s_is_natural) (f := f) (cd := cdv) (A := A) (outer := outer) (s := s) (H := H) (E := E)
  have hx := pass_cx (P := P) (w := w) (K := K) (mg := mg) (base := base) (N := ["value"]) (qual := "is_natural") (scope := defScope s_is_natural) (f := f) (cd := cdv) (A := A) (outer := outer) (s := s) (H := H) (E := E)
  exact (q_one1 (q_ret (q_andV (q_call T_is_integer.ok (hr.mono (by decide)) (by rfl) T_is_integer.hm T_is_integer.hk T_is_integer.hb hx (q_cons (q_var 0) q_nil)) (q_one (q_cmp o_ge (q_var 0) q_int)))))) k_is_natural
theorem ok_sum_of_words {f : Addr} {fd : FuncData} (F : FnP K "sum_of_words" s_sum_of_words f fd) : FnOk P w K mg base (L2.CX P w) 1 f fd ["words"] (LP K mg 1 sp_sum_of_words) := def_ok F sc_sum_of_words (fun cdv A outer s H E hr => by
  have nd := sc_sum_of_words.nd
  have hu := hr.units
  have hp := own_cx (P := P) (w := w) (K := K) (mg := mg) (base := base) (N := ["words", "total", "word"]) (qual := "sum_of_words") (scope := defScope s_sum_of_words) (f := f) (cd := cdv) (A := A) (outer := outer) (s := s) (H := H) (E := E)
  have hx := pass_cx (P := P) (w := w) (K := K) (mg := mg) (base := base) (N := ["words", "total", "word"]) (qual := "sum_of_words") (scope := defScope s_sum_of_words) (f := f) (cd := cdv) (A := A) (outer := outer) (s := s) (H := H) (E := E)
  exact (q_scons (q_set (i := 1) nd q_int) (q_scons (q_for hp rfl (q_iSq (q_var 0)) (q_gnm (i := 2) nd) (q_one1 (q_set (i := 1) nd (q_op o_xor (q_var 1) (q_var 2))))) (q_one1 (q_ret (q_var 1)))))) k_sum_of_words
theorem ok_bits_of {f : Addr} {fd : FuncData} (F : FnP K "bits_of" s_bits_of f fd) (m_tuple : mg "tuple" = none) : FnOk P w K mg base (L2.CX P w) 1 f fd ["a"] (LP K mg 1 sp_bits_of) := def_ok F sc_bits_of (fun cdv A outer s H E hr => by
  have nd := sc_bits_of.nd
  have hu := hr.units
  have hp := own_cx (P := P) (w := w) (K := K) (mg := mg) (base := base) (N := ["a", "found", "place", "rest"]) (qual := "bits_of") (scope := defScope s_bits_of) (f := f) (cd := cdv) (A := A) (outer := outer) (s := s) (H := H) (E := E)
  have hx := pass_cx (P := P) (w := w) (K := K) (mg := mg) (base := base) (N := ["a", "found", "place", "rest"]) (qual := "bits_of") (scope := defScope s_bits_of) (f := f) (cd := cdv) (A := A) (outer := outer) (s := s) (H := H) (E := E)
  exact (q_scons (q_par3 (i := 1) (j := 2) (l := 3) rfl nd (q_cons (q_lst q_nil) (q_cons q_int (q_cons (q_var 0) q_nil)))) (q_scons (q_while hp (q_tcmp o_gt (q_var 3) q_int) (q_scons (q_if (q_tcmp (o_eq hu) (q_op o_mod (q_var 3) q_int) q_int) (q_one1 (q_expr (q_met PySem.F.slot_list_append PySem.F.type_list_append m_app (q_var 1) (q_cons (q_var 2) q_nil)))) q_snil) (q_one1 (q_par (i := 3) (j := 2) rfl nd (q_cons (q_op o_fdiv (q_var 3) q_int) (q_cons (q_op o_add (q_var 2) q_int) q_nil)))))) (q_one1 (q_ret (q_callTy c_tuple (by rfl) m_tuple boot_tuple (q_cons (q_var 1) q_nil))))))) k_bits_of
theorem ok_width_of {f : Addr} {fd : FuncData} (F : FnP K "width_of" s_width_of f fd) {f_bits_of : Addr} {fd_bits_of : FuncData} (T_bits_of : FT P w K mg base "bits_of" 1 ["a"] sp_bits_of f_bits_of fd_bits_of) : FnOk P w K mg base (L2.CX P w) 2 f fd ["a"] (LP K mg 1 sp_width_of) := def_ok F sc_width_of (fun cdv A outer s H E hr => by
  have nd := sc_width_of.nd
  have hu := hr.units
  have hp := own_cx (P := P) (w := w) (K := K) (mg := mg) (base := base) (N := ["a", "places"]) (qual := "width_of") (scope := defScope s_width_of) (f := f) (cd := cdv) (A := A) (outer := outer) (s := s) (H := H) (E := E)
  have hx := pass_cx (P := P) (w := w) (K := K) (mg := mg) (base := base) (N := ["a", "places"]) (qual := "width_of") (scope := defScope s_width_of) (f := f) (cd := cdv) (A := A) (outer := outer) (s := s) (H := H) (E := E)
  exact (q_scons (q_set (i := 1) nd (q_call T_bits_of.ok (hr.mono (by decide)) (by rfl) T_bits_of.hm T_bits_of.hk T_bits_of.hb hx (q_cons (q_var 0) q_nil))) (q_one1 (q_ret (q_ifE (q_tcmp (o_ne hu) (q_var 1) (q_tup q_nil)) (q_op o_add (q_ix (q_var 1) (q_un o_neg q_int)) q_int) q_int))))) k_width_of
theorem ok_is_word_of {f : Addr} {fd : FuncData} (F : FnP K "is_word_of" s_is_word_of f fd) {f_is_natural : Addr} {fd_is_natural : FuncData} (T_is_natural : FT P w K mg base "is_natural" 2 ["value"] sp_is_natural f_is_natural fd_is_natural) {f_width_of : Addr} {fd_width_of : FuncData} (T_width_of : FT P w K mg base "width_of" 2 ["a"] sp_width_of f_width_of fd_width_of) : FnOk P w K mg base (L2.CX P w) 3 f fd ["w", "told"] (LP K mg 2 sp_is_word_of) := def_ok F sc_is_word_of (fun cdv A outer s H E hr => by
  have nd := sc_is_word_of.nd
  have hu := hr.units
  have hp := own_cx (P := P) (w := w) (K := K) (mg := mg) (base := base) (N := ["w", "told"]) (qual := "is_word_of") (scope := defScope s_is_word_of) (f := f) (cd := cdv) (A := A) (outer := outer) (s := s) (H := H) (E := E)
  have hx := pass_cx (P := P) (w := w) (K := K) (mg := mg) (base := base) (N := ["w", "told"]) (qual := "is_word_of") (scope := defScope s_is_word_of) (f := f) (cd := cdv) (A := A) (outer := outer) (s := s) (H := H) (E := E)
  exact (q_one1 (q_ret (q_andV (q_call T_is_natural.ok (hr.mono (by decide)) (by rfl) T_is_natural.hm T_is_natural.hk T_is_natural.hb hx (q_cons (q_var 1) q_nil)) (q_one (q_cmp o_le (q_call T_width_of.ok (hr.mono (by decide)) (by rfl) T_width_of.hm T_width_of.hk T_width_of.hb hx (q_cons (q_var 1) q_nil)) (q_var 0))))))) k_is_word_of
theorem ok_told_by_row {f : Addr} {fd : FuncData} (F : FnP K "told_by_row" s_told_by_row f fd) {f_sum_of_words : Addr} {fd_sum_of_words : FuncData} (T_sum_of_words : FT P w K mg base "sum_of_words" 1 ["words"] sp_sum_of_words f_sum_of_words fd_sum_of_words) : FnOk P w K mg base (L2.CX P w) 2 f fd ["table", "row"] (LP K mg 2 sp_told_by_row) := def_ok F sc_told_by_row (fun cdv A outer s H E hr => by
  have nd := sc_told_by_row.nd
  have hu := hr.units
  have hp := own_cx (P := P) (w := w) (K := K) (mg := mg) (base := base) (N := ["table", "row", "cell"]) (qual := "told_by_row") (scope := defScope s_told_by_row) (f := f) (cd := cdv) (A := A) (outer := outer) (s := s) (H := H) (E := E)
  have hx := pass_cx (P := P) (w := w) (K := K) (mg := mg) (base := base) (N := ["table", "row", "cell"]) (qual := "told_by_row") (scope := defScope s_told_by_row) (f := f) (cd := cdv) (A := A) (outer := outer) (s := s) (H := H) (E := E)
  exact (q_one1 (q_ret (q_call T_sum_of_words.ok (hr.mono (by decide)) (by rfl) T_sum_of_words.hm T_sum_of_words.hk T_sum_of_words.hb hx (q_cons (q_lc (own := [("cell", 2)]) rfl nd (q_iSq (q_var 1)) (blkOk_by (by kernel_rfl)) (fun _ _ _ _ _ => (q_gnm (i := 2) nd)) (fun _ _ _ _ _ => q_tnil) (fun _ _ _ _ _ => (q_ix (q_var 0) (q_var 2)))) q_nil))))) k_told_by_row
theorem ok_is_pair_below {f : Addr} {fd : FuncData} (F : FnP K "is_pair_below" s_is_pair_below f fd) {f_is_integer : Addr} {fd_is_integer : FuncData} (T_is_integer : FT P w K mg base "is_integer" 1 ["value"] sp_is_integer f_is_integer fd_is_integer) (m_isinstance : mg "isinstance" = none) (m_tuple : mg "tuple" = none) (m_len : mg "len" = none) (m_all : mg "all" = none) : FnOk P w K mg base (L2.CX P w) 2 f fd ["p", "told"] (LP K mg 2 sp_is_pair_below) := def_ok F sc_is_pair_below (fun cdv A outer s H E hr => by
  have nd := sc_is_pair_below.nd
  have hu := hr.units
  have hp := own_cx (P := P) (w := w) (K := K) (mg := mg) (base := base) (N := ["p", "told", "number"]) (qual := "is_pair_below") (scope := defScope s_is_pair_below) (f := f) (cd := cdv) (A := A) (outer := outer) (s := s) (H := H) (E := E)
  have hx := pass_cx (P := P) (w := w) (K := K) (mg := mg) (base := base) (N := ["p", "told", "number"]) (qual := "is_pair_below") (scope := defScope s_is_pair_below) (f := f) (cd := cdv) (A := A) (outer := outer) (s := s) (H := H) (E := E)
  exact (q_scons (q_if (q_w (q_or (q_not (q_tval (q_isi .tuple (by decide) (q_var 1) (by rfl) m_isinstance (by rfl) m_tuple (by decide +kernel)))) (q_or1 (q_tcmp (o_ne hu) (q_callB c_len (by rfl) m_len boot_len (q_cons (q_var 1) q_nil)) q_int)))) (q_one1 (q_ret q_bl)) q_snil) (q_one1 (q_ret (q_callB (c_all rfl) (by rfl) m_all boot_all (q_cons (q_lc (own := [("number", 2)]) rfl nd (q_iSq (q_var 1)) (blkOk_by (by kernel_rfl)) (fun _ _ _ _ _ => (q_gnm (i := 2) nd)) (fun _ _ _ _ _ => q_tnil) (fun _ _ _ _ _ => (q_andV (q_call T_is_integer.ok (hr.mono (by decide)) (by rfl) T_is_integer.hm T_is_integer.hk T_is_integer.hb passE0 (q_cons (q_var 2) q_nil)) (q_one (q_chain o_le o_lt q_int (q_var 2) (q_var 0)))))) q_nil)))))) k_is_pair_below
theorem ok_is_mixing_told {f : Addr} {fd : FuncData} (F : FnP K "is_mixing_told" s_is_mixing_told f fd) {f_is_integer : Addr} {fd_is_integer : FuncData} (T_is_integer : FT P w K mg base "is_integer" 1 ["value"] sp_is_integer f_is_integer fd_is_integer) {f_is_pair_below : Addr} {fd_is_pair_below : FuncData} (T_is_pair_below : FT P w K mg base "is_pair_below" 2 ["p", "told"] sp_is_pair_below f_is_pair_below fd_is_pair_below) (m_isinstance : mg "isinstance" = none) (m_tuple : mg "tuple" = none) (m_len : mg "len" = none) (m_all : mg "all" = none) : FnOk P w K mg base (L2.CX P w) 3 f fd ["told"] (LP K mg 1 sp_is_mixing_told) := def_ok F sc_is_mixing_told (fun cdv A outer s H E hr => by
  have nd := sc_is_mixing_told.nd
  have hu := hr.units
  have hp := own_cx (P := P) (w := w) (K := K) (mg := mg) (base := base) (N := ["told", "m", "p", "pairs", "mark", "pair"]) (qual := "is_mixing_told") (scope := defScope s_is_mixing_told) (f := f) (cd := cdv) (A := A) (outer := outer) (s := s) (H := H) (E := E)
  have hx := pass_cx (P := P) (w := w) (K := K) (mg := mg) (base := base) (N := ["told", "m", "p", "pairs", "mark", "pair"]) (qual := "is_mixing_told") (scope := defScope s_is_mixing_told) (f := f) (cd := cdv) (A := A) (outer := outer) (s := s) (H := H) (E := E)
  exact (q_scons (q_if (q_w (q_or (q_not (q_tval (q_isi .tuple (by decide) (q_var 0) (by rfl) m_isinstance (by rfl) m_tuple (by decide +kernel)))) (q_or1 (q_tcmp (o_ne hu) (q_callB c_len (by rfl) m_len boot_len (q_cons (q_var 0) q_nil)) q_int)))) (q_one1 (q_ret q_bl)) q_snil) (q_scons (q_asg (q_var 0) (q_gtp rfl (q_gscons (q_gnm (i := 1) nd) (q_gscons (q_gnm (i := 2) nd) (q_gscons (q_gnm (i := 3) nd) (q_gscons (q_gnm (i := 4) nd) q_gsnil))))).p) (q_scons (q_if (q_w (q_or (q_not (q_tval (q_call T_is_integer.ok (hr.mono (by decide)) (by rfl) T_is_integer.hm T_is_integer.hk T_is_integer.hb hx (q_cons (q_var 1) q_nil)))) (q_or (q_tcmp o_lt (q_var 1) q_int) (q_or (q_not (q_tval (q_call T_is_integer.ok (hr.mono (by decide)) (by rfl) T_is_integer.hm T_is_integer.hk T_is_integer.hb hx (q_cons (q_var 2) q_nil)))) (q_or (q_tcmp o_lt (q_var 2) q_int) (q_or (q_not (q_tval (q_isi .tuple (by decide) (q_var 3) (by rfl) m_isinstance (by rfl) m_tuple (by decide +kernel)))) (q_or1 (q_tcmp (o_eq hu) (q_var 3) (q_tup q_nil))))))))) (q_one1 (q_ret q_bl)) q_snil) (q_one1 (q_ret (q_andV (q_call T_is_pair_below.ok (hr.mono (by decide)) (by rfl) T_is_pair_below.hm T_is_pair_below.hk T_is_pair_below.hb hx (q_cons (q_var 2) (q_cons (q_var 4) q_nil))) (q_one (q_callB (c_all rfl) (by rfl) m_all boot_all (q_cons (q_lc (own := [("pair", 5)]) rfl nd (q_iSq (q_var 3)) (blkOk_by (by kernel_rfl)) (fun _ _ _ _ _ => (q_gnm (i := 5) nd)) (fun _ _ _ _ _ => q_tnil) (fun _ _ _ _ _ => (q_call T_is_pair_below.ok (hr.mono (by decide)) (by rfl) T_is_pair_below.hm T_is_pair_below.hk T_is_pair_below.hb passE0 (q_cons (q_var 2) (q_cons (q_var 5) q_nil))))) q_nil)))))))))) k_is_mixing_told
theorem ok_check_from {f : Addr} {fd : FuncData} (F : FnP K "check_from" s_check_from f fd) {f_is_integer : Addr} {fd_is_integer : FuncData} (T_is_integer : FT P w K mg base "is_integer" 1 ["value"] sp_is_integer f_is_integer fd_is_integer) {fd_init : FuncData} (hI : IniT P w K mg base fd_init) (x_InvalidNumber : exB K "InvalidNumber" = true) (c_InvalidNumber : mg "InvalidNumber" = some (.ref (He.ga K "InvalidNumber"))) : FnOk P w K mg base (L2.CX P w) 3 f fd ["number", "least"] (LP K mg 2 sp_check_from) := def_ok F sc_check_from (fun cdv A outer s H E hr => by
  have nd := sc_check_from.nd
  have hu := hr.units
  have hp := own_cx (P := P) (w := w) (K := K) (mg := mg) (base := base) (N := ["number", "least"]) (qual := "check_from") (scope := defScope s_check_from) (f := f) (cd := cdv) (A := A) (outer := outer) (s := s) (H := H) (E := E)
  have hx := pass_cx (P := P) (w := w) (K := K) (mg := mg) (base := base) (N := ["number", "least"]) (qual := "check_from") (scope := defScope s_check_from) (f := f) (cd := cdv) (A := A) (outer := outer) (s := s) (H := H) (E := E)
  have ht := takes_cx (P := P) (w := w) (K := K) (mg := mg) (base := base) (N := ["number", "least"]) (qual := "check_from") (scope := defScope s_check_from) (f := f) (cd := cdv) (A := A) (outer := outer) (s := s) (H := H) (E := E)
  exact (q_one1 (q_if (q_w (q_or (q_not (q_tval (q_call T_is_integer.ok (hr.mono (by decide)) (by rfl) T_is_integer.hm T_is_integer.hk T_is_integer.hb hx (q_cons (q_var 0) q_nil)))) (q_or1 (q_tcmp o_lt (q_var 0) (q_var 1))))) (q_one1 (q_raise rfl hI (hr.mono (by decide)) ht x_InvalidNumber c_InvalidNumber (q_cons (q_var 0) q_nil))) q_snil))) k_check_from
theorem ok_check_numbers {f : Addr} {fd : FuncData} (F : FnP K "check_numbers" s_check_numbers f fd) {f_is_integer : Addr} {fd_is_integer : FuncData} (T_is_integer : FT P w K mg base "is_integer" 1 ["value"] sp_is_integer f_is_integer fd_is_integer) (m_isinstance : mg "isinstance" = none) (m_list : mg "list" = none) (m_tuple : mg "tuple" = none) (m_all : mg "all" = none) (m_len : mg "len" = none) (m_set : mg "set" = none) {fd_init : FuncData} (hI : IniT P w K mg base fd_init) (x_InvalidValues : exB K "InvalidValues" = true) (c_InvalidValues : mg "InvalidValues" = some (.ref (He.ga K "InvalidValues"))) : FnOk P w K mg base (L2.CX P w) 3 f fd ["numbers"] (LP K mg 1 sp_check_numbers) := def_ok F sc_check_numbers (fun cdv A outer s H E hr => by
  have nd := sc_check_numbers.nd
  have hu := hr.units
  have hp := own_cx (P := P) (w := w) (K := K) (mg := mg) (base := base) (N := ["numbers", "good", "number"]) (qual := "check_numbers") (scope := defScope s_check_numbers) (f := f) (cd := cdv) (A := A) (outer := outer) (s := s) (H := H) (E := E)
  have hx := pass_cx (P := P) (w := w) (K := K) (mg := mg) (base := base) (N := ["numbers", "good", "number"]) (qual := "check_numbers") (scope := defScope s_check_numbers) (f := f) (cd := cdv) (A := A) (outer := outer) (s := s) (H := H) (E := E)
  have ht := takes_cx (P := P) (w := w) (K := K) (mg := mg) (base := base) (N := ["numbers", "good", "number"]) (qual := "check_numbers") (scope := defScope s_check_numbers) (f := f) (cd := cdv) (A := A) (outer := outer) (s := s) (H := H) (E := E)
  exact (q_scons (q_set (i := 1) nd (q_andV (q_isi2 .list .tuple (by decide) (by decide) (q_var 0) (by rfl) m_isinstance (by rfl) m_list (by decide +kernel) (by rfl) m_tuple (by decide +kernel)) (q_one (q_callB (c_all rfl) (by rfl) m_all boot_all (q_cons (q_lc (own := [("number", 2)]) rfl nd (q_iSq (q_var 0)) (blkOk_by (by kernel_rfl)) (fun _ _ _ _ _ => (q_gnm (i := 2) nd)) (fun _ _ _ _ _ => q_tnil) (fun _ _ _ _ _ => (q_andV (q_call T_is_integer.ok (hr.mono (by decide)) (by rfl) T_is_integer.hm T_is_integer.hk T_is_integer.hb passE0 (q_cons (q_var 2) q_nil)) (q_one (q_cmp o_ge (q_var 2) q_int))))) q_nil))))) (q_one1 (q_if (q_w (q_or (q_not (q_tval (q_var 1))) (q_or1 (q_tcmp o_lt (q_lenNew rfl m_len m_set (q_var 0)) (q_callB c_len (by rfl) m_len boot_len (q_cons (q_var 0) q_nil)))))) (q_one1 (q_raise rfl hI (hr.mono (by decide)) ht x_InvalidValues c_InvalidValues (q_cons (q_var 0) q_nil))) q_snil)))) k_check_numbers
theorem ok_mixed {f : Addr} {fd : FuncData} (F : FnP K "mixed" s_mixed f fd) : FnOk P w K mg base (L2.CX P w) 1 f fd ["pair", "p", "x"] (LP K mg 3 sp_mixed) := def_ok F sc_mixed (fun cdv A outer s H E hr => by
  have nd := sc_mixed.nd
  have hu := hr.units
  have hp := own_cx (P := P) (w := w) (K := K) (mg := mg) (base := base) (N := ["pair", "p", "x"]) (qual := "mixed") (scope := defScope s_mixed) (f := f) (cd := cdv) (A := A) (outer := outer) (s := s) (H := H) (E := E)
  have hx := pass_cx (P := P) (w := w) (K := K) (mg := mg) (base := base) (N := ["pair", "p", "x"]) (qual := "mixed") (scope := defScope s_mixed) (f := f) (cd := cdv) (A := A) (outer := outer) (s := s) (H := H) (E := E)
  exact (q_one1 (q_ret (q_op o_mod (q_op o_add (q_op o_mul (q_ix (q_var 0) q_int) (q_var 2)) (q_ix (q_var 0) q_int)) (q_var 1))))) k_mixed
theorem ok_row_by {f : Addr} {fd : FuncData} (F : FnP K "row_by" s_row_by f fd) {f_mixed : Addr} {fd_mixed : FuncData} (T_mixed : FT P w K mg base "mixed" 1 ["pair", "p", "x"] sp_mixed f_mixed fd_mixed) (m_tuple : mg "tuple" = none) (m_sorted : mg "sorted" = none) (m_set : mg "set" = none) : FnOk P w K mg base (L2.CX P w) 2 f fd ["mixing", "x"] (LP K mg 2 sp_row_by) := def_ok F sc_row_by (fun cdv A outer s H E hr => by
  have nd := sc_row_by.nd
  have hu := hr.units
  have hp := own_cx (P := P) (w := w) (K := K) (mg := mg) (base := base) (N := ["mixing", "x", "m", "p", "pairs", "mark", "pair"]) (qual := "row_by") (scope := defScope s_row_by) (f := f) (cd := cdv) (A := A) (outer := outer) (s := s) (H := H) (E := E)
  have hx := pass_cx (P := P) (w := w) (K := K) (mg := mg) (base := base) (N := ["mixing", "x", "m", "p", "pairs", "mark", "pair"]) (qual := "row_by") (scope := defScope s_row_by) (f := f) (cd := cdv) (A := A) (outer := outer) (s := s) (H := H) (E := E)
  exact (q_scons (q_asg (q_var 0) (q_gtp rfl (q_gscons (q_gnm (i := 2) nd) (q_gscons (q_gnm (i := 3) nd) (q_gscons (q_gnm (i := 4) nd) (q_gscons (q_gnm (i := 5) nd) q_gsnil))))).p) (q_one1 (q_ret (q_callTy c_tuple (by rfl) m_tuple boot_tuple (q_cons (q_srtSet rfl m_sorted m_set (q_lc (own := [("pair", 6)]) rfl nd (q_iSq (q_var 4)) (blkOk_by (by kernel_rfl)) (fun _ _ _ _ _ => (q_gnm (i := 6) nd)) (fun _ _ _ _ _ => q_tnil) (fun _ _ _ _ _ => (q_op o_mod (q_call T_mixed.ok (hr.mono (by decide)) (by rfl) T_mixed.hm T_mixed.hk T_mixed.hb passE0 (q_cons (q_var 6) (q_cons (q_var 3) (q_cons (q_var 1) q_nil)))) (q_var 2))))) q_nil)))))) k_row_by
theorem ok_mark_by {f : Addr} {fd : FuncData} (F : FnP K "mark_by" s_mark_by f fd) {f_mixed : Addr} {fd_mixed : FuncData} (T_mixed : FT P w K mg base "mixed" 1 ["pair", "p", "x"] sp_mixed f_mixed fd_mixed) : FnOk P w K mg base (L2.CX P w) 2 f fd ["mixing", "w", "x"] (LP K mg 3 sp_mark_by) := def_ok F sc_mark_by (fun cdv A outer s H E hr => by
  have nd := sc_mark_by.nd
  have hu := hr.units
  have hp := own_cx (P := P) (w := w) (K := K) (mg := mg) (base := base) (N := ["mixing", "w", "x"]) (qual := "mark_by") (scope := defScope s_mark_by) (f := f) (cd := cdv) (A := A) (outer := outer) (s := s) (H := H) (E := E)
  have hx := pass_cx (P := P) (w := w) (K := K) (mg := mg) (base := base) (N := ["mixing", "w", "x"]) (qual := "mark_by") (scope := defScope s_mark_by) (f := f) (cd := cdv) (A := A) (outer := outer) (s := s) (H := H) (E := E)
  exact (q_one1 (q_ret (q_op o_mod (q_call T_mixed.ok (hr.mono (by decide)) (by rfl) T_mixed.hm T_mixed.hk T_mixed.hb hx (q_cons (q_ix (q_var 0) q_int) (q_cons (q_ix (q_var 0) q_int) (q_cons (q_var 2) q_nil)))) (q_op o_shl q_int (q_var 1)))))) k_mark_by
theorem ok_is_mesh {f : Addr} {fd : FuncData} (F : FnP K "is_mesh" s_is_mesh f fd) {f_is_mixing_told : Addr} {fd_is_mixing_told : FuncData} (T_is_mixing_told : FT P w K mg base "is_mixing_told" 3 ["told"] sp_is_mixing_told f_is_mixing_told fd_is_mixing_told) {f_is_integer : Addr} {fd_is_integer : FuncData} (T_is_integer : FT P w K mg base "is_integer" 1 ["value"] sp_is_integer f_is_integer fd_is_integer) {f_is_word_of : Addr} {fd_is_word_of : FuncData} (T_is_word_of : FT P w K mg base "is_word_of" 3 ["w", "told"] sp_is_word_of f_is_word_of fd_is_word_of) (m_isinstance : mg "isinstance" = none) (m_tuple : mg "tuple" = none) (m_len : mg "len" = none) (m_all : mg "all" = none) : FnOk P w K mg base (L2.CX P w) 4 f fd ["told"] (LP K mg 1 sp_is_mesh) := def_ok F sc_is_mesh (fun cdv A outer s H E hr => by
  have nd := sc_is_mesh.nd
  have hu := hr.units
  have hp := own_cx (P := P) (w := w) (K := K) (mg := mg) (base := base) (N := ["told", "mixing", "w", "table", "word"]) (qual := "is_mesh") (scope := defScope s_is_mesh) (f := f) (cd := cdv) (A := A) (outer := outer) (s := s) (H := H) (E := E)
  have hx := pass_cx (P := P) (w := w) (K := K) (mg := mg) (base := base) (N := ["told", "mixing", "w", "table", "word"]) (qual := "is_mesh") (scope := defScope s_is_mesh) (f := f) (cd := cdv) (A := A) (outer := outer) (s := s) (H := H) (E := E)
  exact (q_scons (q_if (q_w (q_or (q_not (q_tval (q_isi .tuple (by decide) (q_var 0) (by rfl) m_isinstance (by rfl) m_tuple (by decide +kernel)))) (q_or (q_tcmp (o_ne hu) (q_callB c_len (by rfl) m_len boot_len (q_cons (q_var 0) q_nil)) q_int) (q_or1 (q_not (q_tval (q_call T_is_mixing_told.ok (hr.mono (by decide)) (by rfl) T_is_mixing_told.hm T_is_mixing_told.hk T_is_mixing_told.hb hx (q_cons (q_ix (q_var 0) q_int) q_nil)))))))) (q_one1 (q_ret q_bl)) q_snil) (q_scons (q_asg (q_var 0) (q_gtp rfl (q_gscons (q_gnm (i := 1) nd) (q_gscons (q_gnm (i := 2) nd) (q_gscons (q_gnm (i := 3) nd) q_gsnil)))).p) (q_scons (q_if (q_w (q_or (q_not (q_tval (q_call T_is_integer.ok (hr.mono (by decide)) (by rfl) T_is_integer.hm T_is_integer.hk T_is_integer.hb hx (q_cons (q_var 2) q_nil)))) (q_or (q_tcmp o_lt (q_var 2) q_int) (q_or (q_not (q_tval (q_isi .tuple (by decide) (q_var 3) (by rfl) m_isinstance (by rfl) m_tuple (by decide +kernel)))) (q_or1 (q_tcmp (o_ne hu) (q_callB c_len (by rfl) m_len boot_len (q_cons (q_var 3) q_nil)) (q_ix (q_var 1) q_int))))))) (q_one1 (q_ret q_bl)) q_snil) (q_one1 (q_ret (q_callB (c_all rfl) (by rfl) m_all boot_all (q_cons (q_lc (own := [("word", 4)]) rfl nd (q_iSq (q_var 3)) (blkOk_by (by kernel_rfl)) (fun _ _ _ _ _ => (q_gnm (i := 4) nd)) (fun _ _ _ _ _ => q_tnil) (fun _ _ _ _ _ => (q_call T_is_word_of.ok (hr.mono (by decide)) (by rfl) T_is_word_of.hm T_is_word_of.hk T_is_word_of.hb passE0 (q_cons (q_var 2) (q_cons (q_var 4) q_nil))))) q_nil)))))))) k_is_mesh
theorem ok_check_mesh {f : Addr} {fd : FuncData} (F : FnP K "check_mesh" s_check_mesh f fd) {f_is_mesh : Addr} {fd_is_mesh : FuncData} (T_is_mesh : FT P w K mg base "is_mesh" 4 ["told"] sp_is_mesh f_is_mesh fd_is_mesh) {fd_init : FuncData} (hI : IniT P w K mg base fd_init) (x_InvalidFilter : exB K "InvalidFilter" = true) (c_InvalidFilter : mg "InvalidFilter" = some (.ref (He.ga K "InvalidFilter"))) : FnOk P w K mg base (L2.CX P w) 5 f fd ["mesh"] (LP K mg 1 sp_check_mesh) := def_ok F sc_check_mesh (fun cdv A outer s H E hr => by
  have nd := sc_check_mesh.nd
  have hu := hr.units
  have hp := own_cx (P := P) (w := w) (K := K) (mg := mg) (base := base) (N := ["mesh"]) (qual := "check_mesh") (scope := defScope s_check_mesh) (f := f) (cd := cdv) (A := A) (outer := outer) (s := s) (H := H) (E := E)
  have hx := pass_cx (P := P) (w := w) (K := K) (mg := mg) (base := base) (N := ["mesh"]) (qual := "check_mesh") (scope := defScope s_check_mesh) (f := f) (cd := cdv) (A := A) (outer := outer) (s := s) (H := H) (E := E)
  have ht := takes_cx (P := P) (w := w) (K := K) (mg := mg) (base := base) (N := ["mesh"]) (qual := "check_mesh") (scope := defScope s_check_mesh) (f := f) (cd := cdv) (A := A) (outer := outer) (s := s) (H := H) (E := E)
  exact (q_one1 (q_if (q_not (q_tval (q_call T_is_mesh.ok (hr.mono (by decide)) (by rfl) T_is_mesh.hm T_is_mesh.hk T_is_mesh.hb hx (q_cons (q_var 0) q_nil)))) (q_one1 (q_raise rfl hI (hr.mono (by decide)) ht x_InvalidFilter c_InvalidFilter (q_cons (q_var 0) q_nil))) q_snil))) k_check_mesh
theorem ok_lets {f : Addr} {fd : FuncData} (F : FnP K "lets" s_lets f fd) {f_told_by_row : Addr} {fd_told_by_row : FuncData} (T_told_by_row : FT P w K mg base "told_by_row" 2 ["table", "row"] sp_told_by_row f_told_by_row fd_told_by_row) {f_row_by : Addr} {fd_row_by : FuncData} (T_row_by : FT P w K mg base "row_by" 2 ["mixing", "x"] sp_row_by f_row_by fd_row_by) {f_mark_by : Addr} {fd_mark_by : FuncData} (T_mark_by : FT P w K mg base "mark_by" 2 ["mixing", "w", "x"] sp_mark_by f_mark_by fd_mark_by) : FnOk P w K mg base (L2.CX P w) 3 f fd ["mesh", "x"] (LP K mg 2 sp_lets) := def_ok F sc_lets (fun cdv A outer s H E hr => by
  have nd := sc_lets.nd
  have hu := hr.units
  have hp := own_cx (P := P) (w := w) (K := K) (mg := mg) (base := base) (N := ["mesh", "x", "mixing", "w", "table"]) (qual := "lets") (scope := defScope s_lets) (f := f) (cd := cdv) (A := A) (outer := outer) (s := s) (H := H) (E := E)
  have hx := pass_cx (P := P) (w := w) (K := K) (mg := mg) (base := base) (N := ["mesh", "x", "mixing", "w", "table"]) (qual := "lets") (scope := defScope s_lets) (f := f) (cd := cdv) (A := A) (outer := outer) (s := s) (H := H) (E := E)
  exact (q_scons (q_asg (q_var 0) (q_gtp rfl (q_gscons (q_gnm (i := 2) nd) (q_gscons (q_gnm (i := 3) nd) (q_gscons (q_gnm (i := 4) nd) q_gsnil)))).p) (q_one1 (q_ret (q_cmp (o_eq hu) (q_call T_told_by_row.ok (hr.mono (by decide)) (by rfl) T_told_by_row.hm T_told_by_row.hk T_told_by_row.hb hx (q_cons (q_var 4) (q_cons (q_call T_row_by.ok (hr.mono (by decide)) (by rfl) T_row_by.hm T_row_by.hk T_row_by.hb hx (q_cons (q_var 2) (q_cons (q_var 1) q_nil))) q_nil))) (q_call T_mark_by.ok (hr.mono (by decide)) (by rfl) T_mark_by.hm T_mark_by.hk T_mark_by.hb hx (q_cons (q_var 2) (q_cons (q_var 3) (q_cons (q_var 1) q_nil))))))))) k_lets
theorem ok_let_rests {f : Addr} {fd : FuncData} (F : FnP K "let_rests" s_let_rests f fd) {f_lets : Addr} {fd_lets : FuncData} (T_lets : FT P w K mg base "lets" 3 ["mesh", "x"] sp_lets f_lets fd_lets) (m_range : mg "range" = none) : FnOk P w K mg base (L2.CX P w) 4 f fd ["mesh"] (LP K mg 1 sp_let_rests) := def_ok F sc_let_rests (fun cdv A outer s H E hr => by
  have nd := sc_let_rests.nd
  have hu := hr.units
  have hp := own_cx (P := P) (w := w) (K := K) (mg := mg) (base := base) (N := ["mesh", "x"]) (qual := "let_rests") (scope := defScope s_let_rests) (f := f) (cd := cdv) (A := A) (outer := outer) (s := s) (H := H) (E := E)
  have hx := pass_cx (P := P) (w := w) (K := K) (mg := mg) (base := base) (N := ["mesh", "x"]) (qual := "let_rests") (scope := defScope s_let_rests) (f := f) (cd := cdv) (A := A) (outer := outer) (s := s) (H := H) (E := E)
  exact (q_one1 (q_ret (q_lc (own := [("x", 1)]) rfl nd (q_rg1 (by rfl) m_range (q_cons (q_ix (q_ix (q_var 0) q_int) q_int) q_nil)) (blkOk_by (by kernel_rfl)) (fun _ _ _ _ _ => (q_gnm (i := 1) nd)) (fun _ _ _ _ _ => q_tnil) (fun _ _ _ _ _ => (q_call T_lets.ok (hr.mono (by decide)) (by rfl) T_lets.hm T_lets.hk T_lets.hb passE0 (q_cons (q_var 0) (q_cons (q_var 1) q_nil)))))))) k_let_rests
theorem ok_is_filter {f : Addr} {fd : FuncData} (F : FnP K "is_filter" s_is_filter f fd) {f_is_mesh : Addr} {fd_is_mesh : FuncData} (T_is_mesh : FT P w K mg base "is_mesh" 4 ["told"] sp_is_mesh f_is_mesh fd_is_mesh) : FnOk P w K mg base (L2.CX P w) 5 f fd ["told"] (LP K mg 1 sp_is_filter) := def_ok F sc_is_filter (fun cdv A outer s H E hr => by
  have nd := sc_is_filter.nd
  have hu := hr.units
  have hp := own_cx (P := P) (w := w) (K := K) (mg := mg) (base := base) (N := ["told"]) (qual := "is_filter") (scope := defScope s_is_filter) (f := f) (cd := cdv) (A := A) (outer := outer) (s := s) (H := H) (E := E)
  have hx := pass_cx (P := P) (w := w) (K := K) (mg := mg) (base := base) (N := ["told"]) (qual := "is_filter") (scope := defScope s_is_filter) (f := f) (cd := cdv) (A := A) (outer := outer) (s := s) (H := H) (E := E)
  exact (q_one1 (q_ret (q_call T_is_mesh.ok (hr.mono (by decide)) (by rfl) T_is_mesh.hm T_is_mesh.hk T_is_mesh.hb hx (q_cons (q_var 0) q_nil))))) k_is_filter
theorem ok_lets_in {f : Addr} {fd : FuncData} (F : FnP K "lets_in" s_lets_in f fd) {f_check_mesh : Addr} {fd_check_mesh : FuncData} (T_check_mesh : FT P w K mg base "check_mesh" 5 ["mesh"] sp_check_mesh f_check_mesh fd_check_mesh) {f_check_from : Addr} {fd_check_from : FuncData} (T_check_from : FT P w K mg base "check_from" 3 ["number", "least"] sp_check_from f_check_from fd_check_from) {f_lets : Addr} {fd_lets : FuncData} (T_lets : FT P w K mg base "lets" 3 ["mesh", "x"] sp_lets f_lets fd_lets) : FnOk P w K mg base (L2.CX P w) 6 f fd ["mesh", "x"] (LP K mg 2 sp_lets_in) := def_ok F sc_lets_in (fun cdv A outer s H E hr => by
  have nd := sc_lets_in.nd
  have hu := hr.units
  have hp := own_cx (P := P) (w := w) (K := K) (mg := mg) (base := base) (N := ["mesh", "x"]) (qual := "lets_in") (scope := defScope s_lets_in) (f := f) (cd := cdv) (A := A) (outer := outer) (s := s) (H := H) (E := E)
  have hx := pass_cx (P := P) (w := w) (K := K) (mg := mg) (base := base) (N := ["mesh", "x"]) (qual := "lets_in") (scope := defScope s_lets_in) (f := f) (cd := cdv) (A := A) (outer := outer) (s := s) (H := H) (E := E)
  exact (q_scons (q_expr (q_call T_check_mesh.ok (hr.mono (by decide)) (by rfl) T_check_mesh.hm T_check_mesh.hk T_check_mesh.hb hx (q_cons (q_var 0) q_nil))) (q_scons (q_expr (q_call T_check_from.ok (hr.mono (by decide)) (by rfl) T_check_from.hm T_check_from.hk T_check_from.hb hx (q_cons (q_var 1) (q_cons q_int q_nil)))) (q_one1 (q_ret (q_call T_lets.ok (hr.mono (by decide)) (by rfl) T_lets.hm T_lets.hk T_lets.hb hx (q_cons (q_var 0) (q_cons (q_var 1) q_nil)))))))) k_lets_in
theorem ok_wrongly {f : Addr} {fd : FuncData} (F : FnP K "wrongly" s_wrongly f fd) {f_check_mesh : Addr} {fd_check_mesh : FuncData} (T_check_mesh : FT P w K mg base "check_mesh" 5 ["mesh"] sp_check_mesh f_check_mesh fd_check_mesh) {f_check_from : Addr} {fd_check_from : FuncData} (T_check_from : FT P w K mg base "check_from" 3 ["number", "least"] sp_check_from f_check_from fd_check_from) {f_check_numbers : Addr} {fd_check_numbers : FuncData} (T_check_numbers : FT P w K mg base "check_numbers" 3 ["numbers"] sp_check_numbers f_check_numbers fd_check_numbers) {f_lets : Addr} {fd_lets : FuncData} (T_lets : FT P w K mg base "lets" 3 ["mesh", "x"] sp_lets f_lets fd_lets) (m_range : mg "range" = none) : FnOk P w K mg base (L2.CX P w) 6 f fd ["mesh", "numbers", "many"] (LP K mg 3 sp_wrongly) := def_ok F sc_wrongly (fun cdv A outer s H E hr => by
  have nd := sc_wrongly.nd
  have hu := hr.units
  have hp := own_cx (P := P) (w := w) (K := K) (mg := mg) (base := base) (N := ["mesh", "numbers", "many", "x"]) (qual := "wrongly") (scope := defScope s_wrongly) (f := f) (cd := cdv) (A := A) (outer := outer) (s := s) (H := H) (E := E)
  have hx := pass_cx (P := P) (w := w) (K := K) (mg := mg) (base := base) (N := ["mesh", "numbers", "many", "x"]) (qual := "wrongly") (scope := defScope s_wrongly) (f := f) (cd := cdv) (A := A) (outer := outer) (s := s) (H := H) (E := E)
  exact (q_scons (q_expr (q_call T_check_mesh.ok (hr.mono (by decide)) (by rfl) T_check_mesh.hm T_check_mesh.hk T_check_mesh.hb hx (q_cons (q_var 0) q_nil))) (q_scons (q_expr (q_call T_check_from.ok (hr.mono (by decide)) (by rfl) T_check_from.hm T_check_from.hk T_check_from.hb hx (q_cons (q_var 2) (q_cons q_int q_nil)))) (q_scons (q_expr (q_call T_check_numbers.ok (hr.mono (by decide)) (by rfl) T_check_numbers.hm T_check_numbers.hk T_check_numbers.hb hx (q_cons (q_var 1) q_nil))) (q_one1 (q_ret (q_lc (own := [("x", 3)]) rfl nd (q_rg1 (by rfl) m_range (q_cons (q_var 2) q_nil)) (blkOk_by (by kernel_rfl)) (fun _ _ _ _ _ => (q_gnm (i := 3) nd)) (fun _ _ _ _ _ => (q_tone (q_w (q_and (q_tval (q_call T_lets.ok (hr.mono (by decide)) (by rfl) T_lets.hm T_lets.hk T_lets.hb passE0 (q_cons (q_var 0) (q_cons (q_var 3) q_nil)))) (q_and1 (q_tcmp o_notIn (q_var 3) (q_var 1))))))) (fun _ _ _ _ _ => (q_var 3))))))))) k_wrongly
theorem ok_how_many_in {f : Addr} {fd : FuncData} (F : FnP K "how_many_in" s_how_many_in f fd) {f_check_mesh : Addr} {fd_check_mesh : FuncData} (T_check_mesh : FT P w K mg base "check_mesh" 5 ["mesh"] sp_check_mesh f_check_mesh fd_check_mesh) {f_check_from : Addr} {fd_check_from : FuncData} (T_check_from : FT P w K mg base "check_from" 3 ["number", "least"] sp_check_from f_check_from fd_check_from) {f_let_rests : Addr} {fd_let_rests : FuncData} (T_let_rests : FT P w K mg base "let_rests" 4 ["mesh"] sp_let_rests f_let_rests fd_let_rests) (m_len : mg "len" = none) (m_sum : mg "sum" = none) : FnOk P w K mg base (L2.CX P w) 6 f fd ["mesh", "many"] (LP K mg 2 sp_how_many_in) := def_ok F sc_how_many_in (fun cdv A outer s H E hr => by
  have nd := sc_how_many_in.nd
  have hu := hr.units
  have hp := own_cx (P := P) (w := w) (K := K) (mg := mg) (base := base) (N := ["mesh", "many", "rests"]) (qual := "how_many_in") (scope := defScope s_how_many_in) (f := f) (cd := cdv) (A := A) (outer := outer) (s := s) (H := H) (E := E)
  have hx := pass_cx (P := P) (w := w) (K := K) (mg := mg) (base := base) (N := ["mesh", "many", "rests"]) (qual := "how_many_in") (scope := defScope s_how_many_in) (f := f) (cd := cdv) (A := A) (outer := outer) (s := s) (H := H) (E := E)
  exact (q_scons (q_expr (q_call T_check_mesh.ok (hr.mono (by decide)) (by rfl) T_check_mesh.hm T_check_mesh.hk T_check_mesh.hb hx (q_cons (q_var 0) q_nil))) (q_scons (q_expr (q_call T_check_from.ok (hr.mono (by decide)) (by rfl) T_check_from.hm T_check_from.hk T_check_from.hb hx (q_cons (q_var 1) (q_cons q_int q_nil)))) (q_scons (q_set (i := 2) nd (q_call T_let_rests.ok (hr.mono (by decide)) (by rfl) T_let_rests.hm T_let_rests.hk T_let_rests.hb hx (q_cons (q_var 0) q_nil))) (q_one1 (q_ret (q_op o_add (q_op o_mul (q_op o_fdiv (q_var 1) (q_callB c_len (by rfl) m_len boot_len (q_cons (q_var 2) q_nil))) (q_callB (c_sumB rfl) (by rfl) m_sum boot_sum (q_cons (q_var 2) q_nil))) (q_callB (c_sumB rfl) (by rfl) m_sum boot_sum (q_cons (q_slice (q_var 2) q_noP (q_part (q_op o_mod (q_var 1) (q_callB c_len (by rfl) m_len boot_len (q_cons (q_var 2) q_nil))))) q_nil))))))))) k_how_many_in
theorem ok_both {f : Addr} {fd : FuncData} (F : FnP K "both" s_both f fd) {f_check_mesh : Addr} {fd_check_mesh : FuncData} (T_check_mesh : FT P w K mg base "check_mesh" 5 ["mesh"] sp_check_mesh f_check_mesh fd_check_mesh) {f_check_from : Addr} {fd_check_from : FuncData} (T_check_from : FT P w K mg base "check_from" 3 ["number", "least"] sp_check_from f_check_from fd_check_from) {f_let_rests : Addr} {fd_let_rests : FuncData} (T_let_rests : FT P w K mg base "let_rests" 4 ["mesh"] sp_let_rests f_let_rests fd_let_rests) (m_len : mg "len" = none) (m_sum : mg "sum" = none) (m_range : mg "range" = none) (mb_gcd : mg "gcd" = some (.builtin "math.gcd")) : FnOk P w K mg base (L2.CX P w) 6 f fd ["one", "other", "many"] (LP K mg 3 sp_both) := def_ok F sc_both (fun cdv A outer s H E hr => by
  have nd := sc_both.nd
  have hu := hr.units
  have hp := own_cx (P := P) (w := w) (K := K) (mg := mg) (base := base) (N := ["one", "other", "many", "first", "second", "common", "whole", "in_round", "rest", "left", "x"]) (qual := "both") (scope := defScope s_both) (f := f) (cd := cdv) (A := A) (outer := outer) (s := s) (H := H) (E := E)
  have hx := pass_cx (P := P) (w := w) (K := K) (mg := mg) (base := base) (N := ["one", "other", "many", "first", "second", "common", "whole", "in_round", "rest", "left", "x"]) (qual := "both") (scope := defScope s_both) (f := f) (cd := cdv) (A := A) (outer := outer) (s := s) (H := H) (E := E)
  exact (q_scons (q_expr (q_call T_check_mesh.ok (hr.mono (by decide)) (by rfl) T_check_mesh.hm T_check_mesh.hk T_check_mesh.hb hx (q_cons (q_var 0) q_nil))) (q_scons (q_expr (q_call T_check_mesh.ok (hr.mono (by decide)) (by rfl) T_check_mesh.hm T_check_mesh.hk T_check_mesh.hb hx (q_cons (q_var 1) q_nil))) (q_scons (q_expr (q_call T_check_from.ok (hr.mono (by decide)) (by rfl) T_check_from.hm T_check_from.hk T_check_from.hb hx (q_cons (q_var 2) (q_cons q_int q_nil)))) (q_scons (q_asg (q_tup (q_cons (q_call T_let_rests.ok (hr.mono (by decide)) (by rfl) T_let_rests.hm T_let_rests.hk T_let_rests.hb hx (q_cons (q_var 0) q_nil)) (q_cons (q_call T_let_rests.ok (hr.mono (by decide)) (by rfl) T_let_rests.hm T_let_rests.hk T_let_rests.hb hx (q_cons (q_var 1) q_nil)) q_nil))) (q_gtp rfl (q_gscons (q_gnm (i := 3) nd) (q_gscons (q_gnm (i := 4) nd) q_gsnil))).p) (q_scons (q_set (i := 5) nd (q_callBf c_gcd mb_gcd (q_cons (q_callB c_len (by rfl) m_len boot_len (q_cons (q_var 3) q_nil)) (q_cons (q_callB c_len (by rfl) m_len boot_len (q_cons (q_var 4) q_nil)) q_nil)))) (q_scons (q_set (i := 6) nd (q_op o_mul (q_op o_fdiv (q_callB c_len (by rfl) m_len boot_len (q_cons (q_var 3) q_nil)) (q_var 5)) (q_callB c_len (by rfl) m_len boot_len (q_cons (q_var 4) q_nil)))) (q_scons (q_set (i := 7) nd (q_callB (c_sum rfl) (by rfl) m_sum boot_sum (q_cons (q_lc (own := [("rest", 8)]) rfl nd (q_rg1 (by rfl) m_range (q_cons (q_var 5) q_nil)) (blkOk_by (by kernel_rfl)) (fun _ _ _ _ _ => (q_gnm (i := 8) nd)) (fun _ _ _ _ _ => q_tnil) (fun _ _ _ _ _ => (q_op o_mul (q_callB (c_sumB rfl) (by rfl) m_sum boot_sum (q_cons (q_stp (q_var 3) (q_part (q_var 8)) (q_part (q_var 5))) q_nil)) (q_callB (c_sumB rfl) (by rfl) m_sum boot_sum (q_cons (q_stp (q_var 4) (q_part (q_var 8)) (q_part (q_var 5))) q_nil))))) q_nil))) (q_scons (q_setLc (i := 9) (own := [("x", 10)]) rfl nd (q_rg1 (by rfl) m_range (q_cons (q_op o_mod (q_var 2) (q_var 6)) q_nil)) (blkOk_by (by kernel_rfl)) (fun _ _ _ _ _ => (q_gnm (i := 10) nd)) (fun _ _ _ _ _ => (q_tone (q_w (q_and (q_tval (q_ix (q_var 3) (q_op o_mod (q_var 10) (q_callB c_len (by rfl) m_len boot_len (q_cons (q_var 3) q_nil))))) (q_and1 (q_tval (q_ix (q_var 4) (q_op o_mod (q_var 10) (q_callB c_len (by rfl) m_len boot_len (q_cons (q_var 4) q_nil)))))))))) (fun _ _ _ _ _ => (q_var 10)) (sw_true rfl rfl rfl (by decide +kernel))) (q_one1 (q_ret (q_op o_add (q_op o_mul (q_op o_fdiv (q_var 2) (q_var 6)) (q_var 7)) (q_callB c_len (by rfl) m_len boot_len (q_cons (q_var 9) q_nil)))))))))))))) k_both
theorem ok__law_well {f : Addr} {fd : FuncData} (F : FnP K "_law_well" s__law_well f fd) (m_len : mg "len" = none) (m_int : mg "int" = none) (m_max : mg "max" = none) (m_abs : mg "abs" = none) : FnOk P w K mg base (L2.CX P w) 1 f fd ["_law_script", "_law_place"] (LP K mg 2 sp__law_well) := def_ok F sc__law_well (fun cdv A outer s H E hr => by
  have nd := sc__law_well.nd
  have hu := hr.units
  have hp := own_cx (P := P) (w := w) (K := K) (mg := mg) (base := base) (N := ["_law_script", "_law_place", "_law_cell"]) (qual := "_law_well") (scope := defScope s__law_well) (f := f) (cd := cdv) (A := A) (outer := outer) (s := s) (H := H) (E := E)
  have hx := pass_cx (P := P) (w := w) (K := K) (mg := mg) (base := base) (N := ["_law_script", "_law_place", "_law_cell"]) (qual := "_law_well") (scope := defScope s__law_well) (f := f) (cd := cdv) (A := A) (outer := outer) (s := s) (H := H) (E := E)
  exact (q_scons (q_set (i := 2) nd (q_ifE (q_tcmp o_lt (q_var 1) (q_callB c_len (by rfl) m_len boot_len (q_cons (q_var 0) q_nil))) (q_ix (q_var 0) (q_var 1)) (q_op o_add (q_op o_mul (q_var 1) q_int) (q_op o_mul (q_callB c_len (by rfl) m_len boot_len (q_cons (q_var 0) q_nil)) q_int)))) (q_one1 (q_ret (q_lst (q_cons (q_callB (c_max rfl) (by rfl) m_max boot_max (q_cons q_int (q_cons (q_op o_sub (q_callB c_abs (by rfl) m_abs boot_abs (q_cons (q_var 2) q_nil)) (q_op o_pow q_int q_int)) q_nil))) (q_cons (q_op o_mod (q_callTy c_int (by rfl) m_int boot_int (q_cons (q_op o_add (q_op o_add (q_op o_mul (q_var 2) q_int) (q_op o_mul (q_var 1) q_int)) q_int) q_nil)) (q_op o_add (q_op o_pow q_int q_int) q_int)) (q_cons q_int q_nil)))))))) k__law_well
theorem ok__law_dip {f : Addr} {fd : FuncData} (F : FnP K "_law_dip" s__law_dip f fd) (m_int : mg "int" = none) : FnOk P w K mg base (L2.CX P w) 1 f fd ["_law_well_here", "_law_many"] (LP K mg 2 sp__law_dip) := def_ok F sc__law_dip (fun cdv A outer s H E hr => by
  have nd := sc__law_dip.nd
  have hu := hr.units
  have hp := own_cx (P := P) (w := w) (K := K) (mg := mg) (base := base) (N := ["_law_well_here", "_law_many", "_law_figure", "_law_mixed"]) (qual := "_law_dip") (scope := defScope s__law_dip) (f := f) (cd := cdv) (A := A) (outer := outer) (s := s) (H := H) (E := E)
  have hx := pass_cx (P := P) (w := w) (K := K) (mg := mg) (base := base) (N := ["_law_well_here", "_law_many", "_law_figure", "_law_mixed"]) (qual := "_law_dip") (scope := defScope s__law_dip) (f := f) (cd := cdv) (A := A) (outer := outer) (s := s) (H := H) (E := E)
  exact (q_scons (q_if (q_tcmp o_gt (q_ix (q_var 0) q_int) q_int) (q_scons (q_set (i := 2) nd (q_op o_mod (q_callTy c_int (by rfl) m_int boot_int (q_cons (q_ix (q_var 0) q_int) q_nil)) (q_var 1))) (q_scons (q_asg (q_op o_fdiv (q_ix (q_var 0) q_int) (q_var 1)) (q_gsb (q_var 0) q_int)) (q_one1 (q_ret (q_var 2))))) q_snil) (q_scons (q_asg (q_op o_add (q_ix (q_var 0) q_int) q_int) (q_gsb (q_var 0) q_int)) (q_scons (q_set (i := 3) nd (q_op o_mod (q_op o_pow (q_callTy c_int (by rfl) m_int boot_int (q_cons (q_op o_add (q_ix (q_var 0) q_int) (q_op o_mul q_int (q_ix (q_var 0) q_int))) q_nil)) q_int) (q_op o_add (q_op o_pow q_int q_int) q_int))) (q_scons (q_set (i := 3) nd (q_op o_mod (q_op o_pow (q_callTy c_int (by rfl) m_int boot_int (q_cons (q_op o_add (q_var 3) (q_op o_mul q_int (q_ix (q_var 0) q_int))) q_nil)) q_int) (q_op o_add (q_op o_pow q_int q_int) q_int))) (q_one1 (q_ret (q_op o_mod (q_callTy c_int (by rfl) m_int boot_int (q_cons (q_op o_fdiv (q_var 3) q_int) q_nil)) (q_var 1))))))))) k__law_dip
theorem one__law_same {f : Addr} {fd : FuncData} (F : FnP K "_law_same" s__law_same f fd) (m_isinstance : mg "isinstance" = none) (m_bool : mg "bool" = none) (m_tuple : mg "tuple" = none) (m_list : mg "list" = none) (m_len : mg "len" = none) (m_range : mg "range" = none) (m_str : mg "str" = none) (m_int : mg "int" = none) {j : Nat} {r q : SpD} (hj : 0 ≤ j) (T__law_same : FT P w K mg base "_law_same" j ["_law_told", "_law_due"] r f fd) (hk : Keeps 2 4 (t__law_same r) q) : FnOk P w K mg base (L2.CX P w) (j + 1) f fd ["_law_told", "_law_due"] (LP K mg 2 q) := def_ok F sc__law_same (fun cdv A outer s H E hr => by
  have nd := sc__law_same.nd
  have hu := hr.units
  have hp := own_cx (P := P) (w := w) (K := K) (mg := mg) (base := base) (N := ["_law_told", "_law_due", "_law_kind", "_law_spot"]) (qual := "_law_same") (scope := defScope s__law_same) (f := f) (cd := cdv) (A := A) (outer := outer) (s := s) (H := H) (E := E)
  have hx := pass_cx (P := P) (w := w) (K := K) (mg := mg) (base := base) (N := ["_law_told", "_law_due", "_law_kind", "_law_spot"]) (qual := "_law_same") (scope := defScope s__law_same) (f := f) (cd := cdv) (A := A) (outer := outer) (s := s) (H := H) (E := E)
  exact (q_scons (q_if (q_tcmp o_is (q_var 1) q_non) (q_one1 (q_ret (q_cmp o_is (q_var 0) q_non))) q_snil) (q_scons (q_if (q_tval (q_isi .bool (by decide) (q_var 1) (by rfl) m_isinstance (by rfl) m_bool (by decide +kernel))) (q_one1 (q_ret (q_andV (q_isi .bool (by decide) (q_var 0) (by rfl) m_isinstance (by rfl) m_bool (by decide +kernel)) (q_one (q_cmp (o_eq hu) (q_var 0) (q_var 1)))))) q_snil) (q_scons (q_if (q_w (q_or (q_tval (q_isi .tuple (by decide) (q_var 1) (by rfl) m_isinstance (by rfl) m_tuple (by decide +kernel))) (q_or1 (q_tval (q_isi .list (by decide) (q_var 1) (by rfl) m_isinstance (by rfl) m_list (by decide +kernel)))))) (q_scons (q_set (i := 2) nd (q_ifE (q_tval (q_isi .tuple (by decide) (q_var 1) (by rfl) m_isinstance (by rfl) m_tuple (by decide +kernel))) (q_isi .tuple (by decide) (q_var 0) (by rfl) m_isinstance (by rfl) m_tuple (by decide +kernel)) (q_isi .list (by decide) (q_var 0) (by rfl) m_isinstance (by rfl) m_list (by decide +kernel)))) (q_scons (q_if (q_w (q_or (q_not (q_tval (q_var 2))) (q_or1 (q_tcmp (o_ne hu) (q_callB c_len (by rfl) m_len boot_len (q_cons (q_var 0) q_nil)) (q_callB c_len (by rfl) m_len boot_len (q_cons (q_var 1) q_nil)))))) (q_one1 (q_ret q_bl)) q_snil) (q_scons (q_for hp rfl (q_rg1 (by rfl) m_range (q_cons (q_callB c_len (by rfl) m_len boot_len (q_cons (q_var 1) q_nil)) q_nil)) (q_gnm (i := 3) nd) (q_one1 (q_if (q_not (q_tval (q_call T__law_same.ok (hr.mono (Nat.le_refl _)) (by rfl) T__law_same.hm T__law_same.hk T__law_same.hb hx (q_cons (q_ix (q_var 0) (q_var 3)) (q_cons (q_ix (q_var 1) (q_var 3)) q_nil))))) (q_one1 (q_ret q_bl)) q_snil))) (q_one1 (q_ret q_bl))))) q_snil) (q_scons (q_if (q_tval (q_isi .str (by decide) (q_var 1) (by rfl) m_isinstance (by rfl) m_str (by decide +kernel))) (q_one1 (q_ret (q_andV (q_isi .str (by decide) (q_var 0) (by rfl) m_isinstance (by rfl) m_str (by decide +kernel)) (q_one (q_cmp (o_eq hu) (q_var 0) (q_var 1)))))) q_snil) (q_one1 (q_ret (q_andV (q_isi .int (by decide) (q_var 0) (by rfl) m_isinstance (by rfl) m_int (by decide +kernel)) (q_andV (q_notV (q_isi .bool (by decide) (q_var 0) (by rfl) m_isinstance (by rfl) m_bool (by decide +kernel))) (q_one (q_cmp (o_eq hu) (q_var 0) (q_var 1)))))))))))) hk
theorem ok__law_same {f : Addr} {fd : FuncData} (F : FnP K "_law_same" s__law_same f fd) (hm : mg "_law_same" = some (.ref f)) (hb : Binds K fd ["_law_told", "_law_due"] []) (m_isinstance : mg "isinstance" = none) (m_bool : mg "bool" = none) (m_tuple : mg "tuple" = none) (m_list : mg "list" = none) (m_len : mg "len" = none) (m_range : mg "range" = none) (m_str : mg "str" = none) (m_int : mg "int" = none) : FnOk P w K mg base (L2.CX P w) 9 f fd ["_law_told", "_law_due"] (LP K mg 2 sp__law_same) := by
  have step : ∀ n : Nat, FnOk P w K mg base (L2.CX P w) (0 + n) f fd ["_law_told", "_law_due"] (LP K mg 2 (spr__law_same n)) := by
    intro n
    induction n with
    | zero => exact ⟨fun vs H Q E h => h.1, fun A outer s H args us vs Q E hr e0 hb hv h => (by obtain ⟨_, _, _, _, _, _, _, _, q, _⟩ := h; exact (spr__law_same_zero q).elim)⟩
    | succ n ih => exact one__law_same F m_isinstance m_bool m_tuple m_list m_len m_range m_str m_int (j := 0 + n) (by omega) ⟨ih, hm, F.kp, hb⟩ (k__law_same n)
  exact (step 9).imp fun vs H Q E h => h
theorem ok__law_sum {f : Addr} {fd : FuncData} (F : FnP K "_law_sum" s__law_sum f fd) : FnOk P w K mg base (L2.CX P w) 1 f fd ["_law_some"] (LP K mg 1 sp__law_sum) := def_ok F sc__law_sum (fun cdv A outer s H E hr => by
  have nd := sc__law_sum.nd
  have hu := hr.units
  have hp := own_cx (P := P) (w := w) (K := K) (mg := mg) (base := base) (N := ["_law_some", "_law_total", "_law_word"]) (qual := "_law_sum") (scope := defScope s__law_sum) (f := f) (cd := cdv) (A := A) (outer := outer) (s := s) (H := H) (E := E)
  have hx := pass_cx (P := P) (w := w) (K := K) (mg := mg) (base := base) (N := ["_law_some", "_law_total", "_law_word"]) (qual := "_law_sum") (scope := defScope s__law_sum) (f := f) (cd := cdv) (A := A) (outer := outer) (s := s) (H := H) (E := E)
  exact (q_scons (q_set (i := 1) nd q_int) (q_scons (q_for hp rfl (q_iSq (q_var 0)) (q_gnm (i := 2) nd) (q_one1 (q_set (i := 1) nd (q_op o_xor (q_var 1) (q_var 2))))) (q_one1 (q_ret (q_var 1)))))) k__law_sum
theorem ok__law_power {f : Addr} {fd : FuncData} (F : FnP K "_law_power" s__law_power f fd) (m_range : mg "range" = none) : FnOk P w K mg base (L2.CX P w) 1 f fd ["_law_many"] (LP K mg 1 sp__law_power) := def_ok F sc__law_power (fun cdv A outer s H E hr => by
  have nd := sc__law_power.nd
  have hu := hr.units
  have hp := own_cx (P := P) (w := w) (K := K) (mg := mg) (base := base) (N := ["_law_many", "_law_found", "_law_turn"]) (qual := "_law_power") (scope := defScope s__law_power) (f := f) (cd := cdv) (A := A) (outer := outer) (s := s) (H := H) (E := E)
  have hx := pass_cx (P := P) (w := w) (K := K) (mg := mg) (base := base) (N := ["_law_many", "_law_found", "_law_turn"]) (qual := "_law_power") (scope := defScope s__law_power) (f := f) (cd := cdv) (A := A) (outer := outer) (s := s) (H := H) (E := E)
  exact (q_scons (q_set (i := 1) nd q_int) (q_scons (q_for hp rfl (q_rg1 (by rfl) m_range (q_cons (q_var 0) q_nil)) (q_gnm (i := 2) nd) (q_one1 (q_set (i := 1) nd (q_op o_mul q_int (q_var 1))))) (q_one1 (q_ret (q_var 1)))))) k__law_power
theorem ok__law_first {f : Addr} {fd : FuncData} (F : FnP K "_law_first" s__law_first f fd) {f__law_sum : Addr} {fd__law_sum : FuncData} (T__law_sum : FT P w K mg base "_law_sum" 1 ["_law_some"] sp__law_sum f__law_sum fd__law_sum) (m_zip : mg "zip" = none) (m_list : mg "list" = none) (m_max : mg "max" = none) (m_range : mg "range" = none) (m_tuple : mg "tuple" = none) : FnOk P w K mg base (L2.CX P w) 2 f fd ["_law_m", "_law_rows", "_law_values"] (LP K mg 3 sp__law_first) := def_ok F sc__law_first (fun cdv A outer s H E hr => by
  have nd := sc__law_first.nd
  have hu := hr.units
  have hp := own_cx (P := P) (w := w) (K := K) (mg := mg) (base := base) (N := ["_law_m", "_law_rows", "_law_values", "_law_kept", "_law_table", "_law_row_here", "_law_value", "_law_left", "_law_other", "_law_word", "_law_cell"]) (qual := "_law_first") (scope := defScope s__law_first) (f := f) (cd := cdv) (A := A) (outer := outer) (s := s) (H := H) (E := E)
  have hx := pass_cx (P := P) (w := w) (K := K) (mg := mg) (base := base) (N := ["_law_m", "_law_rows", "_law_values", "_law_kept", "_law_table", "_law_row_here", "_law_value", "_law_left", "_law_other", "_law_word", "_law_cell"]) (qual := "_law_first") (scope := defScope s__law_first) (f := f) (cd := cdv) (A := A) (outer := outer) (s := s) (H := H) (E := E)
  exact (q_scons (q_asg (q_tup (q_cons q_dNew (q_cons (q_lst q_nil) q_nil))) (q_gtp rfl (q_gscons (q_gnm (i := 3) nd) (q_gscons (q_gnm (i := 4) nd) q_gsnil))).p) (q_scons (q_for hp rfl (q_zip (by rfl) m_zip (q_cons (q_var 1) (q_cons (q_var 2) q_nil))) (q_gtp rfl (q_gscons (q_gnm (i := 5) nd) (q_gscons (q_gnm (i := 6) nd) q_gsnil))) (q_scons (q_set (i := 7) nd (q_callTy c_list (by rfl) m_list boot_list (q_cons (q_var 5) q_nil))) (q_scons (q_while hp (q_w (q_and (q_tcmp (o_ne hu) (q_var 7) (q_lst q_nil)) (q_and1 (q_tcmp (o_dIn hu) (q_callB (c_max rfl) (by rfl) m_max boot_max (q_cons (q_var 7) q_nil)) (q_var 3))))) (q_scons (q_asg (q_dget hu (q_var 3) (q_callB (c_max rfl) (by rfl) m_max boot_max (q_cons (q_var 7) q_nil))) (q_gtp rfl (q_gscons (q_gnm (i := 8) nd) (q_gscons (q_gnm (i := 9) nd) q_gsnil))).p) (q_scons (q_set (i := 7) nd (q_op o_add (q_lc (own := [("_law_cell", 10)]) rfl nd (q_iSq (q_var 7)) (blkOk_by (by kernel_rfl)) (fun _ _ _ _ _ => (q_gnm (i := 10) nd)) (fun _ _ _ _ _ => (q_tone (q_tcmp o_notIn (q_var 10) (q_var 8)))) (fun _ _ _ _ _ => (q_var 10))) (q_lc (own := [("_law_cell", 10)]) rfl nd (q_iSq (q_var 8)) (blkOk_by (by kernel_rfl)) (fun _ _ _ _ _ => (q_gnm (i := 10) nd)) (fun _ _ _ _ _ => (q_tone (q_tcmp o_notIn (q_var 10) (q_var 7)))) (fun _ _ _ _ _ => (q_var 10))))) (q_one1 (q_set (i := 6) nd (q_op o_xor (q_var 6) (q_var 9))))))) (q_one1 (q_if (q_tcmp (o_ne hu) (q_var 7) (q_lst q_nil)) (q_one1 (q_asg (q_tup (q_cons (q_var 7) (q_cons (q_var 6) q_nil))) (q_gdb hu (q_var 3) (q_callB (c_max rfl) (by rfl) m_max boot_max (q_cons (q_var 7) q_nil))))) (q_one1 (q_if (q_tcmp (o_ne hu) (q_var 6) q_int) (q_one1 (q_ret (q_lst q_nil))) q_snil))))))) (q_scons (q_for hp rfl (q_rg1 (by rfl) m_range (q_cons (q_var 0) q_nil)) (q_gnm (i := 10) nd) (q_scons (q_asg (q_ifE (q_tcmp (o_dIn hu) (q_var 10) (q_var 3)) (q_dget hu (q_var 3) (q_var 10)) (q_tup (q_cons (q_lst q_nil) (q_cons q_int q_nil)))) (q_gtp rfl (q_gscons (q_gnm (i := 5) nd) (q_gscons (q_gnm (i := 6) nd) q_gsnil))).p) (q_one1 (q_expr (q_met PySem.F.slot_list_append PySem.F.type_list_append m_app (q_var 4) (q_cons (q_call T__law_sum.ok (hr.mono (by decide)) (by rfl) T__law_sum.hm T__law_sum.hk T__law_sum.hb hx (q_cons (q_op o_add (q_lst (q_cons (q_var 6) q_nil)) (q_lc (own := [("_law_other", 8)]) rfl nd (q_iSq (q_var 5)) (blkOk_by (by kernel_rfl)) (fun _ _ _ _ _ => (q_gnm (i := 8) nd)) (fun _ _ _ _ _ => (q_tone (q_tcmp o_lt (q_var 8) (q_var 10)))) (fun _ _ _ _ _ => (q_ix (q_var 4) (q_var 8))))) q_nil)) q_nil)))))) (q_one1 (q_ret (q_lst (q_cons (q_callTy c_tuple (by rfl) m_tuple boot_tuple (q_cons (q_var 4) q_nil)) q_nil)))))))) k__law_first
theorem ok__law_mixing {f : Addr} {fd : FuncData} (F : FnP K "_law_mixing" s__law_mixing f fd) {f__law_dip : Addr} {fd__law_dip : FuncData} (T__law_dip : FT P w K mg base "_law_dip" 1 ["_law_well_here", "_law_many"] sp__law_dip f__law_dip fd__law_dip) (m_tuple : mg "tuple" = none) (m_range : mg "range" = none) : FnOk P w K mg base (L2.CX P w) 2 f fd ["_law_well_here", "_law_most"] (LP K mg 2 sp__law_mixing) := def_ok F sc__law_mixing (fun cdv A outer s H E hr => by
  have nd := sc__law_mixing.nd
  have hu := hr.units
  have hp := own_cx (P := P) (w := w) (K := K) (mg := mg) (base := base) (N := ["_law_well_here", "_law_most", "_law_m", "_law_p", "_law_many", "_law_pairs", "_law_turn"]) (qual := "_law_mixing") (scope := defScope s__law_mixing) (f := f) (cd := cdv) (A := A) (outer := outer) (s := s) (H := H) (E := E)
  have hx := pass_cx (P := P) (w := w) (K := K) (mg := mg) (base := base) (N := ["_law_well_here", "_law_most", "_law_m", "_law_p", "_law_many", "_law_pairs", "_law_turn"]) (qual := "_law_mixing") (scope := defScope s__law_mixing) (f := f) (cd := cdv) (A := A) (outer := outer) (s := s) (H := H) (E := E)
  exact (q_scons (q_asg (q_tup (q_cons (q_op o_add q_int (q_call T__law_dip.ok (hr.mono (by decide)) (by rfl) T__law_dip.hm T__law_dip.hk T__law_dip.hb hx (q_cons (q_var 0) (q_cons (q_var 1) q_nil)))) (q_cons (q_op o_add q_int (q_call T__law_dip.ok (hr.mono (by decide)) (by rfl) T__law_dip.hm T__law_dip.hk T__law_dip.hb hx (q_cons (q_var 0) (q_cons (q_ix (q_lst (q_cons q_int (q_cons q_int (q_cons q_int q_nil)))) (q_call T__law_dip.ok (hr.mono (by decide)) (by rfl) T__law_dip.hm T__law_dip.hk T__law_dip.hb hx (q_cons (q_var 0) (q_cons q_int q_nil)))) q_nil)))) q_nil))) (q_gtp rfl (q_gscons (q_gnm (i := 2) nd) (q_gscons (q_gnm (i := 3) nd) q_gsnil))).p) (q_scons (q_set (i := 4) nd (q_op o_add q_int (q_call T__law_dip.ok (hr.mono (by decide)) (by rfl) T__law_dip.hm T__law_dip.hk T__law_dip.hb hx (q_cons (q_var 0) (q_cons (q_ix (q_lst (q_cons q_int (q_cons q_int q_nil))) (q_call T__law_dip.ok (hr.mono (by decide)) (by rfl) T__law_dip.hm T__law_dip.hk T__law_dip.hb hx (q_cons (q_var 0) (q_cons q_int q_nil)))) q_nil))))) (q_scons (q_set (i := 5) nd (q_callTy c_tuple (by rfl) m_tuple boot_tuple (q_cons (q_lc (own := [("_law_turn", 6)]) rfl nd (q_rg1 (by rfl) m_range (q_cons (q_var 4) q_nil)) (blkOk_by (by kernel_rfl)) (fun _ _ _ _ _ => (q_gnm (i := 6) nd)) (fun _ _ _ _ _ => q_tnil) (fun _ _ _ _ _ => (q_tup (q_cons (q_call T__law_dip.ok (hr.mono (by decide)) (by rfl) T__law_dip.hm T__law_dip.hk T__law_dip.hb passE0 (q_cons (q_var 0) (q_cons (q_var 3) q_nil))) (q_cons (q_call T__law_dip.ok (hr.mono (by decide)) (by rfl) T__law_dip.hm T__law_dip.hk T__law_dip.hb passE0 (q_cons (q_var 0) (q_cons (q_var 3) q_nil))) q_nil))))) q_nil))) (q_one1 (q_ret (q_tup (q_cons (q_var 2) (q_cons (q_var 3) (q_cons (q_var 5) (q_cons (q_tup (q_cons (q_call T__law_dip.ok (hr.mono (by decide)) (by rfl) T__law_dip.hm T__law_dip.hk T__law_dip.hb hx (q_cons (q_var 0) (q_cons (q_var 3) q_nil))) (q_cons (q_call T__law_dip.ok (hr.mono (by decide)) (by rfl) T__law_dip.hm T__law_dip.hk T__law_dip.hb hx (q_cons (q_var 0) (q_cons (q_var 3) q_nil))) q_nil))) q_nil))))))))))) k__law_mixing
theorem ok__law_row {f : Addr} {fd : FuncData} (F : FnP K "_law_row" s__law_row f fd) (m_int : mg "int" = none) (m_tuple : mg "tuple" = none) (m_sorted : mg "sorted" = none) : FnOk P w K mg base (L2.CX P w) 1 f fd ["_law_mixing_here", "_law_x"] (LP K mg 2 sp__law_row) := def_ok F sc__law_row (fun cdv A outer s H E hr => by
  have nd := sc__law_row.nd
  have hu := hr.units
  have hp := own_cx (P := P) (w := w) (K := K) (mg := mg) (base := base) (N := ["_law_mixing_here", "_law_x", "_law_m", "_law_p", "_law_pairs", "_law_mark_here", "_law_found", "_law_a", "_law_b", "_law_cell"]) (qual := "_law_row") (scope := defScope s__law_row) (f := f) (cd := cdv) (A := A) (outer := outer) (s := s) (H := H) (E := E)
  have hx := pass_cx (P := P) (w := w) (K := K) (mg := mg) (base := base) (N := ["_law_mixing_here", "_law_x", "_law_m", "_law_p", "_law_pairs", "_law_mark_here", "_law_found", "_law_a", "_law_b", "_law_cell"]) (qual := "_law_row") (scope := defScope s__law_row) (f := f) (cd := cdv) (A := A) (outer := outer) (s := s) (H := H) (E := E)
  exact (q_scons (q_asg (q_var 0) (q_gtp rfl (q_gscons (q_gnm (i := 2) nd) (q_gscons (q_gnm (i := 3) nd) (q_gscons (q_gnm (i := 4) nd) (q_gscons (q_gnm (i := 5) nd) q_gsnil))))).p) (q_scons (q_set (i := 6) nd (q_lst q_nil)) (q_scons (q_for hp rfl (q_iSq (q_var 4)) (q_gtp rfl (q_gscons (q_gnm (i := 7) nd) (q_gscons (q_gnm (i := 8) nd) q_gsnil))) (q_scons (q_set (i := 9) nd (q_op o_mod (q_callTy c_int (by rfl) m_int boot_int (q_cons (q_op o_mod (q_callTy c_int (by rfl) m_int boot_int (q_cons (q_op o_add (q_op o_mul (q_var 7) (q_var 1)) (q_var 8)) q_nil)) (q_var 3)) q_nil)) (q_var 2))) (q_one1 (q_if (q_tcmp o_notIn (q_var 9) (q_var 6)) (q_one1 (q_expr (q_met PySem.F.slot_list_append PySem.F.type_list_append m_app (q_var 6) (q_cons (q_var 9) q_nil)))) q_snil)))) (q_one1 (q_ret (q_callTy c_tuple (by rfl) m_tuple boot_tuple (q_cons (q_callB c_sorted (by rfl) m_sorted boot_sorted (q_cons (q_var 6) q_nil)) q_nil)))))))) k__law_row
theorem ok__law_mark {f : Addr} {fd : FuncData} (F : FnP K "_law_mark" s__law_mark f fd) {f__law_power : Addr} {fd__law_power : FuncData} (T__law_power : FT P w K mg base "_law_power" 1 ["_law_many"] sp__law_power f__law_power fd__law_power) (m_int : mg "int" = none) : FnOk P w K mg base (L2.CX P w) 2 f fd ["_law_mixing_here", "_law_w", "_law_x"] (LP K mg 3 sp__law_mark) := def_ok F sc__law_mark (fun cdv A outer s H E hr => by
  have nd := sc__law_mark.nd
  have hu := hr.units
  have hp := own_cx (P := P) (w := w) (K := K) (mg := mg) (base := base) (N := ["_law_mixing_here", "_law_w", "_law_x", "_law_a", "_law_b"]) (qual := "_law_mark") (scope := defScope s__law_mark) (f := f) (cd := cdv) (A := A) (outer := outer) (s := s) (H := H) (E := E)
  have hx := pass_cx (P := P) (w := w) (K := K) (mg := mg) (base := base) (N := ["_law_mixing_here", "_law_w", "_law_x", "_law_a", "_law_b"]) (qual := "_law_mark") (scope := defScope s__law_mark) (f := f) (cd := cdv) (A := A) (outer := outer) (s := s) (H := H) (E := E)
  exact (q_scons (q_asg (q_ix (q_var 0) q_int) (q_gtp rfl (q_gscons (q_gnm (i := 3) nd) (q_gscons (q_gnm (i := 4) nd) q_gsnil))).p) (q_one1 (q_ret (q_op o_mod (q_callTy c_int (by rfl) m_int boot_int (q_cons (q_op o_mod (q_callTy c_int (by rfl) m_int boot_int (q_cons (q_op o_add (q_op o_mul (q_var 3) (q_var 2)) (q_var 4)) q_nil)) (q_ix (q_var 0) q_int)) q_nil)) (q_call T__law_power.ok (hr.mono (by decide)) (by rfl) T__law_power.hm T__law_power.hk T__law_power.hb hx (q_cons (q_var 1) q_nil))))))) k__law_mark
theorem ok__law_numbers {f : Addr} {fd : FuncData} (F : FnP K "_law_numbers" s__law_numbers f fd) {f__law_dip : Addr} {fd__law_dip : FuncData} (T__law_dip : FT P w K mg base "_law_dip" 1 ["_law_well_here", "_law_many"] sp__law_dip f__law_dip fd__law_dip) (m_range : mg "range" = none) : FnOk P w K mg base (L2.CX P w) 2 f fd ["_law_well_here", "_law_most"] (LP K mg 2 sp__law_numbers) := def_ok F sc__law_numbers (fun cdv A outer s H E hr => by
  have nd := sc__law_numbers.nd
  have hu := hr.units
  have hp := own_cx (P := P) (w := w) (K := K) (mg := mg) (base := base) (N := ["_law_well_here", "_law_most", "_law_found", "_law_turn", "_law_x"]) (qual := "_law_numbers") (scope := defScope s__law_numbers) (f := f) (cd := cdv) (A := A) (outer := outer) (s := s) (H := H) (E := E)
  have hx := pass_cx (P := P) (w := w) (K := K) (mg := mg) (base := base) (N := ["_law_well_here", "_law_most", "_law_found", "_law_turn", "_law_x"]) (qual := "_law_numbers") (scope := defScope s__law_numbers) (f := f) (cd := cdv) (A := A) (outer := outer) (s := s) (H := H) (E := E)
  exact (q_scons (q_set (i := 2) nd (q_lst q_nil)) (q_scons (q_for hp rfl (q_rg1 (by rfl) m_range (q_cons (q_call T__law_dip.ok (hr.mono (by decide)) (by rfl) T__law_dip.hm T__law_dip.hk T__law_dip.hb hx (q_cons (q_var 0) (q_cons (q_op o_add (q_var 1) q_int) q_nil))) q_nil)) (q_gnm (i := 3) nd) (q_scons (q_set (i := 4) nd (q_call T__law_dip.ok (hr.mono (by decide)) (by rfl) T__law_dip.hm T__law_dip.hk T__law_dip.hb hx (q_cons (q_var 0) (q_cons (q_ix (q_lst (q_cons (q_op o_add q_int (q_op o_mul q_int (q_var 1))) (q_cons q_int (q_cons (q_op o_pow q_int q_int) q_nil)))) (q_call T__law_dip.ok (hr.mono (by decide)) (by rfl) T__law_dip.hm T__law_dip.hk T__law_dip.hb hx (q_cons (q_var 0) (q_cons q_int q_nil)))) q_nil)))) (q_one1 (q_if (q_tcmp o_notIn (q_var 4) (q_var 2)) (q_one1 (q_expr (q_met PySem.F.slot_list_append PySem.F.type_list_append m_app (q_var 2) (q_cons (q_var 4) q_nil)))) q_snil)))) (q_one1 (q_ret (q_var 2)))))) k__law_numbers
theorem ok__law_lets {f : Addr} {fd : FuncData} (F : FnP K "_law_lets" s__law_lets f fd) {f__law_sum : Addr} {fd__law_sum : FuncData} (T__law_sum : FT P w K mg base "_law_sum" 1 ["_law_some"] sp__law_sum f__law_sum fd__law_sum) {f__law_row : Addr} {fd__law_row : FuncData} (T__law_row : FT P w K mg base "_law_row" 1 ["_law_mixing_here", "_law_x"] sp__law_row f__law_row fd__law_row) {f__law_mark : Addr} {fd__law_mark : FuncData} (T__law_mark : FT P w K mg base "_law_mark" 2 ["_law_mixing_here", "_law_w", "_law_x"] sp__law_mark f__law_mark fd__law_mark) : FnOk P w K mg base (L2.CX P w) 3 f fd ["_law_own", "_law_x"] (LP K mg 2 sp__law_lets) := def_ok F sc__law_lets (fun cdv A outer s H E hr => by
  have nd := sc__law_lets.nd
  have hu := hr.units
  have hp := own_cx (P := P) (w := w) (K := K) (mg := mg) (base := base) (N := ["_law_own", "_law_x", "_law_mixing_here", "_law_w", "_law_table", "_law_cell"]) (qual := "_law_lets") (scope := defScope s__law_lets) (f := f) (cd := cdv) (A := A) (outer := outer) (s := s) (H := H) (E := E)
  have hx := pass_cx (P := P) (w := w) (K := K) (mg := mg) (base := base) (N := ["_law_own", "_law_x", "_law_mixing_here", "_law_w", "_law_table", "_law_cell"]) (qual := "_law_lets") (scope := defScope s__law_lets) (f := f) (cd := cdv) (A := A) (outer := outer) (s := s) (H := H) (E := E)
  exact (q_scons (q_asg (q_var 0) (q_gtp rfl (q_gscons (q_gnm (i := 2) nd) (q_gscons (q_gnm (i := 3) nd) (q_gscons (q_gnm (i := 4) nd) q_gsnil)))).p) (q_one1 (q_ret (q_cmp (o_eq hu) (q_call T__law_sum.ok (hr.mono (by decide)) (by rfl) T__law_sum.hm T__law_sum.hk T__law_sum.hb hx (q_cons (q_lc (own := [("_law_cell", 5)]) rfl nd (q_iSq (q_call T__law_row.ok (hr.mono (by decide)) (by rfl) T__law_row.hm T__law_row.hk T__law_row.hb hx (q_cons (q_var 2) (q_cons (q_var 1) q_nil)))) (blkOk_by (by kernel_rfl)) (fun _ _ _ _ _ => (q_gnm (i := 5) nd)) (fun _ _ _ _ _ => q_tnil) (fun _ _ _ _ _ => (q_ix (q_var 4) (q_var 5)))) q_nil)) (q_call T__law_mark.ok (hr.mono (by decide)) (by rfl) T__law_mark.hm T__law_mark.hk T__law_mark.hb hx (q_cons (q_var 2) (q_cons (q_var 3) (q_cons (q_var 1) q_nil))))))))) k__law_lets
theorem ok__law_filter {f : Addr} {fd : FuncData} (F : FnP K "_law_filter" s__law_filter f fd) {f__law_dip : Addr} {fd__law_dip : FuncData} (T__law_dip : FT P w K mg base "_law_dip" 1 ["_law_well_here", "_law_many"] sp__law_dip f__law_dip fd__law_dip) {f__law_mixing : Addr} {fd__law_mixing : FuncData} (T__law_mixing : FT P w K mg base "_law_mixing" 2 ["_law_well_here", "_law_most"] sp__law_mixing f__law_mixing fd__law_mixing) {f__law_numbers : Addr} {fd__law_numbers : FuncData} (T__law_numbers : FT P w K mg base "_law_numbers" 2 ["_law_well_here", "_law_most"] sp__law_numbers f__law_numbers fd__law_numbers) {f__law_mark : Addr} {fd__law_mark : FuncData} (T__law_mark : FT P w K mg base "_law_mark" 2 ["_law_mixing_here", "_law_w", "_law_x"] sp__law_mark f__law_mark fd__law_mark) {f__law_first : Addr} {fd__law_first : FuncData} (T__law_first : FT P w K mg base "_law_first" 2 ["_law_m", "_law_rows", "_law_values"] sp__law_first f__law_first fd__law_first) {f__law_row : Addr} {fd__law_row : FuncData} (T__law_row : FT P w K mg base "_law_row" 1 ["_law_mixing_here", "_law_x"] sp__law_row f__law_row fd__law_row) {f__law_power : Addr} {fd__law_power : FuncData} (T__law_power : FT P w K mg base "_law_power" 1 ["_law_many"] sp__law_power f__law_power fd__law_power) (m_tuple : mg "tuple" = none) (m_range : mg "range" = none) : FnOk P w K mg base (L2.CX P w) 3 f fd ["_law_well_here", "_law_most"] (LP K mg 2 sp__law_filter) := def_ok F sc__law_filter (fun cdv A outer s H E hr => by
  have nd := sc__law_filter.nd
  have hu := hr.units
  have hp := own_cx (P := P) (w := w) (K := K) (mg := mg) (base := base) (N := ["_law_well_here", "_law_most", "_law_mixing_here", "_law_w", "_law_numbers_here", "_law_marks", "_law_found", "_law_x", "_law_cell"]) (qual := "_law_filter") (scope := defScope s__law_filter) (f := f) (cd := cdv) (A := A) (outer := outer) (s := s) (H := H) (E := E)
  have hx := pass_cx (P := P) (w := w) (K := K) (mg := mg) (base := base) (N := ["_law_well_here", "_law_most", "_law_mixing_here", "_law_w", "_law_numbers_here", "_law_marks", "_law_found", "_law_x", "_law_cell"]) (qual := "_law_filter") (scope := defScope s__law_filter) (f := f) (cd := cdv) (A := A) (outer := outer) (s := s) (H := H) (E := E)
  exact (q_scons (q_asg (q_tup (q_cons (q_call T__law_mixing.ok (hr.mono (by decide)) (by rfl) T__law_mixing.hm T__law_mixing.hk T__law_mixing.hb hx (q_cons (q_var 0) (q_cons (q_var 1) q_nil))) (q_cons (q_op o_add q_int (q_call T__law_dip.ok (hr.mono (by decide)) (by rfl) T__law_dip.hm T__law_dip.hk T__law_dip.hb hx (q_cons (q_var 0) (q_cons (q_ix (q_lst (q_cons q_int (q_cons q_int (q_cons q_int q_nil)))) (q_call T__law_dip.ok (hr.mono (by decide)) (by rfl) T__law_dip.hm T__law_dip.hk T__law_dip.hb hx (q_cons (q_var 0) (q_cons q_int q_nil)))) q_nil)))) q_nil))) (q_gtp rfl (q_gscons (q_gnm (i := 2) nd) (q_gscons (q_gnm (i := 3) nd) q_gsnil))).p) (q_scons (q_if (q_tcmp (o_eq hu) (q_call T__law_dip.ok (hr.mono (by decide)) (by rfl) T__law_dip.hm T__law_dip.hk T__law_dip.hb hx (q_cons (q_var 0) (q_cons q_int q_nil))) q_int) (q_scons (q_set (i := 4) nd (q_call T__law_numbers.ok (hr.mono (by decide)) (by rfl) T__law_numbers.hm T__law_numbers.hk T__law_numbers.hb hx (q_cons (q_var 0) (q_cons (q_var 1) q_nil)))) (q_scons (q_setLc (i := 5) (own := [("_law_x", 7)]) rfl nd (q_iSq (q_var 4)) (blkOk_by (by kernel_rfl)) (fun _ _ _ _ _ => (q_gnm (i := 7) nd)) (fun _ _ _ _ _ => q_tnil) (fun _ _ _ _ _ => (q_call T__law_mark.ok (hr.mono (by decide)) (by rfl) T__law_mark.hm T__law_mark.hk T__law_mark.hb passE0 (q_cons (q_var 2) (q_cons (q_var 3) (q_cons (q_var 7) q_nil))))) (sw_true rfl rfl rfl (by decide +kernel))) (q_scons (q_set (i := 6) nd (q_call T__law_first.ok (hr.mono (by decide)) (by rfl) T__law_first.hm T__law_first.hk T__law_first.hb hx (q_cons (q_ix (q_var 2) q_int) (q_cons (q_lc (own := [("_law_x", 7)]) rfl nd (q_iSq (q_var 4)) (blkOk_by (by kernel_rfl)) (fun _ _ _ _ _ => (q_gnm (i := 7) nd)) (fun _ _ _ _ _ => q_tnil) (fun _ _ _ _ _ => (q_call T__law_row.ok (hr.mono (by decide)) (by rfl) T__law_row.hm T__law_row.hk T__law_row.hb passE0 (q_cons (q_var 2) (q_cons (q_var 7) q_nil))))) (q_cons (q_var 5) q_nil))))) (q_one1 (q_if (q_tcmp (o_ne hu) (q_var 6) (q_lst q_nil)) (q_one1 (q_ret (q_tup (q_cons (q_var 2) (q_cons (q_var 3) (q_cons (q_ix (q_var 6) q_int) q_nil)))))) q_snil))))) q_snil) (q_one1 (q_ret (q_tup (q_cons (q_var 2) (q_cons (q_var 3) (q_cons (q_callTy c_tuple (by rfl) m_tuple boot_tuple (q_cons (q_lc (own := [("_law_cell", 8)]) rfl nd (q_rg1 (by rfl) m_range (q_cons (q_ix (q_var 2) q_int) q_nil)) (blkOk_by (by kernel_rfl)) (fun _ _ _ _ _ => (q_gnm (i := 8) nd)) (fun _ _ _ _ _ => q_tnil) (fun _ _ _ _ _ => (q_call T__law_dip.ok (hr.mono (by decide)) (by rfl) T__law_dip.hm T__law_dip.hk T__law_dip.hb passE0 (q_cons (q_var 0) (q_cons (q_call T__law_power.ok (hr.mono (by decide)) (by rfl) T__law_power.hm T__law_power.hk T__law_power.hb passE0 (q_cons (q_var 3) q_nil)) q_nil))))) q_nil)) q_nil))))))))) k__law_filter
theorem ok__law_put {f : Addr} {fd : FuncData} (F : FnP K "_law_put" s__law_put f fd) : FnOk P w K mg base (L2.CX P w) 1 f fd ["_law_row_here", "_law_at", "_law_value"] (LP K mg 3 sp__law_put) := def_ok F sc__law_put (fun cdv A outer s H E hr => by
  have nd := sc__law_put.nd
  have hu := hr.units
  have hp := own_cx (P := P) (w := w) (K := K) (mg := mg) (base := base) (N := ["_law_row_here", "_law_at", "_law_value"]) (qual := "_law_put") (scope := defScope s__law_put) (f := f) (cd := cdv) (A := A) (outer := outer) (s := s) (H := H) (E := E)
  have hx := pass_cx (P := P) (w := w) (K := K) (mg := mg) (base := base) (N := ["_law_row_here", "_law_at", "_law_value"]) (qual := "_law_put") (scope := defScope s__law_put) (f := f) (cd := cdv) (A := A) (outer := outer) (s := s) (H := H) (E := E)
  exact (q_one1 (q_ret (q_op o_add (q_op o_add (q_slice (q_var 0) q_noP (q_part (q_var 1))) (q_tup (q_cons (q_var 2) q_nil))) (q_slice (q_var 0) (q_part (q_op o_add (q_var 1) q_int)) q_noP))))) k__law_put
theorem ok__law_odd_mixings {f : Addr} {fd : FuncData} (F : FnP K "_law_odd_mixings" s__law_odd_mixings f fd) {f__law_dip : Addr} {fd__law_dip : FuncData} (T__law_dip : FT P w K mg base "_law_dip" 1 ["_law_well_here", "_law_many"] sp__law_dip f__law_dip fd__law_dip) {f__law_put : Addr} {fd__law_put : FuncData} (T__law_put : FT P w K mg base "_law_put" 1 ["_law_row_here", "_law_at", "_law_value"] sp__law_put f__law_put fd__law_put) (m_len : mg "len" = none) (m_str : mg "str" = none) (m_list : mg "list" = none) : FnOk P w K mg base (L2.CX P w) 2 f fd ["_law_well_here", "_law_mixing_here"] (LP K mg 2 sp__law_odd_mixings) := def_ok F sc__law_odd_mixings (fun cdv A outer s H E hr => by
  have nd := sc__law_odd_mixings.nd
  have hu := hr.units
  have hp := own_cx (P := P) (w := w) (K := K) (mg := mg) (base := base) (N := ["_law_well_here", "_law_mixing_here", "_law_m", "_law_p", "_law_pairs", "_law_mark_here", "_law_at", "_law_a", "_law_b", "_law_odds", "_law_found", "_law_odd"]) (qual := "_law_odd_mixings") (scope := defScope s__law_odd_mixings) (f := f) (cd := cdv) (A := A) (outer := outer) (s := s) (H := H) (E := E)
  have hx := pass_cx (P := P) (w := w) (K := K) (mg := mg) (base := base) (N := ["_law_well_here", "_law_mixing_here", "_law_m", "_law_p", "_law_pairs", "_law_mark_here", "_law_at", "_law_a", "_law_b", "_law_odds", "_law_found", "_law_odd"]) (qual := "_law_odd_mixings") (scope := defScope s__law_odd_mixings) (f := f) (cd := cdv) (A := A) (outer := outer) (s := s) (H := H) (E := E)
  exact (q_scons (q_asg (q_var 1) (q_gtp rfl (q_gscons (q_gnm (i := 2) nd) (q_gscons (q_gnm (i := 3) nd) (q_gscons (q_gnm (i := 4) nd) (q_gscons (q_gnm (i := 5) nd) q_gsnil))))).p) (q_scons (q_set (i := 6) nd (q_call T__law_dip.ok (hr.mono (by decide)) (by rfl) T__law_dip.hm T__law_dip.hk T__law_dip.hb hx (q_cons (q_var 0) (q_cons (q_callB c_len (by rfl) m_len boot_len (q_cons (q_var 4) q_nil)) q_nil)))) (q_scons (q_asg (q_ix (q_var 4) (q_var 6)) (q_gtp rfl (q_gscons (q_gnm (i := 7) nd) (q_gscons (q_gnm (i := 8) nd) q_gsnil))).p) (q_scons (q_set (i := 9) nd (q_lst (q_cons (q_tup (q_cons (q_var 3) (q_cons (q_var 8) q_nil))) (q_cons (q_tup (q_cons (q_var 7) (q_cons (q_var 3) q_nil))) (q_cons (q_tup (q_cons (q_un o_neg q_int) (q_cons (q_var 8) q_nil))) (q_cons (q_tup (q_cons (q_var 7) (q_cons (q_un o_neg q_int) q_nil))) (q_cons (q_tup (q_cons q_bl (q_cons (q_var 8) q_nil))) (q_cons (q_tup (q_cons (q_var 7) (q_cons q_non q_nil))) (q_cons (q_lst (q_cons (q_var 7) (q_cons (q_var 8) q_nil))) (q_cons (q_tup (q_cons (q_var 7) q_nil)) (q_cons (q_tup (q_cons (q_var 7) (q_cons (q_var 8) (q_cons q_int q_nil)))) (q_cons q_non (q_cons (q_var 7) (q_cons (q_tup (q_cons q_str (q_cons (q_var 8) q_nil))) q_nil)))))))))))))) (q_scons (q_set (i := 9) nd (q_op o_add (q_var 9) (q_lst (q_cons (q_tup (q_cons (q_var 7) (q_cons (q_tup (q_cons (q_var 8) q_nil)) q_nil))) (q_cons (q_tup (q_cons q_non (q_cons (q_var 8) q_nil))) (q_cons (q_tup (q_cons (q_var 7) (q_cons q_str q_nil))) (q_cons (q_tup (q_cons (q_var 7) (q_cons (q_op o_add (q_var 3) q_int) q_nil))) q_nil))))))) (q_scons (q_set (i := 10) nd (q_op o_add (q_lc (own := [("_law_odd", 11)]) rfl nd (q_iSq (q_var 9)) (blkOk_by (by kernel_rfl)) (fun _ _ _ _ _ => (q_gnm (i := 11) nd)) (fun _ _ _ _ _ => q_tnil) (fun _ _ _ _ _ => (q_tup (q_cons (q_var 2) (q_cons (q_var 3) (q_cons (q_call T__law_put.ok (hr.mono (by decide)) (by rfl) T__law_put.hm T__law_put.hk T__law_put.hb passE0 (q_cons (q_var 4) (q_cons (q_var 6) (q_cons (q_var 11) q_nil)))) (q_cons (q_var 5) q_nil))))))) (q_lc (own := [("_law_odd", 11)]) rfl nd (q_iSq (q_var 9)) (blkOk_by (by kernel_rfl)) (fun _ _ _ _ _ => (q_gnm (i := 11) nd)) (fun _ _ _ _ _ => q_tnil) (fun _ _ _ _ _ => (q_tup (q_cons (q_var 2) (q_cons (q_var 3) (q_cons (q_var 4) (q_cons (q_var 11) q_nil))))))))) (q_scons (q_set (i := 10) nd (q_op o_add (q_var 10) (q_lst (q_cons (q_tup (q_cons q_int (q_cons (q_var 3) (q_cons (q_var 4) (q_cons (q_var 5) q_nil))))) (q_cons (q_tup (q_cons (q_un o_neg (q_var 2)) (q_cons (q_var 3) (q_cons (q_var 4) (q_cons (q_var 5) q_nil))))) (q_cons (q_tup (q_cons q_bl (q_cons (q_var 3) (q_cons (q_var 4) (q_cons (q_var 5) q_nil))))) (q_cons (q_tup (q_cons q_non (q_cons (q_var 3) (q_cons (q_var 4) (q_cons (q_var 5) q_nil))))) q_nil))))))) (q_scons (q_set (i := 10) nd (q_op o_add (q_var 10) (q_lst (q_cons (q_tup (q_cons (q_var 2) (q_cons q_int (q_cons (q_var 4) (q_cons (q_var 5) q_nil))))) (q_cons (q_tup (q_cons (q_var 2) (q_cons q_int (q_cons (q_tup (q_cons (q_tup (q_cons q_int (q_cons q_int q_nil))) q_nil)) (q_cons (q_tup (q_cons q_int (q_cons q_int q_nil))) q_nil))))) (q_cons (q_tup (q_cons (q_var 2) (q_cons (q_un o_neg (q_var 3)) (q_cons (q_var 4) (q_cons (q_var 5) q_nil))))) (q_cons (q_tup (q_cons (q_var 2) (q_cons (q_callTy c_str (by rfl) m_str PyProof.Rows.boot_str (q_cons (q_var 3) q_nil)) (q_cons (q_var 4) (q_cons (q_var 5) q_nil))))) q_nil))))))) (q_scons (q_set (i := 10) nd (q_op o_add (q_var 10) (q_lst (q_cons (q_tup (q_cons (q_var 2) (q_cons (q_var 3) (q_cons (q_tup q_nil) (q_cons (q_var 5) q_nil))))) (q_cons (q_tup (q_cons (q_var 2) (q_cons (q_var 3) (q_cons (q_callTy c_list (by rfl) m_list boot_list (q_cons (q_var 4) q_nil)) (q_cons (q_var 5) q_nil))))) (q_cons (q_tup (q_cons (q_var 2) (q_cons (q_var 3) (q_cons (q_var 5) (q_cons (q_var 5) q_nil))))) (q_cons (q_tup (q_cons (q_var 2) (q_cons (q_var 3) (q_cons (q_var 4) q_nil)))) q_nil))))))) (q_scons (q_set (i := 10) nd (q_op o_add (q_var 10) (q_lst (q_cons (q_tup (q_cons (q_var 2) (q_cons (q_var 3) (q_cons (q_var 4) (q_cons (q_var 5) (q_cons q_int q_nil)))))) (q_cons (q_callTy c_list (by rfl) m_list boot_list (q_cons (q_var 1) q_nil)) (q_cons q_non (q_cons (q_tup q_nil) (q_cons q_str (q_cons q_int (q_cons (q_tup (q_cons (q_var 1) q_nil)) (q_cons (q_tup (q_cons (q_var 2) (q_cons q_non (q_cons (q_var 4) (q_cons (q_var 5) q_nil))))) q_nil))))))))))) (q_scons (q_set (i := 10) nd (q_op o_add (q_var 10) (q_lst (q_cons (q_tup (q_cons (q_var 2) (q_cons q_bl (q_cons (q_tup (q_cons (q_tup (q_cons q_int (q_cons q_int q_nil))) q_nil)) (q_cons (q_tup (q_cons q_int (q_cons q_int q_nil))) q_nil))))) (q_cons (q_tup (q_cons (q_tup (q_cons (q_var 2) q_nil)) (q_cons (q_var 3) (q_cons (q_var 4) (q_cons (q_var 5) q_nil))))) (q_cons (q_tup (q_cons (q_var 2) (q_cons q_int (q_cons (q_tup (q_cons (q_tup (q_cons q_int (q_cons q_int q_nil))) q_nil)) (q_cons (q_tup (q_cons q_int (q_cons q_int q_nil))) q_nil))))) q_nil)))))) (q_one1 (q_ret (q_op o_add (q_var 10) (q_lst (q_cons (q_tup (q_cons (q_var 3) (q_cons (q_var 4) (q_cons (q_var 5) (q_cons (q_var 2) q_nil))))) q_nil))))))))))))))))) k__law_odd_mixings
theorem ok__law_odd_filters {f : Addr} {fd : FuncData} (F : FnP K "_law_odd_filters" s__law_odd_filters f fd) {f__law_dip : Addr} {fd__law_dip : FuncData} (T__law_dip : FT P w K mg base "_law_dip" 1 ["_law_well_here", "_law_many"] sp__law_dip f__law_dip fd__law_dip) {f__law_power : Addr} {fd__law_power : FuncData} (T__law_power : FT P w K mg base "_law_power" 1 ["_law_many"] sp__law_power f__law_power fd__law_power) {f__law_put : Addr} {fd__law_put : FuncData} (T__law_put : FT P w K mg base "_law_put" 1 ["_law_row_here", "_law_at", "_law_value"] sp__law_put f__law_put fd__law_put) {f__law_odd_mixings : Addr} {fd__law_odd_mixings : FuncData} (T__law_odd_mixings : FT P w K mg base "_law_odd_mixings" 2 ["_law_well_here", "_law_mixing_here"] sp__law_odd_mixings f__law_odd_mixings fd__law_odd_mixings) (m_len : mg "len" = none) (m_list : mg "list" = none) (m_range : mg "range" = none) : FnOk P w K mg base (L2.CX P w) 3 f fd ["_law_well_here", "_law_own"] (LP K mg 2 sp__law_odd_filters) := def_ok F sc__law_odd_filters (fun cdv A outer s H E hr => by
  have nd := sc__law_odd_filters.nd
  have hu := hr.units
  have hp := own_cx (P := P) (w := w) (K := K) (mg := mg) (base := base) (N := ["_law_well_here", "_law_own", "_law_mixing_here", "_law_w", "_law_table", "_law_at", "_law_words", "_law_found", "_law_word", "_law_zeros", "_law_odd", "_law_odds", "_law_turn"]) (qual := "_law_odd_filters") (scope := defScope s__law_odd_filters) (f := f) (cd := cdv) (A := A) (outer := outer) (s := s) (H := H) (E := E)
  have hx := pass_cx (P := P) (w := w) (K := K) (mg := mg) (base := base) (N := ["_law_well_here", "_law_own", "_law_mixing_here", "_law_w", "_law_table", "_law_at", "_law_words", "_law_found", "_law_word", "_law_zeros", "_law_odd", "_law_odds", "_law_turn"]) (qual := "_law_odd_filters") (scope := defScope s__law_odd_filters) (f := f) (cd := cdv) (A := A) (outer := outer) (s := s) (H := H) (E := E)
  exact (q_scons (q_asg (q_var 1) (q_gtp rfl (q_gscons (q_gnm (i := 2) nd) (q_gscons (q_gnm (i := 3) nd) (q_gscons (q_gnm (i := 4) nd) q_gsnil)))).p) (q_scons (q_set (i := 5) nd (q_call T__law_dip.ok (hr.mono (by decide)) (by rfl) T__law_dip.hm T__law_dip.hk T__law_dip.hb hx (q_cons (q_var 0) (q_cons (q_callB c_len (by rfl) m_len boot_len (q_cons (q_var 4) q_nil)) q_nil)))) (q_scons (q_set (i := 6) nd (q_lst (q_cons (q_call T__law_power.ok (hr.mono (by decide)) (by rfl) T__law_power.hm T__law_power.hk T__law_power.hb hx (q_cons (q_var 3) q_nil)) (q_cons (q_un o_neg q_int) (q_cons q_bl (q_cons q_bl (q_cons q_non (q_cons q_str (q_cons (q_tup (q_cons q_int q_nil)) (q_cons (q_lst (q_cons q_int q_nil)) (q_cons (q_op o_add (q_call T__law_power.ok (hr.mono (by decide)) (by rfl) T__law_power.hm T__law_power.hk T__law_power.hb hx (q_cons (q_var 3) q_nil)) q_int) q_nil))))))))))) (q_scons (q_setLc (i := 7) (own := [("_law_word", 8)]) rfl nd (q_iSq (q_var 6)) (blkOk_by (by kernel_rfl)) (fun _ _ _ _ _ => (q_gnm (i := 8) nd)) (fun _ _ _ _ _ => q_tnil) (fun _ _ _ _ _ => (q_tup (q_cons (q_var 2) (q_cons (q_var 3) (q_cons (q_call T__law_put.ok (hr.mono (by decide)) (by rfl) T__law_put.hm T__law_put.hk T__law_put.hb passE0 (q_cons (q_var 4) (q_cons (q_var 5) (q_cons (q_var 8) q_nil)))) q_nil))))) (sw_true rfl rfl rfl (by decide +kernel))) (q_scons (q_set (i := 7) nd (q_op o_add (q_var 7) (q_lst (q_cons (q_tup (q_cons (q_var 2) (q_cons (q_var 3) (q_cons (q_op o_add (q_var 4) (q_tup (q_cons q_int q_nil))) q_nil)))) (q_cons (q_tup (q_cons (q_var 2) (q_cons (q_var 3) (q_cons (q_slice (q_var 4) q_noP (q_part (q_un o_neg q_int))) q_nil)))) (q_cons (q_tup (q_cons (q_var 2) (q_cons (q_var 3) (q_cons (q_callTy c_list (by rfl) m_list boot_list (q_cons (q_var 4) q_nil)) q_nil)))) (q_cons (q_tup (q_cons (q_var 2) (q_cons (q_var 3) (q_cons q_non q_nil)))) q_nil))))))) (q_scons (q_set (i := 7) nd (q_op o_add (q_var 7) (q_lst (q_cons (q_tup (q_cons (q_var 2) (q_cons (q_var 3) (q_cons (q_tup q_nil) q_nil)))) (q_cons (q_tup (q_cons (q_var 2) (q_cons (q_var 3) (q_cons q_int q_nil)))) (q_cons (q_tup (q_cons (q_var 2) (q_cons (q_var 3) (q_cons q_str q_nil)))) (q_cons (q_tup (q_cons (q_var 2) (q_cons (q_var 3) (q_cons (q_op o_add (q_slice (q_var 4) q_noP (q_part (q_var 5))) (q_slice (q_var 4) (q_part (q_op o_add (q_var 5) q_int)) q_noP)) q_nil)))) q_nil))))))) (q_scons (q_set (i := 9) nd (q_op o_mulT (q_tup (q_cons q_int q_nil)) (q_callB c_len (by rfl) m_len boot_len (q_cons (q_var 4) q_nil)))) (q_scons (q_set (i := 7) nd (q_op o_add (q_var 7) (q_lc (own := [("_law_odd", 10)]) rfl nd (q_iSq (q_lst (q_cons q_int (q_cons (q_un o_neg q_int) (q_cons q_bl (q_cons q_non (q_cons q_str (q_cons (q_tup (q_cons q_int q_nil)) (q_cons (q_lst (q_cons q_int q_nil)) q_nil))))))))) (blkOk_by (by kernel_rfl)) (fun _ _ _ _ _ => (q_gnm (i := 10) nd)) (fun _ _ _ _ _ => q_tnil) (fun _ _ _ _ _ => (q_tup (q_cons (q_var 2) (q_cons (q_var 10) (q_cons (q_var 9) q_nil)))))))) (q_scons (q_set (i := 7) nd (q_op o_add (q_var 7) (q_lst (q_cons (q_tup (q_cons (q_var 2) (q_cons (q_var 3) q_nil))) (q_cons (q_tup (q_cons (q_var 2) (q_cons (q_var 3) (q_cons (q_var 4) (q_cons q_int q_nil))))) (q_cons (q_callTy c_list (by rfl) m_list boot_list (q_cons (q_var 1) q_nil)) (q_cons q_non (q_cons (q_tup q_nil) (q_cons q_str (q_cons q_int (q_cons (q_tup (q_cons (q_var 3) (q_cons (q_var 2) (q_cons (q_var 4) q_nil)))) (q_cons (q_tup (q_cons (q_var 1) q_nil)) q_nil)))))))))))) (q_scons (q_set (i := 11) nd (q_call T__law_odd_mixings.ok (hr.mono (by decide)) (by rfl) T__law_odd_mixings.hm T__law_odd_mixings.hk T__law_odd_mixings.hb hx (q_cons (q_var 0) (q_cons (q_var 2) q_nil)))) (q_one1 (q_ret (q_op o_add (q_var 7) (q_lc (own := [("_law_turn", 12)]) rfl nd (q_rg1 (by rfl) m_range (q_cons q_int q_nil)) (blkOk_by (by kernel_rfl)) (fun _ _ _ _ _ => (q_gnm (i := 12) nd)) (fun _ _ _ _ _ => q_tnil) (fun _ _ _ _ _ => (q_tup (q_cons (q_ix (q_var 11) (q_call T__law_dip.ok (hr.mono (by decide)) (by rfl) T__law_dip.hm T__law_dip.hk T__law_dip.hb passE0 (q_cons (q_var 0) (q_cons (q_callB c_len (by rfl) m_len boot_len (q_cons (q_var 11) q_nil)) q_nil)))) (q_cons (q_var 3) (q_cons (q_var 4) q_nil)))))))))))))))))))) k__law_odd_filters
theorem ok__law_refused {f : Addr} {fd : FuncData} (F : FnP K "_law_refused" s__law_refused f fd) {f_lets_in : Addr} {fd_lets_in : FuncData} (T_lets_in : FT P w K mg base "lets_in" 6 ["mesh", "x"] sp_lets_in f_lets_in fd_lets_in) {f_how_many_in : Addr} {fd_how_many_in : FuncData} (T_how_many_in : FT P w K mg base "how_many_in" 6 ["mesh", "many"] sp_how_many_in f_how_many_in fd_how_many_in) {f_wrongly : Addr} {fd_wrongly : FuncData} (T_wrongly : FT P w K mg base "wrongly" 6 ["mesh", "numbers", "many"] sp_wrongly f_wrongly fd_wrongly) {f_both : Addr} {fd_both : FuncData} (T_both : FT P w K mg base "both" 6 ["one", "other", "many"] sp_both f_both fd_both) {fd_init : FuncData} (hI : IniT P w K mg base fd_init) (x_InvalidFilter : exB K "InvalidFilter" = true) (c_InvalidFilter : mg "InvalidFilter" = some (.ref (He.ga K "InvalidFilter"))) (kb_how_many_in_0_many_mesh : KB K fd_how_many_in ["mesh", "many"] 0 ["many", "mesh"] [1, 0]) : FnOk P w K mg base (L2.CX P w) 7 f fd ["_law_way", "_law_mesh", "_law_good"] (LP K mg 3 sp__law_refused) := def_ok F sc__law_refused (fun cdv A outer s H E hr => by
  have nd := sc__law_refused.nd
  have hu := hr.units
  have hp := own_cx (P := P) (w := w) (K := K) (mg := mg) (base := base) (N := ["_law_way", "_law_mesh", "_law_good", "_law_found", "e"]) (qual := "_law_refused") (scope := defScope s__law_refused) (f := f) (cd := cdv) (A := A) (outer := outer) (s := s) (H := H) (E := E)
  have hx := pass_cx (P := P) (w := w) (K := K) (mg := mg) (base := base) (N := ["_law_way", "_law_mesh", "_law_good", "_law_found", "e"]) (qual := "_law_refused") (scope := defScope s__law_refused) (f := f) (cd := cdv) (A := A) (outer := outer) (s := s) (H := H) (E := E)
  have ht := takes_cx (P := P) (w := w) (K := K) (mg := mg) (base := base) (N := ["_law_way", "_law_mesh", "_law_good", "_law_found", "e"]) (qual := "_law_refused") (scope := defScope s__law_refused) (f := f) (cd := cdv) (A := A) (outer := outer) (s := s) (H := H) (E := E)
  exact (q_scons (q_set (i := 3) nd (q_lst q_nil)) (q_scons (q_try rfl rfl rfl nd ht (fun W pn xe ht1 => (w_one (w_if (w_t fun E => (q_tcmp (o_eq hu) (q_var 0) q_int)) (w_one (w_expr (w_call T_lets_in.ok (hr.mono (by decide)) (by rfl) T_lets_in.hm T_lets_in.hk T_lets_in.hb ht1 (w_cons (w_e fun E => (q_var 1)) (w_cons (w_e fun E => q_int) w_nil))))) (w_one (w_if (w_t fun E => (q_tcmp (o_eq hu) (q_var 0) q_int)) (w_one (w_expr (w_callK0 T_how_many_in.ok (hr.mono (by decide)) (by rfl) T_how_many_in.hm T_how_many_in.hk kb_how_many_in_0_many_mesh ht1 (fun E => (q_kcons q_int (q_kcons (q_var 1) q_knil)))))) (w_one (w_if (w_t fun E => (q_tcmp (o_eq hu) (q_var 0) q_int)) (w_one (w_expr (w_call T_wrongly.ok (hr.mono (by decide)) (by rfl) T_wrongly.hm T_wrongly.hk T_wrongly.hb ht1 (w_cons (w_e fun E => (q_var 1)) (w_cons (w_e fun E => (q_tup q_nil)) (w_cons (w_e fun E => q_int) w_nil)))))) (w_one (w_if (w_t fun E => (q_tcmp (o_eq hu) (q_var 0) q_int)) (w_one (w_expr (w_call T_both.ok (hr.mono (by decide)) (by rfl) T_both.hm T_both.hk T_both.hb ht1 (w_cons (w_e fun E => (q_var 1)) (w_cons (w_e fun E => (q_var 2)) (w_cons (w_e fun E => q_int) w_nil)))))) (w_one (w_expr (w_call T_both.ok (hr.mono (by decide)) (by rfl) T_both.hm T_both.hk T_both.hb ht1 (w_cons (w_e fun E => (q_var 2)) (w_cons (w_e fun E => (q_var 1)) (w_cons (w_e fun E => q_int) w_nil))))))))))))))) (.cons (h := ⟨"InvalidFilter", (some 4), (dSet 3 (dLst (dCons (dXv (dVar 4)) dNil)))⟩) (by rfl) (by decide) c_InvalidFilter x_InvalidFilter (by decide) (.inr ⟨_, _, rfl, rfl, rfl, rfl⟩) (fun a pn => (q_one1 (q_set (i := 3) nd (q_lst (q_cons (q_xv (q_var 4)) q_nil))))) .nil)) (q_one1 (q_ret (q_var 3)))))) k__law_refused
theorem ok_law {f : Addr} {fd : FuncData} (F : FnP K "law" s_law f fd) {f__law_well : Addr} {fd__law_well : FuncData} (T__law_well : FT P w K mg base "_law_well" 1 ["_law_script", "_law_place"] sp__law_well f__law_well fd__law_well) {f__law_filter : Addr} {fd__law_filter : FuncData} (T__law_filter : FT P w K mg base "_law_filter" 3 ["_law_well_here", "_law_most"] sp__law_filter f__law_filter fd__law_filter) {f__law_dip : Addr} {fd__law_dip : FuncData} (T__law_dip : FT P w K mg base "_law_dip" 1 ["_law_well_here", "_law_many"] sp__law_dip f__law_dip fd__law_dip) {f_is_filter : Addr} {fd_is_filter : FuncData} (T_is_filter : FT P w K mg base "is_filter" 5 ["told"] sp_is_filter f_is_filter fd_is_filter) {f__law_odd_filters : Addr} {fd__law_odd_filters : FuncData} (T__law_odd_filters : FT P w K mg base "_law_odd_filters" 3 ["_law_well_here", "_law_own"] sp__law_odd_filters f__law_odd_filters fd__law_odd_filters) {f__law_same : Addr} {fd__law_same : FuncData} (T__law_same : FT P w K mg base "_law_same" 9 ["_law_told", "_law_due"] sp__law_same f__law_same fd__law_same) {f__law_refused : Addr} {fd__law_refused : FuncData} (T__law_refused : FT P w K mg base "_law_refused" 7 ["_law_way", "_law_mesh", "_law_good"] sp__law_refused f__law_refused fd__law_refused) (m_range : mg "range" = none) (m_max : mg "max" = none) (m_min : mg "min" = none) (m_len : mg "len" = none) (kb_is_filter_0_told : KB K fd_is_filter ["told"] 0 ["told"] [0]) : FnOk P w K mg base (L2.CX P w) 10 f fd ["_law_script"] (LP K mg 1 sp_law) := def_ok F sc_law (fun cdv A outer s H E hr => by
  have nd := sc_law.nd
  have hu := hr.units
  have hp := own_cx (P := P) (w := w) (K := K) (mg := mg) (base := base) (N := ["_law_script", "_law_spot", "_law_well_here", "_law_own", "_law_odds", "_law_turn", "_law_odd", "_law_way"]) (qual := "law") (scope := defScope s_law) (f := f) (cd := cdv) (A := A) (outer := outer) (s := s) (H := H) (E := E)
  have hx := pass_cx (P := P) (w := w) (K := K) (mg := mg) (base := base) (N := ["_law_script", "_law_spot", "_law_well_here", "_law_own", "_law_odds", "_law_turn", "_law_odd", "_law_way"]) (qual := "law") (scope := defScope s_law) (f := f) (cd := cdv) (A := A) (outer := outer) (s := s) (H := H) (E := E)
  exact (q_scons (q_for hp rfl (q_rg1 (by rfl) m_range (q_cons (q_callB (c_max rfl) (by rfl) m_max boot_max (q_cons q_int (q_cons (q_callB (c_min rfl) (by rfl) m_min boot_min (q_cons q_int (q_cons (q_callB c_len (by rfl) m_len boot_len (q_cons (q_var 0) q_nil)) q_nil))) q_nil))) q_nil)) (q_gnm (i := 1) nd) (q_scons (q_set (i := 2) nd (q_call T__law_well.ok (hr.mono (by decide)) (by rfl) T__law_well.hm T__law_well.hk T__law_well.hb hx (q_cons (q_var 0) (q_cons (q_var 1) q_nil)))) (q_scons (q_set (i := 3) nd (q_call T__law_filter.ok (hr.mono (by decide)) (by rfl) T__law_filter.hm T__law_filter.hk T__law_filter.hb hx (q_cons (q_var 2) (q_cons (q_ix (q_lst (q_cons q_int (q_cons q_int q_nil))) (q_call T__law_dip.ok (hr.mono (by decide)) (by rfl) T__law_dip.hm T__law_dip.hk T__law_dip.hb hx (q_cons (q_var 2) (q_cons q_int q_nil)))) q_nil)))) (q_scons (q_set (i := 3) nd (q_ifE (q_tcmp (o_eq hu) (q_call T__law_dip.ok (hr.mono (by decide)) (by rfl) T__law_dip.hm T__law_dip.hk T__law_dip.hb hx (q_cons (q_var 2) (q_cons q_int q_nil))) q_int) (q_tup (q_cons (q_ix (q_var 3) q_int) (q_cons q_int (q_cons (q_ix (q_var 3) q_int) q_nil)))) (q_var 3))) (q_scons (q_if (q_w (q_or (q_tcmp o_isNot (q_call T_is_filter.ok (hr.mono (by decide)) (by rfl) T_is_filter.hm T_is_filter.hk T_is_filter.hb hx (q_cons (q_var 3) q_nil)) q_bl) (q_or1 (q_tcmp o_isNot (q_callK0 T_is_filter.ok (hr.mono (by decide)) (by rfl) T_is_filter.hm T_is_filter.hk kb_is_filter_0_told hx (q_kcons (q_var 3) q_knil)) q_bl)))) (q_one1 (q_ret q_bl)) q_snil) (q_scons (q_set (i := 4) nd (q_call T__law_odd_filters.ok (hr.mono (by decide)) (by rfl) T__law_odd_filters.hm T__law_odd_filters.hk T__law_odd_filters.hb hx (q_cons (q_var 2) (q_cons (q_var 3) q_nil)))) (q_scons (q_for hp rfl (q_rg1 (by rfl) m_range (q_cons q_int q_nil)) (q_gnm (i := 5) nd) (q_scons (q_set (i := 6) nd (q_ix (q_var 4) (q_call T__law_dip.ok (hr.mono (by decide)) (by rfl) T__law_dip.hm T__law_dip.hk T__law_dip.hb hx (q_cons (q_var 2) (q_cons (q_callB c_len (by rfl) m_len boot_len (q_cons (q_var 4) q_nil)) q_nil))))) (q_one1 (q_if (q_w (q_or (q_tcmp o_isNot (q_call T_is_filter.ok (hr.mono (by decide)) (by rfl) T_is_filter.hm T_is_filter.hk T_is_filter.hb hx (q_cons (q_var 6) q_nil)) q_bl) (q_or1 (q_not (q_tval (q_call T__law_same.ok (hr.mono (by decide)) (by rfl) T__law_same.hm T__law_same.hk T__law_same.hb hx (q_cons (q_call T__law_refused.ok (hr.mono (by decide)) (by rfl) T__law_refused.hm T__law_refused.hk T__law_refused.hb hx (q_cons (q_call T__law_dip.ok (hr.mono (by decide)) (by rfl) T__law_dip.hm T__law_dip.hk T__law_dip.hb hx (q_cons (q_var 2) (q_cons q_int q_nil))) (q_cons (q_var 6) (q_cons (q_var 3) q_nil)))) (q_cons (q_lst (q_cons (q_var 6) q_nil)) q_nil)))))))) (q_one1 (q_ret q_bl)) q_snil)))) (q_one1 (q_if (q_not (q_tval (q_call T__law_same.ok (hr.mono (by decide)) (by rfl) T__law_same.hm T__law_same.hk T__law_same.hb hx (q_cons (q_lc (own := [("_law_way", 7)]) rfl nd (q_rg1 (by rfl) m_range (q_cons q_int q_nil)) (blkOk_by (by kernel_rfl)) (fun _ _ _ _ _ => (q_gnm (i := 7) nd)) (fun _ _ _ _ _ => q_tnil) (fun _ _ _ _ _ => (q_call T__law_refused.ok (hr.mono (by decide)) (by rfl) T__law_refused.hm T__law_refused.hk T__law_refused.hb passE0 (q_cons (q_var 7) (q_cons (q_var 3) (q_cons (q_var 3) q_nil)))))) (q_cons (q_lst (q_cons (q_lst q_nil) (q_cons (q_lst q_nil) (q_cons (q_lst q_nil) (q_cons (q_lst q_nil) (q_cons (q_lst q_nil) q_nil)))))) q_nil))))) (q_one1 (q_ret q_bl)) q_snil))))))))) (q_one1 (q_ret q_bl)))) k_law
end
def d_is_integer : He.DefD := ⟨("is_integer", none), "is_integer", "is_integer", defArgs s_is_integer, defBody s_is_integer, defScope s_is_integer, [], []⟩
def d_is_natural : He.DefD := ⟨("is_natural", none), "is_natural", "is_natural", defArgs s_is_natural, defBody s_is_natural, defScope s_is_natural, [], []⟩
def d_sum_of_words : He.DefD := ⟨("sum_of_words", none), "sum_of_words", "sum_of_words", defArgs s_sum_of_words, defBody s_sum_of_words, defScope s_sum_of_words, [], []⟩
def d_bits_of : He.DefD := ⟨("bits_of", none), "bits_of", "bits_of", defArgs s_bits_of, defBody s_bits_of, defScope s_bits_of, [], []⟩
def d_width_of : He.DefD := ⟨("width_of", none), "width_of", "width_of", defArgs s_width_of, defBody s_width_of, defScope s_width_of, [], []⟩
def d_is_word_of : He.DefD := ⟨("is_word_of", none), "is_word_of", "is_word_of", defArgs s_is_word_of, defBody s_is_word_of, defScope s_is_word_of, [], []⟩
def d_told_by_row : He.DefD := ⟨("told_by_row", none), "told_by_row", "told_by_row", defArgs s_told_by_row, defBody s_told_by_row, defScope s_told_by_row, [], []⟩
def d_is_pair_below : He.DefD := ⟨("is_pair_below", none), "is_pair_below", "is_pair_below", defArgs s_is_pair_below, defBody s_is_pair_below, defScope s_is_pair_below, [], []⟩
def d_is_mixing_told : He.DefD := ⟨("is_mixing_told", none), "is_mixing_told", "is_mixing_told", defArgs s_is_mixing_told, defBody s_is_mixing_told, defScope s_is_mixing_told, [], []⟩
def d_check_from : He.DefD := ⟨("check_from", none), "check_from", "check_from", defArgs s_check_from, defBody s_check_from, defScope s_check_from, [], []⟩
def d_check_numbers : He.DefD := ⟨("check_numbers", none), "check_numbers", "check_numbers", defArgs s_check_numbers, defBody s_check_numbers, defScope s_check_numbers, [], []⟩
def d_mixed : He.DefD := ⟨("mixed", none), "mixed", "mixed", defArgs s_mixed, defBody s_mixed, defScope s_mixed, [], []⟩
def d_row_by : He.DefD := ⟨("row_by", none), "row_by", "row_by", defArgs s_row_by, defBody s_row_by, defScope s_row_by, [], []⟩
def d_mark_by : He.DefD := ⟨("mark_by", none), "mark_by", "mark_by", defArgs s_mark_by, defBody s_mark_by, defScope s_mark_by, [], []⟩
def d_is_mesh : He.DefD := ⟨("is_mesh", none), "is_mesh", "is_mesh", defArgs s_is_mesh, defBody s_is_mesh, defScope s_is_mesh, [], []⟩
def d_check_mesh : He.DefD := ⟨("check_mesh", none), "check_mesh", "check_mesh", defArgs s_check_mesh, defBody s_check_mesh, defScope s_check_mesh, [], []⟩
def d_lets : He.DefD := ⟨("lets", none), "lets", "lets", defArgs s_lets, defBody s_lets, defScope s_lets, [], []⟩
def d_let_rests : He.DefD := ⟨("let_rests", none), "let_rests", "let_rests", defArgs s_let_rests, defBody s_let_rests, defScope s_let_rests, [], []⟩
def d_is_filter : He.DefD := ⟨("is_filter", none), "is_filter", "is_filter", defArgs s_is_filter, defBody s_is_filter, defScope s_is_filter, [], []⟩
def d_lets_in : He.DefD := ⟨("lets_in", none), "lets_in", "lets_in", defArgs s_lets_in, defBody s_lets_in, defScope s_lets_in, [], []⟩
def d_wrongly : He.DefD := ⟨("wrongly", none), "wrongly", "wrongly", defArgs s_wrongly, defBody s_wrongly, defScope s_wrongly, [], []⟩
def d_how_many_in : He.DefD := ⟨("how_many_in", none), "how_many_in", "how_many_in", defArgs s_how_many_in, defBody s_how_many_in, defScope s_how_many_in, [], []⟩
def d_both : He.DefD := ⟨("both", none), "both", "both", defArgs s_both, defBody s_both, defScope s_both, [], []⟩
def d__law_well : He.DefD := ⟨("_law_well", none), "_law_well", "_law_well", defArgs s__law_well, defBody s__law_well, defScope s__law_well, [], []⟩
def d__law_dip : He.DefD := ⟨("_law_dip", none), "_law_dip", "_law_dip", defArgs s__law_dip, defBody s__law_dip, defScope s__law_dip, [], []⟩
def d__law_same : He.DefD := ⟨("_law_same", none), "_law_same", "_law_same", defArgs s__law_same, defBody s__law_same, defScope s__law_same, [], []⟩
def d__law_sum : He.DefD := ⟨("_law_sum", none), "_law_sum", "_law_sum", defArgs s__law_sum, defBody s__law_sum, defScope s__law_sum, [], []⟩
def d__law_power : He.DefD := ⟨("_law_power", none), "_law_power", "_law_power", defArgs s__law_power, defBody s__law_power, defScope s__law_power, [], []⟩
def d__law_first : He.DefD := ⟨("_law_first", none), "_law_first", "_law_first", defArgs s__law_first, defBody s__law_first, defScope s__law_first, [], []⟩
def d__law_mixing : He.DefD := ⟨("_law_mixing", none), "_law_mixing", "_law_mixing", defArgs s__law_mixing, defBody s__law_mixing, defScope s__law_mixing, [], []⟩
def d__law_row : He.DefD := ⟨("_law_row", none), "_law_row", "_law_row", defArgs s__law_row, defBody s__law_row, defScope s__law_row, [], []⟩
def d__law_mark : He.DefD := ⟨("_law_mark", none), "_law_mark", "_law_mark", defArgs s__law_mark, defBody s__law_mark, defScope s__law_mark, [], []⟩
def d__law_numbers : He.DefD := ⟨("_law_numbers", none), "_law_numbers", "_law_numbers", defArgs s__law_numbers, defBody s__law_numbers, defScope s__law_numbers, [], []⟩
def d__law_lets : He.DefD := ⟨("_law_lets", none), "_law_lets", "_law_lets", defArgs s__law_lets, defBody s__law_lets, defScope s__law_lets, [], []⟩
def d__law_filter : He.DefD := ⟨("_law_filter", none), "_law_filter", "_law_filter", defArgs s__law_filter, defBody s__law_filter, defScope s__law_filter, [], []⟩
def d__law_put : He.DefD := ⟨("_law_put", none), "_law_put", "_law_put", defArgs s__law_put, defBody s__law_put, defScope s__law_put, [], []⟩
def d__law_odd_mixings : He.DefD := ⟨("_law_odd_mixings", none), "_law_odd_mixings", "_law_odd_mixings", defArgs s__law_odd_mixings, defBody s__law_odd_mixings, defScope s__law_odd_mixings, [], []⟩
def d__law_odd_filters : He.DefD := ⟨("_law_odd_filters", none), "_law_odd_filters", "_law_odd_filters", defArgs s__law_odd_filters, defBody s__law_odd_filters, defScope s__law_odd_filters, [], []⟩
def d__law_refused : He.DefD := ⟨("_law_refused", none), "_law_refused", "_law_refused", defArgs s__law_refused, defBody s__law_refused, defScope s__law_refused, [], []⟩
def d_law : He.DefD := ⟨("law", none), "law", "law", defArgs s_law, defBody s_law, defScope s_law, [], []⟩
def d_init : He.DefD := ⟨("TellError", some "__init__"), "__init__", "TellError.__init__", defArgs s_init, defBody s_init, defScope s_init, [], []⟩
def fn : List He.DefD := [d_is_integer, d_is_natural, d_sum_of_words, d_bits_of, d_width_of, d_is_word_of, d_told_by_row, d_is_pair_below, d_is_mixing_told, d_check_from, d_check_numbers, d_mixed, d_row_by, d_mark_by, d_is_mesh, d_check_mesh, d_lets, d_let_rests, d_is_filter, d_lets_in, d_wrongly, d_how_many_in, d_both, d__law_well, d__law_dip, d__law_same, d__law_sum, d__law_power, d__law_first, d__law_mixing, d__law_row, d__law_mark, d__law_numbers, d__law_lets, d__law_filter, d__law_put, d__law_odd_mixings, d__law_odd_filters, d__law_refused, d_law, d_init]
def fa : List He.Fa := [.glo "is_integer", .glo "is_natural", .glo "sum_of_words", .glo "bits_of", .glo "width_of", .glo "is_word_of", .glo "told_by_row", .glo "is_pair_below", .glo "is_mixing_told", .glo "check_from", .glo "check_numbers", .glo "mixed", .glo "row_by", .glo "mark_by", .glo "is_mesh", .glo "check_mesh", .glo "lets", .glo "let_rests", .glo "is_filter", .glo "lets_in", .glo "wrongly", .glo "how_many_in", .glo "both", .glo "_law_well", .glo "_law_dip", .glo "_law_same", .glo "_law_sum", .glo "_law_power", .glo "_law_first", .glo "_law_mixing", .glo "_law_row", .glo "_law_mark", .glo "_law_numbers", .glo "_law_lets", .glo "_law_filter", .glo "_law_put", .glo "_law_odd_mixings", .glo "_law_odd_filters", .glo "_law_refused", .glo "law", .free "isinstance", .free "int", .free "bool", .free "tuple", .free "len", .free "all", .free "list", .free "set", .free "sorted", .free "range", .free "sum", .free "max", .free "abs", .free "str", .free "zip", .free "min", .free "ValueError", .glo "InvalidNumber", .glo "InvalidValues", .glo "InvalidFilter"]
def bf : List (Str × Value) := [("gcd", (.builtin "math.gcd"))]
abbrev R : PySem.W.OpenRow := PySem.W.OpenLaw.row PySem.Challenge.rw_keytellers_k35_whole_filters_judged
def cs : List Chk := [veC, fun K => exB K "InvalidNumber", fun K => exB K "InvalidValues", fun K => exB K "InvalidFilter"]
abbrev hk : PySem.W.Hook := hookC 5 cs bf fa fn
def ob (s : PySem.W.SharedT) : AlC := obsCG 5 cs bf fa fn (HandSHeadRun.getT s)
theorem ob_eq (s : PySem.W.SharedT) : ob s = hk.obs s.abs := obsCG_eq (HandSHeadRun.getT_eq s)
def loose0 : List Str := ["TellError", "InvalidNumber", "InvalidValues", "InvalidFilter", "is_integer", "is_natural", "sum_of_words", "bits_of", "width_of", "is_word_of", "told_by_row", "is_pair_below", "is_mixing_told", "check_from", "check_numbers", "mixed", "row_by", "mark_by", "is_mesh", "check_mesh", "lets", "let_rests", "is_filter", "lets_in", "wrongly", "how_many_in", "both", "_law_well", "_law_dip", "_law_same"]
def loose1 : List Str := ["_law_sum", "_law_power", "_law_first", "_law_mixing", "_law_row", "_law_mark", "_law_numbers", "_law_lets", "_law_filter", "_law_put", "_law_odd_mixings", "_law_odd_filters", "_law_refused"]
abbrev loose : List Str := loose0 ++ loose1
theorem run (w : World) : HandSHeadRun.RunEqI R (PySem.W.view R.prog [0, 51]) hk ob 20000 loose w := by
  unfold HandSHeadRun.RunEqI
  kernel_rfl
theorem facts {P : Program} {w : World} {K : PySem.W.Frag} {h : Heap} {mg : Str → Option Value} {f : Addr} (X : K.In h) (G : h.Ns mainGlobals mg) (hfa : mg ("law" : Str) = some (.ref f)) (cc : SaysC cs bf fa fn K) :
    ∃ fd : FuncData, (∀ (s : Shared) (v : Value), BindsTo s fd ⟨[v], []⟩ [("_law_script", v)]) ∧ ∀ base : Heap, K.In base → base.Ns mainGlobals mg → FnOk P w K mg base (L2.CX P w) 10 f fd ["_law_script"] (LP K mg 1 sp_law) := by
  have cb := cc.2
  have c := cb.2
  have mb_gcd := bf_ok X G (cb.bf 0 (p := ("gcd", (.builtin "math.gcd"))) rfl)
  obtain ⟨fd_is_integer, F_is_integer⟩ := c.def_ 0 (d := d_is_integer) rfl
  have hm_is_integer := He.glo_ok X G (c.fact 0 (f := .glo "is_integer") rfl)
  obtain ⟨fd_is_natural, F_is_natural⟩ := c.def_ 1 (d := d_is_natural) rfl
  have hm_is_natural := He.glo_ok X G (c.fact 1 (f := .glo "is_natural") rfl)
  obtain ⟨fd_sum_of_words, F_sum_of_words⟩ := c.def_ 2 (d := d_sum_of_words) rfl
  have hm_sum_of_words := He.glo_ok X G (c.fact 2 (f := .glo "sum_of_words") rfl)
  obtain ⟨fd_bits_of, F_bits_of⟩ := c.def_ 3 (d := d_bits_of) rfl
  have hm_bits_of := He.glo_ok X G (c.fact 3 (f := .glo "bits_of") rfl)
  obtain ⟨fd_width_of, F_width_of⟩ := c.def_ 4 (d := d_width_of) rfl
  have hm_width_of := He.glo_ok X G (c.fact 4 (f := .glo "width_of") rfl)
  obtain ⟨fd_is_word_of, F_is_word_of⟩ := c.def_ 5 (d := d_is_word_of) rfl
  have hm_is_word_of := He.glo_ok X G (c.fact 5 (f := .glo "is_word_of") rfl)
  obtain ⟨fd_told_by_row, F_told_by_row⟩ := c.def_ 6 (d := d_told_by_row) rfl
  have hm_told_by_row := He.glo_ok X G (c.fact 6 (f := .glo "told_by_row") rfl)
  obtain ⟨fd_is_pair_below, F_is_pair_below⟩ := c.def_ 7 (d := d_is_pair_below) rfl
  have hm_is_pair_below := He.glo_ok X G (c.fact 7 (f := .glo "is_pair_below") rfl)
  obtain ⟨fd_is_mixing_told, F_is_mixing_told⟩ := c.def_ 8 (d := d_is_mixing_told) rfl
  have hm_is_mixing_told := He.glo_ok X G (c.fact 8 (f := .glo "is_mixing_told") rfl)
  obtain ⟨fd_check_from, F_check_from⟩ := c.def_ 9 (d := d_check_from) rfl
  have hm_check_from := He.glo_ok X G (c.fact 9 (f := .glo "check_from") rfl)
  obtain ⟨fd_check_numbers, F_check_numbers⟩ := c.def_ 10 (d := d_check_numbers) rfl
  have hm_check_numbers := He.glo_ok X G (c.fact 10 (f := .glo "check_numbers") rfl)
  obtain ⟨fd_mixed, F_mixed⟩ := c.def_ 11 (d := d_mixed) rfl
  have hm_mixed := He.glo_ok X G (c.fact 11 (f := .glo "mixed") rfl)
  obtain ⟨fd_row_by, F_row_by⟩ := c.def_ 12 (d := d_row_by) rfl
  have hm_row_by := He.glo_ok X G (c.fact 12 (f := .glo "row_by") rfl)
  obtain ⟨fd_mark_by, F_mark_by⟩ := c.def_ 13 (d := d_mark_by) rfl
  have hm_mark_by := He.glo_ok X G (c.fact 13 (f := .glo "mark_by") rfl)
  obtain ⟨fd_is_mesh, F_is_mesh⟩ := c.def_ 14 (d := d_is_mesh) rfl
  have hm_is_mesh := He.glo_ok X G (c.fact 14 (f := .glo "is_mesh") rfl)
  obtain ⟨fd_check_mesh, F_check_mesh⟩ := c.def_ 15 (d := d_check_mesh) rfl
  have hm_check_mesh := He.glo_ok X G (c.fact 15 (f := .glo "check_mesh") rfl)
  obtain ⟨fd_lets, F_lets⟩ := c.def_ 16 (d := d_lets) rfl
  have hm_lets := He.glo_ok X G (c.fact 16 (f := .glo "lets") rfl)
  obtain ⟨fd_let_rests, F_let_rests⟩ := c.def_ 17 (d := d_let_rests) rfl
  have hm_let_rests := He.glo_ok X G (c.fact 17 (f := .glo "let_rests") rfl)
  obtain ⟨fd_is_filter, F_is_filter⟩ := c.def_ 18 (d := d_is_filter) rfl
  have hm_is_filter := He.glo_ok X G (c.fact 18 (f := .glo "is_filter") rfl)
  obtain ⟨fd_lets_in, F_lets_in⟩ := c.def_ 19 (d := d_lets_in) rfl
  have hm_lets_in := He.glo_ok X G (c.fact 19 (f := .glo "lets_in") rfl)
  obtain ⟨fd_wrongly, F_wrongly⟩ := c.def_ 20 (d := d_wrongly) rfl
  have hm_wrongly := He.glo_ok X G (c.fact 20 (f := .glo "wrongly") rfl)
  obtain ⟨fd_how_many_in, F_how_many_in⟩ := c.def_ 21 (d := d_how_many_in) rfl
  have hm_how_many_in := He.glo_ok X G (c.fact 21 (f := .glo "how_many_in") rfl)
  obtain ⟨fd_both, F_both⟩ := c.def_ 22 (d := d_both) rfl
  have hm_both := He.glo_ok X G (c.fact 22 (f := .glo "both") rfl)
  obtain ⟨fd__law_well, F__law_well⟩ := c.def_ 23 (d := d__law_well) rfl
  have hm__law_well := He.glo_ok X G (c.fact 23 (f := .glo "_law_well") rfl)
  obtain ⟨fd__law_dip, F__law_dip⟩ := c.def_ 24 (d := d__law_dip) rfl
  have hm__law_dip := He.glo_ok X G (c.fact 24 (f := .glo "_law_dip") rfl)
  obtain ⟨fd__law_same, F__law_same⟩ := c.def_ 25 (d := d__law_same) rfl
  have hm__law_same := He.glo_ok X G (c.fact 25 (f := .glo "_law_same") rfl)
  obtain ⟨fd__law_sum, F__law_sum⟩ := c.def_ 26 (d := d__law_sum) rfl
  have hm__law_sum := He.glo_ok X G (c.fact 26 (f := .glo "_law_sum") rfl)
  obtain ⟨fd__law_power, F__law_power⟩ := c.def_ 27 (d := d__law_power) rfl
  have hm__law_power := He.glo_ok X G (c.fact 27 (f := .glo "_law_power") rfl)
  obtain ⟨fd__law_first, F__law_first⟩ := c.def_ 28 (d := d__law_first) rfl
  have hm__law_first := He.glo_ok X G (c.fact 28 (f := .glo "_law_first") rfl)
  obtain ⟨fd__law_mixing, F__law_mixing⟩ := c.def_ 29 (d := d__law_mixing) rfl
  have hm__law_mixing := He.glo_ok X G (c.fact 29 (f := .glo "_law_mixing") rfl)
  obtain ⟨fd__law_row, F__law_row⟩ := c.def_ 30 (d := d__law_row) rfl
  have hm__law_row := He.glo_ok X G (c.fact 30 (f := .glo "_law_row") rfl)
  obtain ⟨fd__law_mark, F__law_mark⟩ := c.def_ 31 (d := d__law_mark) rfl
  have hm__law_mark := He.glo_ok X G (c.fact 31 (f := .glo "_law_mark") rfl)
  obtain ⟨fd__law_numbers, F__law_numbers⟩ := c.def_ 32 (d := d__law_numbers) rfl
  have hm__law_numbers := He.glo_ok X G (c.fact 32 (f := .glo "_law_numbers") rfl)
  obtain ⟨fd__law_lets, F__law_lets⟩ := c.def_ 33 (d := d__law_lets) rfl
  have hm__law_lets := He.glo_ok X G (c.fact 33 (f := .glo "_law_lets") rfl)
  obtain ⟨fd__law_filter, F__law_filter⟩ := c.def_ 34 (d := d__law_filter) rfl
  have hm__law_filter := He.glo_ok X G (c.fact 34 (f := .glo "_law_filter") rfl)
  obtain ⟨fd__law_put, F__law_put⟩ := c.def_ 35 (d := d__law_put) rfl
  have hm__law_put := He.glo_ok X G (c.fact 35 (f := .glo "_law_put") rfl)
  obtain ⟨fd__law_odd_mixings, F__law_odd_mixings⟩ := c.def_ 36 (d := d__law_odd_mixings) rfl
  have hm__law_odd_mixings := He.glo_ok X G (c.fact 36 (f := .glo "_law_odd_mixings") rfl)
  obtain ⟨fd__law_odd_filters, F__law_odd_filters⟩ := c.def_ 37 (d := d__law_odd_filters) rfl
  have hm__law_odd_filters := He.glo_ok X G (c.fact 37 (f := .glo "_law_odd_filters") rfl)
  obtain ⟨fd__law_refused, F__law_refused⟩ := c.def_ 38 (d := d__law_refused) rfl
  have hm__law_refused := He.glo_ok X G (c.fact 38 (f := .glo "_law_refused") rfl)
  obtain ⟨fd_law, F_law⟩ := c.def_ 39 (d := d_law) rfl
  have hm_law := He.glo_ok X G (c.fact 39 (f := .glo "law") rfl)
  have m_isinstance := He.free_ok X G (c.fact 40 (f := .free "isinstance") rfl)
  have m_int := He.free_ok X G (c.fact 41 (f := .free "int") rfl)
  have m_bool := He.free_ok X G (c.fact 42 (f := .free "bool") rfl)
  have m_tuple := He.free_ok X G (c.fact 43 (f := .free "tuple") rfl)
  have m_len := He.free_ok X G (c.fact 44 (f := .free "len") rfl)
  have m_all := He.free_ok X G (c.fact 45 (f := .free "all") rfl)
  have m_list := He.free_ok X G (c.fact 46 (f := .free "list") rfl)
  have m_set := He.free_ok X G (c.fact 47 (f := .free "set") rfl)
  have m_sorted := He.free_ok X G (c.fact 48 (f := .free "sorted") rfl)
  have m_range := He.free_ok X G (c.fact 49 (f := .free "range") rfl)
  have m_sum := He.free_ok X G (c.fact 50 (f := .free "sum") rfl)
  have m_max := He.free_ok X G (c.fact 51 (f := .free "max") rfl)
  have m_abs := He.free_ok X G (c.fact 52 (f := .free "abs") rfl)
  have m_str := He.free_ok X G (c.fact 53 (f := .free "str") rfl)
  have m_zip := He.free_ok X G (c.fact 54 (f := .free "zip") rfl)
  have m_min := He.free_ok X G (c.fact 55 (f := .free "min") rfl)
  have m_ValueError := He.free_ok X G (c.fact 56 (f := .free "ValueError") rfl)
  obtain ⟨fd_init, F_init⟩ := c.def_ 40 (d := d_init) rfl
  have hI : ∀ base : Heap, IniT P w K mg base fd_init := fun base => ⟨ok_init F_init m_ValueError (veC_ok (cc.chk 0 rfl)), FunD.bindsN F_init fun _ _ _ _ _ _ us hl => match us, hl with | [_, _], _ => rfl⟩
  have x_InvalidNumber : exB K "InvalidNumber" = true := cc.chk 1 rfl
  have c_InvalidNumber := He.glo_ok X G (c.fact 57 (f := .glo "InvalidNumber") rfl)
  have x_InvalidValues : exB K "InvalidValues" = true := cc.chk 2 rfl
  have c_InvalidValues := He.glo_ok X G (c.fact 58 (f := .glo "InvalidValues") rfl)
  have x_InvalidFilter : exB K "InvalidFilter" = true := cc.chk 3 rfl
  have c_InvalidFilter := He.glo_ok X G (c.fact 59 (f := .glo "InvalidFilter") rfl)
  have e := hfa.symm.trans hm_law
  cases e
  have b_is_integer : Binds K fd_is_integer ["value"] [] := FunD.bindsN F_is_integer fun _ _ _ _ _ _ us hl => match us, hl with | [_], _ => rfl
  have b_is_natural : Binds K fd_is_natural ["value"] [] := FunD.bindsN F_is_natural fun _ _ _ _ _ _ us hl => match us, hl with | [_], _ => rfl
  have b_sum_of_words : Binds K fd_sum_of_words ["words"] [] := FunD.bindsN F_sum_of_words fun _ _ _ _ _ _ us hl => match us, hl with | [_], _ => rfl
  have b_bits_of : Binds K fd_bits_of ["a"] [] := FunD.bindsN F_bits_of fun _ _ _ _ _ _ us hl => match us, hl with | [_], _ => rfl
  have b_width_of : Binds K fd_width_of ["a"] [] := FunD.bindsN F_width_of fun _ _ _ _ _ _ us hl => match us, hl with | [_], _ => rfl
  have b_is_word_of : Binds K fd_is_word_of ["w", "told"] [] := FunD.bindsN F_is_word_of fun _ _ _ _ _ _ us hl => match us, hl with | [_, _], _ => rfl
  have b_told_by_row : Binds K fd_told_by_row ["table", "row"] [] := FunD.bindsN F_told_by_row fun _ _ _ _ _ _ us hl => match us, hl with | [_, _], _ => rfl
  have b_is_pair_below : Binds K fd_is_pair_below ["p", "told"] [] := FunD.bindsN F_is_pair_below fun _ _ _ _ _ _ us hl => match us, hl with | [_, _], _ => rfl
  have b_is_mixing_told : Binds K fd_is_mixing_told ["told"] [] := FunD.bindsN F_is_mixing_told fun _ _ _ _ _ _ us hl => match us, hl with | [_], _ => rfl
  have b_check_from : Binds K fd_check_from ["number", "least"] [] := FunD.bindsN F_check_from fun _ _ _ _ _ _ us hl => match us, hl with | [_, _], _ => rfl
  have b_check_numbers : Binds K fd_check_numbers ["numbers"] [] := FunD.bindsN F_check_numbers fun _ _ _ _ _ _ us hl => match us, hl with | [_], _ => rfl
  have b_mixed : Binds K fd_mixed ["pair", "p", "x"] [] := FunD.bindsN F_mixed fun _ _ _ _ _ _ us hl => match us, hl with | [_, _, _], _ => rfl
  have b_row_by : Binds K fd_row_by ["mixing", "x"] [] := FunD.bindsN F_row_by fun _ _ _ _ _ _ us hl => match us, hl with | [_, _], _ => rfl
  have b_mark_by : Binds K fd_mark_by ["mixing", "w", "x"] [] := FunD.bindsN F_mark_by fun _ _ _ _ _ _ us hl => match us, hl with | [_, _, _], _ => rfl
  have b_is_mesh : Binds K fd_is_mesh ["told"] [] := FunD.bindsN F_is_mesh fun _ _ _ _ _ _ us hl => match us, hl with | [_], _ => rfl
  have b_check_mesh : Binds K fd_check_mesh ["mesh"] [] := FunD.bindsN F_check_mesh fun _ _ _ _ _ _ us hl => match us, hl with | [_], _ => rfl
  have b_lets : Binds K fd_lets ["mesh", "x"] [] := FunD.bindsN F_lets fun _ _ _ _ _ _ us hl => match us, hl with | [_, _], _ => rfl
  have b_let_rests : Binds K fd_let_rests ["mesh"] [] := FunD.bindsN F_let_rests fun _ _ _ _ _ _ us hl => match us, hl with | [_], _ => rfl
  have b_is_filter : Binds K fd_is_filter ["told"] [] := FunD.bindsN F_is_filter fun _ _ _ _ _ _ us hl => match us, hl with | [_], _ => rfl
  have b_lets_in : Binds K fd_lets_in ["mesh", "x"] [] := FunD.bindsN F_lets_in fun _ _ _ _ _ _ us hl => match us, hl with | [_, _], _ => rfl
  have b_wrongly : Binds K fd_wrongly ["mesh", "numbers", "many"] [] := FunD.bindsN F_wrongly fun _ _ _ _ _ _ us hl => match us, hl with | [_, _, _], _ => rfl
  have b_how_many_in : Binds K fd_how_many_in ["mesh", "many"] [] := FunD.bindsN F_how_many_in fun _ _ _ _ _ _ us hl => match us, hl with | [_, _], _ => rfl
  have b_both : Binds K fd_both ["one", "other", "many"] [] := FunD.bindsN F_both fun _ _ _ _ _ _ us hl => match us, hl with | [_, _, _], _ => rfl
  have b__law_well : Binds K fd__law_well ["_law_script", "_law_place"] [] := FunD.bindsN F__law_well fun _ _ _ _ _ _ us hl => match us, hl with | [_, _], _ => rfl
  have b__law_dip : Binds K fd__law_dip ["_law_well_here", "_law_many"] [] := FunD.bindsN F__law_dip fun _ _ _ _ _ _ us hl => match us, hl with | [_, _], _ => rfl
  have b__law_same : Binds K fd__law_same ["_law_told", "_law_due"] [] := FunD.bindsN F__law_same fun _ _ _ _ _ _ us hl => match us, hl with | [_, _], _ => rfl
  have b__law_sum : Binds K fd__law_sum ["_law_some"] [] := FunD.bindsN F__law_sum fun _ _ _ _ _ _ us hl => match us, hl with | [_], _ => rfl
  have b__law_power : Binds K fd__law_power ["_law_many"] [] := FunD.bindsN F__law_power fun _ _ _ _ _ _ us hl => match us, hl with | [_], _ => rfl
  have b__law_first : Binds K fd__law_first ["_law_m", "_law_rows", "_law_values"] [] := FunD.bindsN F__law_first fun _ _ _ _ _ _ us hl => match us, hl with | [_, _, _], _ => rfl
  have b__law_mixing : Binds K fd__law_mixing ["_law_well_here", "_law_most"] [] := FunD.bindsN F__law_mixing fun _ _ _ _ _ _ us hl => match us, hl with | [_, _], _ => rfl
  have b__law_row : Binds K fd__law_row ["_law_mixing_here", "_law_x"] [] := FunD.bindsN F__law_row fun _ _ _ _ _ _ us hl => match us, hl with | [_, _], _ => rfl
  have b__law_mark : Binds K fd__law_mark ["_law_mixing_here", "_law_w", "_law_x"] [] := FunD.bindsN F__law_mark fun _ _ _ _ _ _ us hl => match us, hl with | [_, _, _], _ => rfl
  have b__law_numbers : Binds K fd__law_numbers ["_law_well_here", "_law_most"] [] := FunD.bindsN F__law_numbers fun _ _ _ _ _ _ us hl => match us, hl with | [_, _], _ => rfl
  have b__law_lets : Binds K fd__law_lets ["_law_own", "_law_x"] [] := FunD.bindsN F__law_lets fun _ _ _ _ _ _ us hl => match us, hl with | [_, _], _ => rfl
  have b__law_filter : Binds K fd__law_filter ["_law_well_here", "_law_most"] [] := FunD.bindsN F__law_filter fun _ _ _ _ _ _ us hl => match us, hl with | [_, _], _ => rfl
  have b__law_put : Binds K fd__law_put ["_law_row_here", "_law_at", "_law_value"] [] := FunD.bindsN F__law_put fun _ _ _ _ _ _ us hl => match us, hl with | [_, _, _], _ => rfl
  have b__law_odd_mixings : Binds K fd__law_odd_mixings ["_law_well_here", "_law_mixing_here"] [] := FunD.bindsN F__law_odd_mixings fun _ _ _ _ _ _ us hl => match us, hl with | [_, _], _ => rfl
  have b__law_odd_filters : Binds K fd__law_odd_filters ["_law_well_here", "_law_own"] [] := FunD.bindsN F__law_odd_filters fun _ _ _ _ _ _ us hl => match us, hl with | [_, _], _ => rfl
  have b__law_refused : Binds K fd__law_refused ["_law_way", "_law_mesh", "_law_good"] [] := FunD.bindsN F__law_refused fun _ _ _ _ _ _ us hl => match us, hl with | [_, _, _], _ => rfl
  have b_law : Binds K fd_law ["_law_script"] [] := FunD.bindsN F_law fun _ _ _ _ _ _ us hl => match us, hl with | [_], _ => rfl
  have bA := FunD.bindsA (ps := ["_law_script"]) F_law fun _ _ _ _ _ _ us hl => match us, hl with | [_], _ => rfl
  refine ⟨fd_law, fun s v => bA s [v] rfl, fun base _ _ => ?_⟩
  have hI := hI base
  have T_is_integer : FT P w K mg base "is_integer" 1 ["value"] sp_is_integer _ _ := ⟨ok_is_integer F_is_integer m_isinstance m_int m_bool, hm_is_integer, F_is_integer.kp, b_is_integer⟩
  have T_is_natural : FT P w K mg base "is_natural" 2 ["value"] sp_is_natural _ _ := ⟨ok_is_natural F_is_natural T_is_integer, hm_is_natural, F_is_natural.kp, b_is_natural⟩
  have T_sum_of_words : FT P w K mg base "sum_of_words" 1 ["words"] sp_sum_of_words _ _ := ⟨ok_sum_of_words F_sum_of_words, hm_sum_of_words, F_sum_of_words.kp, b_sum_of_words⟩
  have T_bits_of : FT P w K mg base "bits_of" 1 ["a"] sp_bits_of _ _ := ⟨ok_bits_of F_bits_of m_tuple, hm_bits_of, F_bits_of.kp, b_bits_of⟩
  have T_width_of : FT P w K mg base "width_of" 2 ["a"] sp_width_of _ _ := ⟨ok_width_of F_width_of T_bits_of, hm_width_of, F_width_of.kp, b_width_of⟩
  have T_is_word_of : FT P w K mg base "is_word_of" 3 ["w", "told"] sp_is_word_of _ _ := ⟨ok_is_word_of F_is_word_of T_is_natural T_width_of, hm_is_word_of, F_is_word_of.kp, b_is_word_of⟩
  have T_told_by_row : FT P w K mg base "told_by_row" 2 ["table", "row"] sp_told_by_row _ _ := ⟨ok_told_by_row F_told_by_row T_sum_of_words, hm_told_by_row, F_told_by_row.kp, b_told_by_row⟩
  have T_is_pair_below : FT P w K mg base "is_pair_below" 2 ["p", "told"] sp_is_pair_below _ _ := ⟨ok_is_pair_below F_is_pair_below T_is_integer m_isinstance m_tuple m_len m_all, hm_is_pair_below, F_is_pair_below.kp, b_is_pair_below⟩
  have T_is_mixing_told : FT P w K mg base "is_mixing_told" 3 ["told"] sp_is_mixing_told _ _ := ⟨ok_is_mixing_told F_is_mixing_told T_is_integer T_is_pair_below m_isinstance m_tuple m_len m_all, hm_is_mixing_told, F_is_mixing_told.kp, b_is_mixing_told⟩
  have T_check_from : FT P w K mg base "check_from" 3 ["number", "least"] sp_check_from _ _ := ⟨ok_check_from F_check_from T_is_integer hI x_InvalidNumber c_InvalidNumber, hm_check_from, F_check_from.kp, b_check_from⟩
  have T_check_numbers : FT P w K mg base "check_numbers" 3 ["numbers"] sp_check_numbers _ _ := ⟨ok_check_numbers F_check_numbers T_is_integer m_isinstance m_list m_tuple m_all m_len m_set hI x_InvalidValues c_InvalidValues, hm_check_numbers, F_check_numbers.kp, b_check_numbers⟩
  have T_mixed : FT P w K mg base "mixed" 1 ["pair", "p", "x"] sp_mixed _ _ := ⟨ok_mixed F_mixed, hm_mixed, F_mixed.kp, b_mixed⟩
  have T_row_by : FT P w K mg base "row_by" 2 ["mixing", "x"] sp_row_by _ _ := ⟨ok_row_by F_row_by T_mixed m_tuple m_sorted m_set, hm_row_by, F_row_by.kp, b_row_by⟩
  have T_mark_by : FT P w K mg base "mark_by" 2 ["mixing", "w", "x"] sp_mark_by _ _ := ⟨ok_mark_by F_mark_by T_mixed, hm_mark_by, F_mark_by.kp, b_mark_by⟩
  have T_is_mesh : FT P w K mg base "is_mesh" 4 ["told"] sp_is_mesh _ _ := ⟨ok_is_mesh F_is_mesh T_is_mixing_told T_is_integer T_is_word_of m_isinstance m_tuple m_len m_all, hm_is_mesh, F_is_mesh.kp, b_is_mesh⟩
  have T_check_mesh : FT P w K mg base "check_mesh" 5 ["mesh"] sp_check_mesh _ _ := ⟨ok_check_mesh F_check_mesh T_is_mesh hI x_InvalidFilter c_InvalidFilter, hm_check_mesh, F_check_mesh.kp, b_check_mesh⟩
  have T_lets : FT P w K mg base "lets" 3 ["mesh", "x"] sp_lets _ _ := ⟨ok_lets F_lets T_told_by_row T_row_by T_mark_by, hm_lets, F_lets.kp, b_lets⟩
  have T_let_rests : FT P w K mg base "let_rests" 4 ["mesh"] sp_let_rests _ _ := ⟨ok_let_rests F_let_rests T_lets m_range, hm_let_rests, F_let_rests.kp, b_let_rests⟩
  have T_is_filter : FT P w K mg base "is_filter" 5 ["told"] sp_is_filter _ _ := ⟨ok_is_filter F_is_filter T_is_mesh, hm_is_filter, F_is_filter.kp, b_is_filter⟩
  have T_lets_in : FT P w K mg base "lets_in" 6 ["mesh", "x"] sp_lets_in _ _ := ⟨ok_lets_in F_lets_in T_check_mesh T_check_from T_lets, hm_lets_in, F_lets_in.kp, b_lets_in⟩
  have T_wrongly : FT P w K mg base "wrongly" 6 ["mesh", "numbers", "many"] sp_wrongly _ _ := ⟨ok_wrongly F_wrongly T_check_mesh T_check_from T_check_numbers T_lets m_range, hm_wrongly, F_wrongly.kp, b_wrongly⟩
  have T_how_many_in : FT P w K mg base "how_many_in" 6 ["mesh", "many"] sp_how_many_in _ _ := ⟨ok_how_many_in F_how_many_in T_check_mesh T_check_from T_let_rests m_len m_sum, hm_how_many_in, F_how_many_in.kp, b_how_many_in⟩
  have T_both : FT P w K mg base "both" 6 ["one", "other", "many"] sp_both _ _ := ⟨ok_both F_both T_check_mesh T_check_from T_let_rests m_len m_sum m_range mb_gcd, hm_both, F_both.kp, b_both⟩
  have T__law_well : FT P w K mg base "_law_well" 1 ["_law_script", "_law_place"] sp__law_well _ _ := ⟨ok__law_well F__law_well m_len m_int m_max m_abs, hm__law_well, F__law_well.kp, b__law_well⟩
  have T__law_dip : FT P w K mg base "_law_dip" 1 ["_law_well_here", "_law_many"] sp__law_dip _ _ := ⟨ok__law_dip F__law_dip m_int, hm__law_dip, F__law_dip.kp, b__law_dip⟩
  have T__law_same : FT P w K mg base "_law_same" 9 ["_law_told", "_law_due"] sp__law_same _ _ := ⟨ok__law_same F__law_same hm__law_same b__law_same m_isinstance m_bool m_tuple m_list m_len m_range m_str m_int, hm__law_same, F__law_same.kp, b__law_same⟩
  have T__law_sum : FT P w K mg base "_law_sum" 1 ["_law_some"] sp__law_sum _ _ := ⟨ok__law_sum F__law_sum, hm__law_sum, F__law_sum.kp, b__law_sum⟩
  have T__law_power : FT P w K mg base "_law_power" 1 ["_law_many"] sp__law_power _ _ := ⟨ok__law_power F__law_power m_range, hm__law_power, F__law_power.kp, b__law_power⟩
  have T__law_first : FT P w K mg base "_law_first" 2 ["_law_m", "_law_rows", "_law_values"] sp__law_first _ _ := ⟨ok__law_first F__law_first T__law_sum m_zip m_list m_max m_range m_tuple, hm__law_first, F__law_first.kp, b__law_first⟩
  have T__law_mixing : FT P w K mg base "_law_mixing" 2 ["_law_well_here", "_law_most"] sp__law_mixing _ _ := ⟨ok__law_mixing F__law_mixing T__law_dip m_tuple m_range, hm__law_mixing, F__law_mixing.kp, b__law_mixing⟩
  have T__law_row : FT P w K mg base "_law_row" 1 ["_law_mixing_here", "_law_x"] sp__law_row _ _ := ⟨ok__law_row F__law_row m_int m_tuple m_sorted, hm__law_row, F__law_row.kp, b__law_row⟩
  have T__law_mark : FT P w K mg base "_law_mark" 2 ["_law_mixing_here", "_law_w", "_law_x"] sp__law_mark _ _ := ⟨ok__law_mark F__law_mark T__law_power m_int, hm__law_mark, F__law_mark.kp, b__law_mark⟩
  have T__law_numbers : FT P w K mg base "_law_numbers" 2 ["_law_well_here", "_law_most"] sp__law_numbers _ _ := ⟨ok__law_numbers F__law_numbers T__law_dip m_range, hm__law_numbers, F__law_numbers.kp, b__law_numbers⟩
  have T__law_lets : FT P w K mg base "_law_lets" 3 ["_law_own", "_law_x"] sp__law_lets _ _ := ⟨ok__law_lets F__law_lets T__law_sum T__law_row T__law_mark, hm__law_lets, F__law_lets.kp, b__law_lets⟩
  have T__law_filter : FT P w K mg base "_law_filter" 3 ["_law_well_here", "_law_most"] sp__law_filter _ _ := ⟨ok__law_filter F__law_filter T__law_dip T__law_mixing T__law_numbers T__law_mark T__law_first T__law_row T__law_power m_tuple m_range, hm__law_filter, F__law_filter.kp, b__law_filter⟩
  have T__law_put : FT P w K mg base "_law_put" 1 ["_law_row_here", "_law_at", "_law_value"] sp__law_put _ _ := ⟨ok__law_put F__law_put, hm__law_put, F__law_put.kp, b__law_put⟩
  have T__law_odd_mixings : FT P w K mg base "_law_odd_mixings" 2 ["_law_well_here", "_law_mixing_here"] sp__law_odd_mixings _ _ := ⟨ok__law_odd_mixings F__law_odd_mixings T__law_dip T__law_put m_len m_str m_list, hm__law_odd_mixings, F__law_odd_mixings.kp, b__law_odd_mixings⟩
  have T__law_odd_filters : FT P w K mg base "_law_odd_filters" 3 ["_law_well_here", "_law_own"] sp__law_odd_filters _ _ := ⟨ok__law_odd_filters F__law_odd_filters T__law_dip T__law_power T__law_put T__law_odd_mixings m_len m_list m_range, hm__law_odd_filters, F__law_odd_filters.kp, b__law_odd_filters⟩
  have T__law_refused : FT P w K mg base "_law_refused" 7 ["_law_way", "_law_mesh", "_law_good"] sp__law_refused _ _ := ⟨ok__law_refused F__law_refused T_lets_in T_how_many_in T_wrongly T_both hI x_InvalidFilter c_InvalidFilter (kb_how_many_in_0_many_mesh F_how_many_in), hm__law_refused, F__law_refused.kp, b__law_refused⟩
  exact ok_law F_law T__law_well T__law_filter T__law_dip T_is_filter T__law_odd_filters T__law_same T__law_refused m_range m_max m_min m_len (kb_is_filter_0_told F_is_filter)
end Lk
open PySem PySem.W PySem.Calls PyProof.Rows
theorem PySem.Challenge.cw_keytellers_k35_whole_filters_judged_holds : PySem.Challenge.rw_keytellers_k35_whole_filters_judged.Holds := by
  w_on; o_law
  refine HandSHeadRun.head_imp (r := OpenLaw.row PySem.Challenge.rw_keytellers_k35_whole_filters_judged) (q := view (OpenLaw.row PySem.Challenge.rw_keytellers_k35_whole_filters_judged).prog [0, 51]) (H := Lk.hk) (ob := Lk.ob) (M := 20000) (loose := Lk.loose) (d := HandSHeadRun.topDef (OpenLaw.row PySem.Challenge.rw_keytellers_k35_whole_filters_judged).prog 51) (kwd := []) Lk.ob_eq
    Lk.run (by kernel_rfl) (by kernel_rfl) (by kernel_rfl) (by rfl) (by first | assumption | decide +kernel) (by decide +kernel) ⟨rfl, rfl, rfl, rfl, rfl, by decide +kernel⟩ ?hw ?hc
  case hw => w_witness2
  case hc =>
    refine Q.walk_ofW (l := PySem.Challenge.rw_keytellers_k35_whole_filters_judged) (n := 63) (k := 10) (x := "_law_script") rfl (by decide) (by kernel_rfl) ⟨rfl, by decide, by decide⟩ ?F
    intro w mg fa h Y G hmg0
    obtain ⟨K, KX, c⟩ := Y
    have hmg : mg ("law" : PySem.Str) = some (.ref fa) := by
      have e : (HandSHeadRun.topDef (OpenLaw.row PySem.Challenge.rw_keytellers_k35_whole_filters_judged).prog 51).name = ("law" : PySem.Str) := by kernel_rfl
      rw [← e]
      exact hmg0
    obtain ⟨fd, hb, hF⟩ := Lk.facts (P := (PySem.Challenge.rw_keytellers_k35_whole_filters_judged).prog) (w := w) KX G hmg c
    exact ⟨K, fd, _, ⟨KX, hb⟩, fun H a ns hl ho hS => Q.law_sp ho hS (Q.law_top ns hl), hF⟩
